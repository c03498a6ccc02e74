/- FnHardened: whatever the bytes that the law draws from, exactly the paths with a box that refuses what means nothing are found by values in motion. No condition. -/
import Derived.Test.YtdoefkloanpliaaWWords
import Derived.Test.YtdoefkloanpliaaPrint0
import Derived.Test.YtdoefkloanpliaaPrint1
import Derived.Test.YtdoefkloanpliaaPrint2
import Derived.Test.YtdoefkloanpliaaPrint3
import Derived.Test.YtdoefkloanpliaaPrint5
import Derived.Test.YtdoefkloanpliaaPrint4
import Derived.Test.YtdoefkloanpliaaPrint10
import Derived.Test.YtdoefkloanpliaaPrint9
import Derived.Test.YtdoefkloanpliaaPrint11
import Derived.Test.YtdoefkloanpliaaPrint12
import Derived.Test.YtdoefkloanpliaaPrint6
import Derived.Test.YtdoefkloanpliaaPrint8
import Derived.Test.YtdoefkloanpliaaPrint7
import Derived.Test.YtdoefkloanpliaaPrint13
import Derived.Laws.Bits64b
/- What a function with rounds comes to when it has rounds enough, as an option: its equations hold without rounds. No condition. -/
namespace Go.Proofs.Ytdoefkloanpliaa.Base
open Go.RowKit Go.Proofs.YtdoefkloanpliaaW.PrintWords

/-- More rounds tell the same. -/
def Mo {α : Type} (g : Nat → Option α) : Prop := ∀ k, LeO (g k) (g (k + 1))
theorem mo_le {α : Type} {g : Nat → Option α} (h : Mo g) {k k' : Nat} (hk : k ≤ k') {r : α} (hr : g k = some r) : g k' = some r := at_rounds h hk hr
open Classical in
/-- What it comes to at last: nothing, or one answer. -/
noncomputable def Lim {α : Type} (g : Nat → Option α) : Option α := if h : ∃ r, ∃ k, g k = some r then some (Classical.choose h) else none
theorem lim_some {α : Type} {g : Nat → Option α} (h : Mo g) {k : Nat} {r : α} (hr : g k = some r) : Lim g = some r := by
  have hx : ∃ r, ∃ k, g k = some r := ⟨r, k, hr⟩
  unfold Lim
  rw [dif_pos hx]
  obtain ⟨k', hk'⟩ := Classical.choose_spec hx
  have h1 := mo_le h (Nat.le_max_left k k') hr
  have h2 := mo_le h (Nat.le_max_right k k') hk'
  rw [h1] at h2
  exact h2.symm
theorem of_lim {α : Type} {g : Nat → Option α} {r : α} (h : Lim g = some r) : ∃ k, g k = some r := by
  unfold Lim at h
  split at h
  · rename_i hx
    obtain rfl := Option.some.inj h
    exact Classical.choose_spec hx
  · cases h
theorem lim_none {α : Type} {g : Nat → Option α} (h : Lim g = none) (k : Nat) : g k = none := by
  cases hk : g k with
  | none => rfl
  | some r =>
    unfold Lim at h
    rw [dif_pos ⟨r, k, hk⟩] at h
    cases h
theorem none_lim {α : Type} {g : Nat → Option α} (h : ∀ k, g k = none) : Lim g = none := by
  unfold Lim
  rw [dif_neg]
  rintro ⟨r, k, hk⟩
  rw [h k] at hk
  cases hk
structure Is {α : Type} (g : Nat → Option α) (v : Option α) : Prop where
  mo : Mo g
  lim : Lim g = v
theorem Is.now {α : Type} (v : Option α) : Is (fun _ => v) v := by
  refine ⟨fun _ => LeO.refl _, ?_⟩
  cases v with
  | none => exact none_lim fun _ => rfl
  | some r => exact lim_some (g := fun _ => some r) (fun _ => LeO.refl _) (k := 0) rfl
theorem Is.ite {α : Type} {c : Prop} [Decidable c] {g h : Nat → Option α} {a b : Option α} (hg : Is g a) (hh : Is h b) : Is (fun k => if c then g k else h k) (if c then a else b) := by
  by_cases hc : c
  · simp only [if_pos hc]
    exact hg
  · simp only [if_neg hc]
    exact hh
theorem Is.bind {α β : Type} {g : Nat → Option α} {f : Nat → α → Option β} {a : Option α} {b : α → Option β} (hg : Is g a) (hf : ∀ x, Is (fun k => f k x) (b x)) : Is (fun k => (g k).bind (f k)) (a.bind b) := by
  have hm : Mo (fun k => (g k).bind (f k)) := fun k => LeO.bind (hg.mo k) (fun x => (hf x).mo k)
  refine ⟨hm, ?_⟩
  cases ha : a with
  | none =>
    refine none_lim fun k => ?_
    rw [lim_none (hg.lim.trans ha) k]
    rfl
  | some x =>
    obtain ⟨k, hk⟩ := of_lim (hg.lim.trans ha)
    show _ = b x
    cases hb : b x with
    | none =>
      refine none_lim fun k' => ?_
      cases hx : (g k').bind (f k') with
      | none => rfl
      | some r =>
        have h1 := mo_le hm (Nat.le_max_left k' k) hx
        have h2 := mo_le hg.mo (Nat.le_max_right k' k) hk
        simp only [h2, Option.bind_some] at h1
        rw [lim_none ((hf x).lim.trans hb)] at h1
        cases h1
    | some r =>
      obtain ⟨k', hk'⟩ := of_lim ((hf x).lim.trans hb)
      refine lim_some hm (k := max k k') ?_
      simp only [mo_le hg.mo (Nat.le_max_left k k') hk, Option.bind_some]
      exact mo_le (hf x).mo (Nat.le_max_right k k') hk'
theorem Is.step {α : Type} {g b : Nat → Option α} {v : Option α} (hg : Mo g) (h : ∀ k, g (k + 1) = b k) (hb : Is b v) : Lim g = v := by
  rw [← hb.lim]
  cases hx : Lim g with
  | none =>
    symm
    refine none_lim fun k => ?_
    rw [← h k]
    exact lim_none hx _
  | some r =>
    obtain ⟨k, hk⟩ := of_lim hx
    symm
    refine lim_some hb.mo (k := k) ?_
    rw [← h k]
    exact mo_le hg (Nat.le_succ k) hk
theorem ends {α : Type} {g : Nat → Option α} {r : α} (h : Lim g = some r) : ∃ k, g k = some r := of_lim h
end Go.Proofs.Ytdoefkloanpliaa.Base

/- Lists read by a whole number's index, and whole numbers that fit. No condition. -/
set_option linter.unusedSimpArgs false
set_option linter.unusedVariables false
namespace Go.Proofs.Ytdoefkloanpliaa.Plain
open Go.RowKit Go.Proofs.YtdoefkloanpliaaW.PrintWords

theorem w64 {x : Int} (h0 : -9223372036854775808 ≤ x) (h1 : x ≤ 9223372036854775807) : wrap64 x = x := by
  unfold wrap64
  omega
theorem rd_mid (pre suf : List Int) (x : Int) : rd (pre ++ x :: suf) (pre.length : Int) = x := by simp [rd]
theorem lt_mid {α : Type} (pre suf : List α) (x : α) : (pre.length : Int) < ((pre ++ x :: suf).length : Int) := by
  simp
  omega
theorem nlt_end {α : Type} (pre : List α) : ¬ (pre.length : Int) < ((pre ++ []).length : Int) := by simp
theorem up_mid {α : Type} (pre : List α) (x : α) {n : Nat} (h : pre.length < n) (hn : n ≤ 1000000000000) : wrap64 ((pre.length : Int) + 1) = ((pre ++ [x]).length : Int) := by
  rw [w64 (by omega) (by omega)]
  simp
theorem set_mid {α : Type} (pre suf : List α) (x y : α) : (pre ++ x :: suf).set (pre.length : Int).toNat y = (pre ++ [y]) ++ suf := by
  rw [Int.toNat_natCast, List.set_append_right _ _ (Nat.le_refl _), Nat.sub_self]
  simp
theorem mid_snoc {α : Type} (pre suf : List α) (x : α) : pre ++ x :: suf = (pre ++ [x]) ++ suf := by simp
theorem beq_ints (a b : List Int) : (a == b) = decide (a = b) := by
  by_cases h : a = b <;> simp [h]
end Go.Proofs.Ytdoefkloanpliaa.Plain

/- When two boxes, and two paths, are the same. No program. No condition. -/
set_option linter.unusedSimpArgs false
set_option linter.unusedVariables false
namespace Go.Proofs.Ytdoefkloanpliaa.Plain
open Go.RowKit Go.Proofs.YtdoefkloanpliaaW.PrintWords Go.Proofs.Ytdoefkloanpliaa.Base Go.Proofs.Ytdoefkloanpliaa.Print

theorem rdBox_mid (pre suf : List S67) (x : S67) : rd_T67 (pre ++ x :: suf) (pre.length : Int) = x := by simp [rd_T67]
/-- Its rows are not too long. -/
def okB (b : S67) : Prop := b.f1.length ≤ 1000000000000 ∧ b.f2.length ≤ 1000000000000
def eqB (a b : S67) : Bool := decide (a.f0 = b.f0) && (decide (a.f1 = b.f1) && (decide (a.f2 = b.f2) && (a.f3 == b.f3)))
def eqBs : List S67 → List S67 → Bool
  | [], [] => true
  | a :: l, b :: m => eqB a b && eqBs l m
  | _, _ => false
theorem eqBs_len {l m : List S67} : l.length ≠ m.length → eqBs l m = false := by
  induction l generalizing m with
  | nil =>
    intro h
    cases m with
    | nil => exact absurd rfl h
    | cons b m => rfl
  | cons a l ih =>
    intro h
    cases m with
    | nil => rfl
    | cons b m =>
      simp only [eqBs]
      rw [ih (by simpa using h), Bool.and_false]
end Go.Proofs.Ytdoefkloanpliaa.Plain

/- Ranges, of the program and of the reference. No condition. -/
set_option linter.unusedSimpArgs false
set_option linter.unusedVariables false
namespace Go.Proofs.Ytdoefkloanpliaa.Plain
open Go.RowKit Go.Proofs.YtdoefkloanpliaaW.PrintWords Go.Proofs.Ytdoefkloanpliaa.Base Go.Proofs.Ytdoefkloanpliaa.Print

/-- lo ≤ n ≤ hi -/
def inR (lo hi n : Int) : Bool := decide (lo ≤ n) && decide (n ≤ hi)
theorem inR_true {lo hi n : Int} : inR lo hi n = true ↔ lo ≤ n ∧ n ≤ hi := by simp [inR]
theorem inR_false {lo hi n : Int} : inR lo hi n = false ↔ n < lo ∨ hi < n := by
  simp only [inR, Bool.and_eq_false_iff, decide_eq_false_iff_not]
  omega
theorem inRange_f (n lo hi : Int) : impl_InRange.f n lo hi = some (inR lo hi n) := by
  unfold impl_InRange.f inR
  by_cases h : lo ≤ n <;> simp [h]
end Go.Proofs.Ytdoefkloanpliaa.Plain

/- Lists of versions: ascending, from 1 to 9; membership; what two lists share. No program. No condition. -/
set_option linter.unusedSimpArgs false
set_option linter.unusedVariables false
namespace Go.Proofs.Ytdoefkloanpliaa.Plain
open Go.RowKit Go.Proofs.YtdoefkloanpliaaW.PrintWords Go.Proofs.Ytdoefkloanpliaa.Base Go.Proofs.Ytdoefkloanpliaa.Print

/-- Versions that grow, all above p. -/
def vers : Int → List Int → Bool
  | _, [] => true
  | p, x :: l => inR 1 9 x && (decide (p < x) && vers x l)
/-- A list of versions, and not empty. -/
def areV (l : List Int) : Bool := vers 0 l && decide (0 < l.length)
/-- Is x in the list? -/
def mem (l : List Int) (x : Int) : Bool := decide (x ∈ l)
/-- What two lists share. -/
def com (a b : List Int) : List Int := a.filter (mem b)
/-- The best version that two lists share. -/
def best (a b : List Int) : Int := if areV a && areV b then (com a b).getLastD 0 else 0
theorem mem_cons (x y : Int) (l : List Int) : mem (y :: l) x = (decide (y = x) || mem l x) := by
  by_cases h : y = x
  · simp [mem, h]
  · have h' : ¬ x = y := fun e => h e.symm
    simp [mem, h, h']
theorem mem_nil (x : Int) : mem [] x = false := by simp [mem]
theorem vers_le {p q : Int} {l : List Int} (h : vers p l = true) (hq : q ≤ p) : vers q l = true := by
  cases l with
  | nil => rfl
  | cons x l =>
    simp only [vers, Bool.and_eq_true, decide_eq_true_eq] at h ⊢
    exact ⟨h.1, by omega, h.2.2⟩
theorem vers_filter (f : Int → Bool) {l : List Int} : ∀ {p : Int}, vers p l = true → vers p (l.filter f) = true := by
  induction l with
  | nil =>
    intro p h
    rfl
  | cons x l ih =>
    intro p h
    simp only [vers, Bool.and_eq_true, decide_eq_true_eq] at h
    cases hf : f x with
    | true =>
      rw [List.filter_cons_of_pos hf]
      simp only [vers, Bool.and_eq_true, decide_eq_true_eq]
      exact ⟨h.1, h.2.1, ih h.2.2⟩
    | false =>
      rw [List.filter_cons_of_neg (by simp [hf])]
      exact vers_le (ih h.2.2) (by omega)
theorem vers_len {l : List Int} : ∀ {p : Int}, vers p l = true → p ≤ 9 → (l.length : Int) ≤ 9 - p := by
  induction l with
  | nil =>
    intro p _ hp
    simp
    omega
  | cons x l ih =>
    intro p h hp
    simp only [vers, Bool.and_eq_true, decide_eq_true_eq, inR_true] at h
    have := ih h.2.2 (by omega)
    simp only [List.length_cons]
    omega
theorem areV_len {l : List Int} (h : areV l = true) : l.length ≤ 9 := by
  simp only [areV, Bool.and_eq_true] at h
  have := vers_len h.1 (by omega)
  omega
theorem vers_mem {l : List Int} : ∀ {p : Int}, vers p l = true → ∀ x ∈ l, 1 ≤ x ∧ x ≤ 9 ∧ p < x := by
  induction l with
  | nil =>
    intro p _ x hx
    cases hx
  | cons y l ih =>
    intro p h x hx
    simp only [vers, Bool.and_eq_true, decide_eq_true_eq, inR_true] at h
    cases hx with
    | head => omega
    | tail _ hx =>
      have := ih h.2.2 x hx
      omega
theorem areV_mem {l : List Int} (h : areV l = true) : ∀ x ∈ l, 1 ≤ x ∧ x ≤ 9 := by
  simp only [areV, Bool.and_eq_true] at h
  intro x hx
  have := vers_mem h.1 x hx
  omega
theorem com_len (a b : List Int) : (com a b).length ≤ a.length := List.length_filter_le _ _
theorem lastD_cons (x : Int) (l : List Int) (d : Int) : (x :: l).getLastD d = l.getLastD x := by
  cases l <;> rfl
theorem rd_lastD (pre suf : List Int) (h : pre ≠ []) : rd (pre ++ suf) ((pre.length : Int) - 1) = pre.getLastD 0 := by
  have hl : 0 < pre.length := List.length_pos_iff.mpr h
  have e : ((pre.length : Int) - 1).toNat = pre.length - 1 := by omega
  have h1 : pre.length - 1 < pre.length := by omega
  simp [rd, e, List.getD_eq_getElem?_getD, List.getElem?_append_left h1, List.getLastD_eq_getLast?, List.getLast?_eq_getElem?]
theorem lastD_mem (l : List Int) (h : l ≠ []) (d : Int) : l.getLastD d ∈ l := by
  cases l with
  | nil => exact absurd rfl h
  | cons x l => exact List.getLast_mem _
end Go.Proofs.Ytdoefkloanpliaa.Plain

/- When a box, a list of tags and an endpoint are in form. No program. No condition. -/
set_option linter.unusedSimpArgs false
set_option linter.unusedVariables false
namespace Go.Proofs.Ytdoefkloanpliaa.Plain
open Go.RowKit Go.Proofs.YtdoefkloanpliaaW.PrintWords Go.Proofs.Ytdoefkloanpliaa.Base Go.Proofs.Ytdoefkloanpliaa.Print

def isB (b : S67) : Bool := inR 0 9 b.f0 && (decide (b.f1.length ≤ 6) && (decide (b.f2.length ≤ 6) && (b.f1.all (inR 0 255) && b.f2.all (inR 0 255))))
/-- Is a tag one of those that mean nothing? -/
def res (x : Int) : Bool := inR 0 255 x && (Int.tmod x 16 == 10)
/-- Is x above the one before it? -/
def above : Option Int → Int → Bool
  | none, _ => true
  | some p, x => decide (p < x)
def asc : Option Int → List Int → Bool
  | _, [] => true
  | o, x :: l => above o x && asc (some x) l
/-- The same with all that the reference asks of a tag. -/
def tagsS : Option Int → List Int → Bool
  | _, [] => true
  | o, x :: l => inR 0 255 x && (!res x && (above o x && tagsS (some x) l))
theorem tagsS_eq (l : List Int) : ∀ o, tagsS o l = ((asc o l && l.all (inR 0 255)) && !(l.any res)) := by
  induction l with
  | nil =>
    intro o
    rfl
  | cons x l ih =>
    intro o
    simp only [tagsS, asc, List.all_cons, List.any_cons, ih]
    cases inR 0 255 x <;> cases res x <;> cases above o x <;> cases asc (some x) l <;> cases l.all (inR 0 255) <;> cases l.any res <;> rfl
/-- Is an endpoint in form? -/
def isE (v t : List Int) (p : List S67) (c : Int) : Bool :=
  areV v && (decide (t.length ≤ 5) && ((asc none t && t.all (inR 0 255)) && (!(t.any res) && (decide (p.length ≤ 4) && (p.all isB && inR 0 5 c)))))
theorem lastO (pre suf : List Int) (h : pre ≠ []) : pre.getLast? = some (rd (pre ++ suf) ((pre.length : Int) - 1)) := by
  rw [rd_lastD pre suf h, List.getLast?_eq_some_getLast h]
  cases pre with
  | nil => exact absurd rfl h
  | cons x l => rfl
end Go.Proofs.Ytdoefkloanpliaa.Plain

/- Extensions and hellos in form, and what a box does to a hello. No program. No condition. -/
set_option linter.unusedSimpArgs false
set_option linter.unusedVariables false
namespace Go.Proofs.Ytdoefkloanpliaa.Plain
open Go.RowKit Go.Proofs.YtdoefkloanpliaaW.PrintWords Go.Proofs.Ytdoefkloanpliaa.Base Go.Proofs.Ytdoefkloanpliaa.Print

theorem rdExt_mid (pre suf : List S114) (x : S114) : rd_T114 (pre ++ x :: suf) (pre.length : Int) = x := by simp [rd_T114]
def hasT (l : List S114) (t : Int) : Bool := l.any (fun y => decide (y.f0 = t))
/-- Are these extensions in form, behind others? -/
def areX : List S114 → List S114 → Bool
  | _, [] => true
  | pre, x :: l => inR 0 255 x.f0 && (!hasT pre x.f0 && (decide (x.f1.length ≤ 4) && (x.f1.all (inR 0 255) && areX (pre ++ [x]) l)))
def isX (l : List S114) : Bool := areX [] l && decide (l.length ≤ 6)
def isH (v : List Int) (l : List S114) : Bool := areV v && isX l
/-- Its bodies are not too long. -/
def okXs (l : List S114) : Prop := ∀ x ∈ l, x.f1.length ≤ 1000000000000
/-- Does a box drop what has this tag? -/
def drops (b : S67) (t : Int) : Bool := mem b.f1 t || (b.f3 && (!mem b.f2 t && !inR 1 3 t))
/-- Does a box lose a hello? -/
def lose (b : S67) (v : List Int) (l : List S114) : Bool := (!decide (b.f0 = 0) && decide (v.getLastD 0 > b.f0)) || l.any (fun x => drops b x.f0)
/-- What a box leaves of the extensions. -/
def kept (b : S67) (l : List S114) : List S114 := l.filter (fun x => !mem b.f2 x.f0)
def pass (b : S67) (v : List Int) (l : List S114) : List Int × List S114 × Bool :=
  if isB b && (isH v l && !lose b v l) then (v, kept b l, true) else ([], [], false)
theorem areX_body {l : List S114} : ∀ {pre}, areX pre l = true → ∀ x ∈ l, x.f1.length ≤ 4 := by
  induction l with
  | nil =>
    intro pre _ x hx
    cases hx
  | cons y l ih =>
    intro pre h x hx
    simp only [areX, Bool.and_eq_true, decide_eq_true_eq] at h
    cases hx with
    | head => exact h.2.2.1
    | tail _ hx => exact ih h.2.2.2.2 x hx
end Go.Proofs.Ytdoefkloanpliaa.Plain

/- What a path does to a hello, and what it loses. No program. No condition. -/
set_option linter.unusedSimpArgs false
set_option linter.unusedVariables false
namespace Go.Proofs.Ytdoefkloanpliaa.Plain
open Go.RowKit Go.Proofs.YtdoefkloanpliaaW.PrintWords Go.Proofs.Ytdoefkloanpliaa.Base Go.Proofs.Ytdoefkloanpliaa.Print

def goP : List S67 → Bool → List Int → List S114 → List Int × List S114 × Bool
  | [], o, v, l => (v, l, o)
  | b :: p, o, v, l => if o then goP p (pass b v l).2.2 (pass b v l).1 (pass b v l).2.1 else (v, l, o)
def passP (p : List S67) (v : List Int) (l : List S114) : List Int × List S114 × Bool := if isH v l && decide (p.length ≤ 4) then goP p true v l else ([], [], false)
def openP (p : List S67) (v : List Int) : Bool := areV v && (passP p (v.take 1) []).2.2
def eqX (a b : S114) : Bool := decide (a.f0 = b.f0) && decide (a.f1 = b.f1)
def eqXs : List S114 → List S114 → Bool
  | [], [] => true
  | a :: l, b :: m => eqX a b && eqXs l m
  | _, _ => false
def whole (v : List Int) (l : List S114) (p : List S67) : Bool := (passP p v l).2.2 && (decide ((passP p v l).1 = v) && eqXs (passP p v l).2.1 l)
/-- The tags that a path loses. -/
def lostT (p : List S67) (v : List Int) (l : List S114) : List Int := if openP p v && isX l then (l.filter (fun x => !whole (v.take 1) [x] p)).map (·.f0) else []
theorem eqXs_len {l m : List S114} : l.length ≠ m.length → eqXs l m = false := by
  induction l generalizing m with
  | nil =>
    intro h
    cases m with
    | nil => exact absurd rfl h
    | cons b m => rfl
  | cons a l ih =>
    intro h
    cases m with
    | nil => rfl
    | cons b m =>
      simp only [eqXs]
      rw [ih (by simpa using h), Bool.and_false]
theorem kept_len (b : S67) (l : List S114) : (kept b l).length ≤ l.length := List.length_filter_le _ _
theorem kept_ok {b : S67} {l : List S114} (h : okXs l) : okXs (kept b l) := fun x hx => h x (List.mem_filter.mp hx).1
theorem pass_ok (b : S67) (v : List Int) (l : List S114) (h : okXs l) : (pass b v l).1.length ≤ v.length ∧ (pass b v l).2.1.length ≤ l.length ∧ okXs (pass b v l).2.1 := by
  unfold pass
  split
  · exact ⟨Nat.le_refl _, kept_len b l, kept_ok h⟩
  · exact ⟨Nat.zero_le _, Nat.zero_le _, fun x hx => by cases hx⟩
theorem goP_ok (p : List S67) : ∀ (o : Bool) (v : List Int) (l : List S114), okXs l → (goP p o v l).1.length ≤ v.length ∧ (goP p o v l).2.1.length ≤ l.length ∧ okXs (goP p o v l).2.1 := by
  induction p with
  | nil =>
    intro o v l h
    exact ⟨Nat.le_refl _, Nat.le_refl _, h⟩
  | cons b p ih =>
    intro o v l h
    unfold goP
    split
    · obtain ⟨a1, a2, a3⟩ := pass_ok b v l h
      obtain ⟨b1, b2, b3⟩ := ih (pass b v l).2.2 (pass b v l).1 (pass b v l).2.1 a3
      exact ⟨Nat.le_trans b1 a1, Nat.le_trans b2 a2, b3⟩
    · exact ⟨Nat.le_refl _, Nat.le_refl _, h⟩
theorem passP_ok (p : List S67) (v : List Int) (l : List S114) (h : okXs l) : (passP p v l).1.length ≤ v.length ∧ (passP p v l).2.1.length ≤ l.length ∧ okXs (passP p v l).2.1 := by
  unfold passP
  split
  · exact goP_ok p true v l h
  · exact ⟨Nat.zero_le _, Nat.zero_le _, fun x hx => by cases hx⟩
end Go.Proofs.Ytdoefkloanpliaa.Plain

/- The tags that mean nothing, and when a box refuses one of them. No program. No condition. -/
set_option linter.unusedSimpArgs false
set_option linter.unusedVariables false
namespace Go.Proofs.Ytdoefkloanpliaa.Plain
open Go.RowKit Go.Proofs.YtdoefkloanpliaaW.PrintWords Go.Proofs.Ytdoefkloanpliaa.Base Go.Proofs.Ytdoefkloanpliaa.Print

/-- So many of the tags that mean nothing, from the n-th on. -/
def greases (n : Nat) : Nat → List Int
  | 0 => []
  | m + 1 => (10 + 16 * (n : Int)) :: greases (n + 1) m
def one (t : Int) : S114 := ⟨t, []⟩
/-- Does a box refuse a hello with this tag alone? -/
def refuse (b : S67) (t : Int) : Bool := !(pass b [1] [one t]).2.2 || decide ((pass b [1] [one t]).2.1.length = 0)
def refuses (b : S67) : Bool := isB b && (greases 0 16).any (refuse b)
end Go.Proofs.Ytdoefkloanpliaa.Plain

/- On an open path a tag that means nothing is lost if and only if some box refuses it. No program. No condition. -/
set_option linter.unusedSimpArgs false
set_option linter.unusedVariables false
namespace Go.Proofs.Ytdoefkloanpliaa.Plain
open Go.RowKit Go.Proofs.YtdoefkloanpliaaW.PrintWords Go.Proofs.Ytdoefkloanpliaa.Base Go.Proofs.Ytdoefkloanpliaa.Print

/-- A box drops or strips a tag. -/
def touch (b : S67) (t : Int) : Bool := drops b t || mem b.f2 t
theorem greases_in {t : Int} (m : Nat) : ∀ n, t ∈ greases n m ↔ ∃ i : Nat, n ≤ i ∧ i < n + m ∧ t = 10 + 16 * (i : Int) := by
  induction m with
  | zero =>
    intro n
    simp only [greases, List.not_mem_nil, false_iff]
    rintro ⟨i, h1, h2, _⟩
    omega
  | succ m ih =>
    intro n
    simp only [greases, List.mem_cons, ih]
    constructor
    · rintro (h | ⟨i, h1, h2, h3⟩)
      · exact ⟨n, by omega, by omega, h⟩
      · exact ⟨i, by omega, by omega, h3⟩
    · rintro ⟨i, h1, h2, h3⟩
      by_cases h : i = n
      · exact .inl (by rw [h3, h])
      · exact .inr ⟨i, by omega, by omega, h3⟩
theorem grease_in {t : Int} (h : t ∈ greases 0 16) : 0 ≤ t ∧ t ≤ 255 := by
  obtain ⟨i, _, h2, h3⟩ := (greases_in 16 0).mp h
  omega
theorem isX_one {t : Int} (h0 : 0 ≤ t) (h1 : t ≤ 255) : isX [one t] = true := by
  have : inR 0 255 t = true := inR_true.mpr ⟨h0, h1⟩
  simp [isX, areX, one, hasT, this]
theorem kept_one (b : S67) (t : Int) : kept b [one t] = if mem b.f2 t then [] else [one t] := by
  cases h : mem b.f2 t <;> simp [kept, one, h]
theorem refuse_eq {b : S67} {t : Int} (hb : isB b = true) (h0 : 0 ≤ t) (h1 : t ≤ 255) : refuse b t = touch b t := by
  have hh : isH [1] [one t] = true := by
    rw [isH, isX_one h0 h1]
    decide
  have hl : lose b [1] [one t] = drops b t := by
    simp only [isB, Bool.and_eq_true, inR_true] at hb
    have : (!decide (b.f0 = 0) && decide (([1] : List Int).getLastD 0 > b.f0)) = false := by
      by_cases h : b.f0 = 0
      · simp [h]
      · have : ¬ (1 : Int) > b.f0 := by omega
        simp [this]
    rw [lose, this]
    simp [one]
  unfold refuse pass touch
  rw [hb, hh, hl, kept_one]
  cases drops b t with
  | true => simp
  | false => cases mem b.f2 t <;> simp [one]
/-- A box that a hello without extensions passes. -/
def clearB (b : S67) (x : Int) : Bool := isB b && !(!decide (b.f0 = 0) && decide (x > b.f0))
theorem pass_none (b : S67) (x : Int) (hx : areV [x] = true) : pass b [x] [] = if clearB b x then ([x], [], true) else ([], [], false) := by
  have hh : isH [x] [] = true := by
    rw [isH, hx]
    decide
  unfold pass clearB
  rw [hh]
  simp [lose, kept]
theorem goP_none (x : Int) (hx : areV [x] = true) (p : List S67) : (goP p true [x] []).2.2 = p.all (fun b => clearB b x) ∧ (p.all (fun b => clearB b x) = true → goP p true [x] [] = ([x], [], true)) := by
  induction p with
  | nil => exact ⟨rfl, fun _ => rfl⟩
  | cons b p ih =>
    simp only [goP, if_true, pass_none b x hx, List.all_cons]
    cases hc : clearB b x with
    | true =>
      simp only [if_true, Bool.true_and]
      exact ih
    | false =>
      simp only [Bool.false_eq_true, if_false, Bool.false_and, false_imp_iff, and_true]
      cases p <;> simp [goP]
theorem pass_one (b : S67) (x t : Int) (hx : areV [x] = true) (h0 : 0 ≤ t) (h1 : t ≤ 255) (hc : clearB b x = true) : pass b [x] [one t] = if drops b t then ([], [], false) else ([x], if mem b.f2 t then [] else [one t], true) := by
  have hh : isH [x] [one t] = true := by
    rw [isH, hx, isX_one h0 h1]
    rfl
  simp only [clearB, Bool.and_eq_true, Bool.not_eq_true'] at hc
  unfold pass
  have hl : lose b [x] [one t] = drops b t := by
    unfold lose
    rw [show ([x] : List Int).getLastD 0 = x from rfl, hc.2]
    simp [one]
  rw [hc.1, hh, hl, kept_one]
  cases drops b t <;> simp
theorem goP_off (p : List S67) : goP p false [] [] = ([], [], false) := by
  cases p <;> simp [goP]
theorem goP_one (x t : Int) (hx : areV [x] = true) (h0 : 0 ≤ t) (h1 : t ≤ 255) (p : List S67) : p.all (fun b => clearB b x) = true →
    ((goP p true [x] [one t]).2.2 && (decide ((goP p true [x] [one t]).1 = [x]) && eqXs (goP p true [x] [one t]).2.1 [one t])) = !(p.any (fun b => touch b t)) := by
  induction p with
  | nil =>
    intro _
    simp [goP, eqXs, eqX]
  | cons b p ih =>
    intro ha
    simp only [List.all_cons, Bool.and_eq_true] at ha
    simp only [goP, if_true, pass_one b x t hx h0 h1 ha.1, List.any_cons, touch]
    cases drops b t with
    | true => simp [goP_off]
    | false =>
      cases mem b.f2 t with
      | true =>
        have := (goP_none x hx p).2 ha.2
        simp [this, eqXs]
      | false =>
        have := ih ha.2
        simpa [touch] using this
/-- An open path. -/
theorem open_eq {p : List S67} {v : List Int} (h : openP p v = true) : ∃ x, v.take 1 = [x] ∧ areV [x] = true ∧ p.length ≤ 4 ∧ p.all (fun b => clearB b x) = true := by
  simp only [openP, Bool.and_eq_true] at h
  obtain ⟨h1, h2⟩ := h
  match v, h1, h2 with
  | [], h1, _ => simp [areV] at h1
  | x :: v, h1, h2 =>
    have hx : areV [x] = true := by
      simp only [areV, vers, Bool.and_eq_true, decide_eq_true_eq] at h1 ⊢
      exact ⟨⟨h1.1.1, h1.1.2.1, trivial⟩, by simp⟩
    refine ⟨x, rfl, hx, ?_⟩
    have h2 : (passP p [x] []).2.2 = true := h2
    unfold passP at h2
    by_cases hc : (isH [x] [] && decide (p.length ≤ 4)) = true
    · rw [if_pos hc] at h2
      simp only [Bool.and_eq_true, decide_eq_true_eq] at hc
      exact ⟨hc.2, by rw [← (goP_none x hx p).1]; exact h2⟩
    · rw [if_neg hc] at h2
      cases h2
/-- Does a path lose a tag? -/
def isLo (p : List S67) (v : List Int) (t : Int) : Bool := decide ((lostT p v [one t]).length > 0)
theorem isLo_open {p : List S67} {v : List Int} {t : Int} (h : openP p v = true) (h0 : 0 ≤ t) (h1 : t ≤ 255) : isLo p v t = p.any (fun b => touch b t) := by
  obtain ⟨x, hv, hx, hp, ha⟩ := open_eq h
  have hh : isH [x] [one t] = true := by
    rw [isH, hx, isX_one h0 h1]
    rfl
  have hw : whole (v.take 1) [one t] p = !(p.any (fun b => touch b t)) := by
    rw [whole, hv, passP, hh]
    simp only [Bool.true_and, hp, decide_true, if_true]
    exact goP_one x t hx h0 h1 p ha
  unfold isLo lostT
  rw [h, isX_one h0 h1]
  simp only [Bool.and_self, if_true, List.filter_cons, List.filter_nil, hw, Bool.not_not]
  cases p.any (fun b => touch b t) <;> simp
theorem isLo_shut {p : List S67} {v : List Int} {t : Int} (h : openP p v = false) : isLo p v t = false := by
  unfold isLo lostT
  rw [h]
  simp
/-- How many of these tags a path loses. -/
def hard (p : List S67) (v : List Int) : List Int → Int
  | [] => 0
  | t :: l => (if isLo p v t then 1 else 0) + hard p v l
theorem hard_in (p : List S67) (v : List Int) (l : List Int) : 0 ≤ hard p v l ∧ hard p v l ≤ l.length ∧ (hard p v l > 0 ↔ l.any (isLo p v) = true) := by
  induction l with
  | nil => simp [hard]
  | cons t l ih =>
    obtain ⟨h0, h1, h2⟩ := ih
    simp only [hard, List.length_cons, List.any_cons]
    cases ht : isLo p v t with
    | true =>
      rw [if_pos rfl]
      refine ⟨by omega, by omega, ?_⟩
      rw [Bool.true_or]
      exact ⟨fun _ => rfl, fun _ => by omega⟩
    | false =>
      rw [if_neg (by simp), Int.zero_add, Bool.false_or]
      exact ⟨h0, by omega, h2⟩
/-- Some tag is lost if and only if some box refuses one. -/
theorem hard_iff {p : List S67} {v : List Int} (h : openP p v = true) : hard p v (greases 0 16) > 0 ↔ ∃ b ∈ p, refuses b = true := by
  obtain ⟨x, hv, hx, hp, ha⟩ := open_eq h
  rw [(hard_in p v _).2.2, List.any_eq_true]
  simp only [List.all_eq_true] at ha
  constructor
  · rintro ⟨t, ht, hl⟩
    have hb := grease_in ht
    rw [isLo_open h hb.1 hb.2, List.any_eq_true] at hl
    obtain ⟨b, hm, hb2⟩ := hl
    have hc := ha b hm
    simp only [clearB, Bool.and_eq_true] at hc
    refine ⟨b, hm, ?_⟩
    rw [refuses, hc.1, Bool.true_and, List.any_eq_true]
    exact ⟨t, ht, by rw [refuse_eq hc.1 hb.1 hb.2]; exact hb2⟩
  · rintro ⟨b, hm, hr⟩
    simp only [refuses, Bool.and_eq_true, List.any_eq_true] at hr
    obtain ⟨hi, t, ht, hf⟩ := hr
    have hb := grease_in ht
    rw [refuse_eq hi hb.1 hb.2] at hf
    exact ⟨t, ht, by rw [isLo_open h hb.1 hb.2, List.any_eq_true]; exact ⟨b, hm, hf⟩⟩
/-- A box that refuses is not clear. -/
theorem refuses_not {b : S67} (h : refuses b = true) : ¬ (b.f1 = [] ∧ b.f2 = [] ∧ b.f3 = false) := by
  rintro ⟨h1, h2, h3⟩
  simp only [refuses, Bool.and_eq_true, List.any_eq_true] at h
  obtain ⟨hi, t, ht, hf⟩ := h
  have hb := grease_in ht
  rw [refuse_eq hi hb.1 hb.2] at hf
  simp [touch, drops, h1, h2, h3, mem] at hf
end Go.Proofs.Ytdoefkloanpliaa.Plain

/- Written by a program of this session (limx.py): the equations of what the printed functions come to. No condition. -/
namespace Go.Proofs.Ytdoefkloanpliaa.Print
open Go.RowKit Go.Proofs.YtdoefkloanpliaaW.PrintWords Go.Proofs.YtdoefkloanpliaaW.PrintLast Go.Proofs.Ytdoefkloanpliaa.Base
set_option linter.unusedVariables false
set_option maxRecDepth 20000
noncomputable def slices_IndexFunc_int_int_with_impl_areNumbers_1.l0v (x0 : List Int) (x7 : Int) (x8 : Int) (x2000 : Int) (x3000 : Int) : Option (Int) := Lim fun k => slices_IndexFunc_int_int_with_impl_areNumbers_1.l0 k x0 x7 x8 x2000 x3000
noncomputable def slices_IndexFunc_int_int_with_impl_areNumbers_1.fv (l0 : List Int) (a1_0 : Int) (a2_0 : Int) : Option (Int) := Lim fun k => slices_IndexFunc_int_int_with_impl_areNumbers_1.f k l0 a1_0 a2_0
theorem slices_IndexFunc_int_int_with_impl_areNumbers_1.l0_is (x0 : List Int) (x7 : Int) (x8 : Int) (x2000 : Int) (x3000 : Int) : Is (fun k => slices_IndexFunc_int_int_with_impl_areNumbers_1.l0 k x0 x7 x8 x2000 x3000) (slices_IndexFunc_int_int_with_impl_areNumbers_1.l0v x0 x7 x8 x2000 x3000) := ⟨fun k => (slices_IndexFunc_int_int_with_impl_areNumbers_1.mono_l k) x0 x7 x8 x2000 x3000, rfl⟩
theorem slices_IndexFunc_int_int_with_impl_areNumbers_1.f_is (l0 : List Int) (a1_0 : Int) (a2_0 : Int) : Is (fun k => slices_IndexFunc_int_int_with_impl_areNumbers_1.f k l0 a1_0 a2_0) (slices_IndexFunc_int_int_with_impl_areNumbers_1.fv l0 a1_0 a2_0) := ⟨fun k => slices_IndexFunc_int_int_with_impl_areNumbers_1.mono l0 a1_0 a2_0 k, rfl⟩
theorem slices_IndexFunc_int_int_with_impl_areNumbers_1.l0v_eq (x0 : List Int) (x7 : Int) (x8 : Int) (x2000 : Int) (x3000 : Int) : slices_IndexFunc_int_int_with_impl_areNumbers_1.l0v x0 x7 x8 x2000 x3000 = if x8 < x7 then (if 0 ≤ x8 then (if x8 < (x0.length : Int) then ((impl_areNumbers_1.f (rd x0 x8) x2000 x3000).bind fun t103 => (if t103 = true then (some x8) else (slices_IndexFunc_int_int_with_impl_areNumbers_1.l0v x0 x7 (wrap64 (x8 + 1)) x2000 x3000))) else (none)) else (none)) else (some (-1)) := by
  refine Is.step (slices_IndexFunc_int_int_with_impl_areNumbers_1.l0_is x0 x7 x8 x2000 x3000).mo (fun k => by rw [slices_IndexFunc_int_int_with_impl_areNumbers_1.l0]) ?_
  · skip
    repeat' first
    | with_reducible exact slices_IndexFunc_int_int_with_impl_areNumbers_1.l0_is _ _ _ _ _
    | with_reducible exact Is.now _
    | with_reducible refine Is.ite ?_ ?_
    | with_reducible refine Is.bind ?_ (fun _ => ?_)
theorem slices_IndexFunc_int_int_with_impl_areNumbers_1.fv_eq (l0 : List Int) (a1_0 : Int) (a2_0 : Int) : slices_IndexFunc_int_int_with_impl_areNumbers_1.fv l0 a1_0 a2_0 = slices_IndexFunc_int_int_with_impl_areNumbers_1.l0v l0 (l0.length : Int) 0 a1_0 a2_0 := by
  refine Is.lim (g := fun k => slices_IndexFunc_int_int_with_impl_areNumbers_1.f k l0 a1_0 a2_0) ?_
  · unfold slices_IndexFunc_int_int_with_impl_areNumbers_1.f
    repeat' first
    | with_reducible exact slices_IndexFunc_int_int_with_impl_areNumbers_1.l0_is _ _ _ _ _
    | with_reducible exact Is.now _
    | with_reducible refine Is.ite ?_ ?_
    | with_reducible refine Is.bind ?_ (fun _ => ?_)
noncomputable def slices_ContainsFunc_int_int_with_impl_areNumbers_1.fv (l0 : List Int) (a1_0 : Int) (a2_0 : Int) : Option (Bool) := Lim fun k => slices_ContainsFunc_int_int_with_impl_areNumbers_1.f k l0 a1_0 a2_0
theorem slices_ContainsFunc_int_int_with_impl_areNumbers_1.f_is (l0 : List Int) (a1_0 : Int) (a2_0 : Int) : Is (fun k => slices_ContainsFunc_int_int_with_impl_areNumbers_1.f k l0 a1_0 a2_0) (slices_ContainsFunc_int_int_with_impl_areNumbers_1.fv l0 a1_0 a2_0) := ⟨fun k => slices_ContainsFunc_int_int_with_impl_areNumbers_1.mono l0 a1_0 a2_0 k, rfl⟩
theorem slices_ContainsFunc_int_int_with_impl_areNumbers_1.fv_eq (l0 : List Int) (a1_0 : Int) (a2_0 : Int) : slices_ContainsFunc_int_int_with_impl_areNumbers_1.fv l0 a1_0 a2_0 = (slices_IndexFunc_int_int_with_impl_areNumbers_1.fv l0 a1_0 a2_0).bind fun t104 => (some (decide (t104 ≥ 0))) := by
  refine Is.lim (g := fun k => slices_ContainsFunc_int_int_with_impl_areNumbers_1.f k l0 a1_0 a2_0) ?_
  · unfold slices_ContainsFunc_int_int_with_impl_areNumbers_1.f
    repeat' first
    | with_reducible exact slices_IndexFunc_int_int_with_impl_areNumbers_1.f_is _ _ _
    | with_reducible exact Is.now _
    | with_reducible refine Is.ite ?_ ?_
    | with_reducible refine Is.bind ?_ (fun _ => ?_)
noncomputable def impl_areNumbers.fv (l0 : List Int) (a1 : Int) (a2 : Int) : Option (Bool) := Lim fun k => impl_areNumbers.f k l0 a1 a2
theorem impl_areNumbers.f_is (l0 : List Int) (a1 : Int) (a2 : Int) : Is (fun k => impl_areNumbers.f k l0 a1 a2) (impl_areNumbers.fv l0 a1 a2) := ⟨fun k => impl_areNumbers.mono l0 a1 a2 k, rfl⟩
theorem impl_areNumbers.fv_eq (l0 : List Int) (a1 : Int) (a2 : Int) : impl_areNumbers.fv l0 a1 a2 = (slices_ContainsFunc_int_int_with_impl_areNumbers_1.fv l0 a1 a2).bind fun t107 => (some (!t107)) := by
  refine Is.lim (g := fun k => impl_areNumbers.f k l0 a1 a2) ?_
  · unfold impl_areNumbers.f
    repeat' first
    | with_reducible exact slices_ContainsFunc_int_int_with_impl_areNumbers_1.f_is _ _ _
    | with_reducible exact Is.now _
    | with_reducible refine Is.ite ?_ ?_
    | with_reducible refine Is.bind ?_ (fun _ => ?_)
noncomputable def impl_IsBox.fv (a0_0 : Int) (l0_1 : List Int) (l0_2 : List Int) (a0_3 : Bool) : Option (Bool) := Lim fun k => impl_IsBox.f k a0_0 l0_1 l0_2 a0_3
theorem impl_IsBox.f_is (a0_0 : Int) (l0_1 : List Int) (l0_2 : List Int) (a0_3 : Bool) : Is (fun k => impl_IsBox.f k a0_0 l0_1 l0_2 a0_3) (impl_IsBox.fv a0_0 l0_1 l0_2 a0_3) := ⟨fun k => impl_IsBox.mono a0_0 l0_1 l0_2 a0_3 k, rfl⟩
theorem impl_IsBox.fv_eq (a0_0 : Int) (l0_1 : List Int) (l0_2 : List Int) (a0_3 : Bool) : impl_IsBox.fv a0_0 l0_1 l0_2 a0_3 = (impl_InRange.f a0_0 0 9).bind fun t109 => (if t109 = true then (if (l0_1.length : Int) ≤ 6 then (if (l0_2.length : Int) ≤ 6 then ((impl_areNumbers.fv l0_1 0 255).bind fun t110 => (if t110 = true then ((impl_areNumbers.fv l0_2 0 255).bind fun t111 => (some t111)) else (some false))) else (some false)) else (some false)) else (some false)) := by
  refine Is.lim (g := fun k => impl_IsBox.f k a0_0 l0_1 l0_2 a0_3) ?_
  · unfold impl_IsBox.f
    repeat' first
    | with_reducible exact impl_areNumbers.f_is _ _ _
    | with_reducible exact Is.now _
    | with_reducible refine Is.ite ?_ ?_
    | with_reducible refine Is.bind ?_ (fun _ => ?_)
noncomputable def impl_reservedTags.l0v (x1 : List Int) (x2 : Int) : Option (List Int) := Lim fun k => impl_reservedTags.l0 k x1 x2
noncomputable def impl_reservedTags.fv : Option (List Int) := Lim fun k => impl_reservedTags.f k
theorem impl_reservedTags.l0_is (x1 : List Int) (x2 : Int) : Is (fun k => impl_reservedTags.l0 k x1 x2) (impl_reservedTags.l0v x1 x2) := ⟨fun k => (impl_reservedTags.mono_l k) x1 x2, rfl⟩
theorem impl_reservedTags.f_is : Is (fun k => impl_reservedTags.f k) (impl_reservedTags.fv) := ⟨fun k => impl_reservedTags.mono k, rfl⟩
theorem impl_reservedTags.l0v_eq (x1 : List Int) (x2 : Int) : impl_reservedTags.l0v x1 x2 = if x2 < 256 then (if x1.length < 17592186044416 then (impl_reservedTags.l0v (x1 ++ [x2]) (wrap64 (x2 + 16))) else (none)) else (some x1) := by
  refine Is.step (impl_reservedTags.l0_is x1 x2).mo (fun k => by rw [impl_reservedTags.l0]) ?_
  · skip
    repeat' first
    | with_reducible exact impl_reservedTags.l0_is _ _
    | with_reducible exact Is.now _
    | with_reducible refine Is.ite ?_ ?_
    | with_reducible refine Is.bind ?_ (fun _ => ?_)
theorem impl_reservedTags.fv_eq : impl_reservedTags.fv = impl_reservedTags.l0v (([] : List Int)) 10 := by
  refine Is.lim (g := fun k => impl_reservedTags.f k) ?_
  · unfold impl_reservedTags.f
    repeat' first
    | with_reducible exact impl_reservedTags.l0_is _ _
    | with_reducible exact Is.now _
    | with_reducible refine Is.ite ?_ ?_
    | with_reducible refine Is.bind ?_ (fun _ => ?_)
noncomputable def impl_AreVersions.l0v (x0 : List Int) (x5 : List Int) (x6 : Int) (x7 : Int) : Option (Bool) := Lim fun k => impl_AreVersions.l0 k x0 x5 x6 x7
noncomputable def impl_AreVersions.fv (l0 : List Int) : Option (Bool) := Lim fun k => impl_AreVersions.f k l0
theorem impl_AreVersions.l0_is (x0 : List Int) (x5 : List Int) (x6 : Int) (x7 : Int) : Is (fun k => impl_AreVersions.l0 k x0 x5 x6 x7) (impl_AreVersions.l0v x0 x5 x6 x7) := ⟨fun k => (impl_AreVersions.mono_l k) x0 x5 x6 x7, rfl⟩
theorem impl_AreVersions.f_is (l0 : List Int) : Is (fun k => impl_AreVersions.f k l0) (impl_AreVersions.fv l0) := ⟨fun k => impl_AreVersions.mono l0 k, rfl⟩
theorem impl_AreVersions.l0v_eq (x0 : List Int) (x5 : List Int) (x6 : Int) (x7 : Int) : impl_AreVersions.l0v x0 x5 x6 x7 = if x7 < x6 then (if 0 ≤ x7 then (if x7 < (x5.length : Int) then ((impl_InRange.f (rd x5 x7) 1 9).bind fun t119 => (if t119 = true then (if x7 > 0 then (if 0 ≤ (wrap64 (x7 - 1)) then (if (wrap64 (x7 - 1)) < (x0.length : Int) then (if (rd x0 (wrap64 (x7 - 1))) ≥ (rd x5 x7) then (some false) else (impl_AreVersions.l0v x0 x5 x6 (wrap64 (x7 + 1)))) else (none)) else (none)) else (impl_AreVersions.l0v x0 x5 x6 (wrap64 (x7 + 1)))) else (some false))) else (none)) else (none)) else (some (decide ((x0.length : Int) > 0))) := by
  refine Is.step (impl_AreVersions.l0_is x0 x5 x6 x7).mo (fun k => by rw [impl_AreVersions.l0]) ?_
  · skip
    repeat' first
    | with_reducible exact impl_AreVersions.l0_is _ _ _ _
    | with_reducible exact Is.now _
    | with_reducible refine Is.ite ?_ ?_
    | with_reducible refine Is.bind ?_ (fun _ => ?_)
theorem impl_AreVersions.fv_eq (l0 : List Int) : impl_AreVersions.fv l0 = impl_AreVersions.l0v l0 l0 (l0.length : Int) 0 := by
  refine Is.lim (g := fun k => impl_AreVersions.f k l0) ?_
  · unfold impl_AreVersions.f
    repeat' first
    | with_reducible exact impl_AreVersions.l0_is _ _ _ _
    | with_reducible exact Is.now _
    | with_reducible refine Is.ite ?_ ?_
    | with_reducible refine Is.bind ?_ (fun _ => ?_)
noncomputable def slices_IndexFunc_impl_Ext_impl_Ext_with_impl_ExtOf_1.l0v (x0 : List (S114)) (x7 : Int) (x8 : Int) (x2000 : Int) : Option (Int) := Lim fun k => slices_IndexFunc_impl_Ext_impl_Ext_with_impl_ExtOf_1.l0 k x0 x7 x8 x2000
noncomputable def slices_IndexFunc_impl_Ext_impl_Ext_with_impl_ExtOf_1.fv (l0 : List (S114)) (a1_0 : Int) : Option (Int) := Lim fun k => slices_IndexFunc_impl_Ext_impl_Ext_with_impl_ExtOf_1.f k l0 a1_0
theorem slices_IndexFunc_impl_Ext_impl_Ext_with_impl_ExtOf_1.l0_is (x0 : List (S114)) (x7 : Int) (x8 : Int) (x2000 : Int) : Is (fun k => slices_IndexFunc_impl_Ext_impl_Ext_with_impl_ExtOf_1.l0 k x0 x7 x8 x2000) (slices_IndexFunc_impl_Ext_impl_Ext_with_impl_ExtOf_1.l0v x0 x7 x8 x2000) := ⟨fun k => (slices_IndexFunc_impl_Ext_impl_Ext_with_impl_ExtOf_1.mono_l k) x0 x7 x8 x2000, rfl⟩
theorem slices_IndexFunc_impl_Ext_impl_Ext_with_impl_ExtOf_1.f_is (l0 : List (S114)) (a1_0 : Int) : Is (fun k => slices_IndexFunc_impl_Ext_impl_Ext_with_impl_ExtOf_1.f k l0 a1_0) (slices_IndexFunc_impl_Ext_impl_Ext_with_impl_ExtOf_1.fv l0 a1_0) := ⟨fun k => slices_IndexFunc_impl_Ext_impl_Ext_with_impl_ExtOf_1.mono l0 a1_0 k, rfl⟩
theorem slices_IndexFunc_impl_Ext_impl_Ext_with_impl_ExtOf_1.l0v_eq (x0 : List (S114)) (x7 : Int) (x8 : Int) (x2000 : Int) : slices_IndexFunc_impl_Ext_impl_Ext_with_impl_ExtOf_1.l0v x0 x7 x8 x2000 = if x8 < x7 then (if 0 ≤ x8 then (if x8 < (x0.length : Int) then ((impl_ExtOf_1.f ((rd_T114 x0 x8).f0) ((rd_T114 x0 x8).f1) x2000).bind fun t123 => (if t123 = true then (some x8) else (slices_IndexFunc_impl_Ext_impl_Ext_with_impl_ExtOf_1.l0v x0 x7 (wrap64 (x8 + 1)) x2000))) else (none)) else (none)) else (some (-1)) := by
  refine Is.step (slices_IndexFunc_impl_Ext_impl_Ext_with_impl_ExtOf_1.l0_is x0 x7 x8 x2000).mo (fun k => by rw [slices_IndexFunc_impl_Ext_impl_Ext_with_impl_ExtOf_1.l0]) ?_
  · skip
    repeat' first
    | with_reducible exact slices_IndexFunc_impl_Ext_impl_Ext_with_impl_ExtOf_1.l0_is _ _ _ _
    | with_reducible exact Is.now _
    | with_reducible refine Is.ite ?_ ?_
    | with_reducible refine Is.bind ?_ (fun _ => ?_)
theorem slices_IndexFunc_impl_Ext_impl_Ext_with_impl_ExtOf_1.fv_eq (l0 : List (S114)) (a1_0 : Int) : slices_IndexFunc_impl_Ext_impl_Ext_with_impl_ExtOf_1.fv l0 a1_0 = slices_IndexFunc_impl_Ext_impl_Ext_with_impl_ExtOf_1.l0v l0 (l0.length : Int) 0 a1_0 := by
  refine Is.lim (g := fun k => slices_IndexFunc_impl_Ext_impl_Ext_with_impl_ExtOf_1.f k l0 a1_0) ?_
  · unfold slices_IndexFunc_impl_Ext_impl_Ext_with_impl_ExtOf_1.f
    repeat' first
    | with_reducible exact slices_IndexFunc_impl_Ext_impl_Ext_with_impl_ExtOf_1.l0_is _ _ _ _
    | with_reducible exact Is.now _
    | with_reducible refine Is.ite ?_ ?_
    | with_reducible refine Is.bind ?_ (fun _ => ?_)
noncomputable def impl_ExtOf.fv (l0 : List (S114)) (a1 : Int) : Option (Int) := Lim fun k => impl_ExtOf.f k l0 a1
theorem impl_ExtOf.f_is (l0 : List (S114)) (a1 : Int) : Is (fun k => impl_ExtOf.f k l0 a1) (impl_ExtOf.fv l0 a1) := ⟨fun k => impl_ExtOf.mono l0 a1 k, rfl⟩
theorem impl_ExtOf.fv_eq (l0 : List (S114)) (a1 : Int) : impl_ExtOf.fv l0 a1 = (slices_IndexFunc_impl_Ext_impl_Ext_with_impl_ExtOf_1.fv l0 a1).bind fun t125 => (some t125) := by
  refine Is.lim (g := fun k => impl_ExtOf.f k l0 a1) ?_
  · unfold impl_ExtOf.f
    repeat' first
    | with_reducible exact slices_IndexFunc_impl_Ext_impl_Ext_with_impl_ExtOf_1.f_is _ _
    | with_reducible exact Is.now _
    | with_reducible refine Is.ite ?_ ?_
    | with_reducible refine Is.bind ?_ (fun _ => ?_)
end Go.Proofs.Ytdoefkloanpliaa.Print

/- AreVersions, of the program. Condition: at most 10 to the 12 numbers. -/
set_option linter.unusedSimpArgs false
set_option linter.unusedVariables false
namespace Go.Proofs.Ytdoefkloanpliaa.Plain
open Go.RowKit Go.Proofs.YtdoefkloanpliaaW.PrintWords Go.Proofs.Ytdoefkloanpliaa.Base Go.Proofs.Ytdoefkloanpliaa.Print

theorem implVers_l0 (suf : List Int) : ∀ pre : List Int, (pre ++ suf).length ≤ 1000000000000 →
    impl_AreVersions.l0v (pre ++ suf) (pre ++ suf) ((pre ++ suf).length : Int) (pre.length : Int) = some (vers (pre.getLastD 0) suf && decide (0 < (pre ++ suf).length)) := by
  induction suf with
  | nil =>
    intro pre hl
    rw [impl_AreVersions.l0v_eq, if_neg (nlt_end pre)]
    by_cases h : 0 < pre.length <;> simp [vers, h]
  | cons x suf ih =>
    intro pre hl
    have hn : pre.length < (pre ++ x :: suf).length := by simp
    rw [impl_AreVersions.l0v_eq, if_pos (lt_mid pre suf x), if_pos (by omega), if_pos (lt_mid pre suf x), rd_mid, inRange_f]
    simp only [Option.bind_some, vers]
    cases hx : inR 1 9 x with
    | false => simp
    | true =>
      rw [if_pos rfl, up_mid pre x hn hl]
      have h1 := ih (pre ++ [x]) (by simpa using hl)
      rw [← mid_snoc pre suf x] at h1
      rw [h1]
      have hr := inR_true.mp hx
      by_cases hp : pre = []
      · subst hp
        rw [if_neg (by simp)]
        have h0 : (0 : Int) < x := by omega
        simp [h0]
      · have hpl : 0 < pre.length := List.length_pos_iff.mpr hp
        rw [if_pos (by omega), w64 (x := (pre.length : Int) - 1) (by omega) (by omega), if_pos (by omega), if_pos (by omega), rd_lastD pre _ hp]
        by_cases hlt : pre.getLastD 0 < x
        · rw [if_neg (by omega)]
          generalize pre.getLastD 0 = q at hlt
          simp [hlt]
        · rw [if_pos (by omega)]
          generalize pre.getLastD 0 = q at hlt
          simp [hlt]
theorem implVers_v (l : List Int) (hl : l.length ≤ 1000000000000) : impl_AreVersions.fv l = some (areV l) := by
  rw [impl_AreVersions.fv_eq]
  simpa [areV] using implVers_l0 l [] (by simpa using hl)
end Go.Proofs.Ytdoefkloanpliaa.Plain

/- Lists of numbers in a range. Condition: the slice has at most 10 to the 12 numbers. -/
set_option linter.unusedSimpArgs false
set_option linter.unusedVariables false
namespace Go.Proofs.Ytdoefkloanpliaa.Plain
open Go.RowKit Go.Proofs.YtdoefkloanpliaaW.PrintWords Go.Proofs.Ytdoefkloanpliaa.Base Go.Proofs.Ytdoefkloanpliaa.Print

theorem areNumbers_l0 (lo hi : Int) (suf : List Int) : ∀ (pre : List Int), (pre ++ suf).length ≤ 1000000000000 →
    ∃ r, slices_IndexFunc_int_int_with_impl_areNumbers_1.l0v (pre ++ suf) ((pre ++ suf).length : Int) (pre.length : Int) lo hi = some r ∧ decide (r ≥ 0) = !(suf.all (inR lo hi)) := by
  induction suf with
  | nil =>
    intro pre _
    refine ⟨-1, ?_, by simp⟩
    rw [slices_IndexFunc_int_int_with_impl_areNumbers_1.l0v_eq, if_neg (nlt_end pre)]
  | cons x suf ih =>
    intro pre hl
    have hn : pre.length < (pre ++ x :: suf).length := by simp
    rw [slices_IndexFunc_int_int_with_impl_areNumbers_1.l0v_eq, if_pos (lt_mid pre suf x), if_pos (by omega), if_pos (lt_mid pre suf x), rd_mid]
    unfold impl_areNumbers_1.f
    rw [inRange_f]
    simp only [Option.bind_some]
    cases hx : inR lo hi x with
    | false =>
      refine ⟨(pre.length : Int), by simp, ?_⟩
      simp [hx]
    | true =>
      rw [up_mid pre x hn hl]
      simp only [Bool.not_true, Bool.false_eq_true, if_false]
      rw [mid_snoc pre suf x] at hl ⊢
      obtain ⟨r, h1, h2⟩ := ih (pre ++ [x]) hl
      exact ⟨r, h1, by rw [h2]; simp [hx]⟩

theorem areNumbers_v (l : List Int) (lo hi : Int) (hl : l.length ≤ 1000000000000) : impl_areNumbers.fv l lo hi = some (l.all (inR lo hi)) := by
  obtain ⟨r, h1, h2⟩ := areNumbers_l0 lo hi l [] (by simpa using hl)
  rw [impl_areNumbers.fv_eq, slices_ContainsFunc_int_int_with_impl_areNumbers_1.fv_eq, slices_IndexFunc_int_int_with_impl_areNumbers_1.fv_eq]
  simp only [List.nil_append, List.length_nil, Int.natCast_zero] at h1
  rw [h1]
  simp [h2]
end Go.Proofs.Ytdoefkloanpliaa.Plain

/- Written by a program of this session (limx.py): the equations of what the printed functions come to. No condition. -/
namespace Go.Proofs.Ytdoefkloanpliaa.Print
open Go.RowKit Go.Proofs.YtdoefkloanpliaaW.PrintWords Go.Proofs.YtdoefkloanpliaaW.PrintLast Go.Proofs.Ytdoefkloanpliaa.Base
set_option linter.unusedVariables false
set_option maxRecDepth 20000
noncomputable def impl_AreExts.l0v (x0 : List (S114)) (x5 : List (S114)) (x6 : Int) (x7 : Int) : Option (Bool) := Lim fun k => impl_AreExts.l0 k x0 x5 x6 x7
noncomputable def impl_AreExts.fv (l0 : List (S114)) : Option (Bool) := Lim fun k => impl_AreExts.f k l0
theorem impl_AreExts.l0_is (x0 : List (S114)) (x5 : List (S114)) (x6 : Int) (x7 : Int) : Is (fun k => impl_AreExts.l0 k x0 x5 x6 x7) (impl_AreExts.l0v x0 x5 x6 x7) := ⟨fun k => (impl_AreExts.mono_l k) x0 x5 x6 x7, rfl⟩
theorem impl_AreExts.f_is (l0 : List (S114)) : Is (fun k => impl_AreExts.f k l0) (impl_AreExts.fv l0) := ⟨fun k => impl_AreExts.mono l0 k, rfl⟩
theorem impl_AreExts.l0v_eq (x0 : List (S114)) (x5 : List (S114)) (x6 : Int) (x7 : Int) : impl_AreExts.l0v x0 x5 x6 x7 = if x7 < x6 then (if 0 ≤ x7 then (if x7 < (x5.length : Int) then ((impl_InRange.f ((rd_T114 x5 x7).f0) 0 255).bind fun t128 => (if t128 = true then (if x7 ≤ (x0.length : Int) then ((impl_ExtOf.fv (x0.take (x7 : Int).toNat) ((rd_T114 x5 x7).f0)).bind fun t133 => (if t133 ≥ 0 then (some false) else (if (((rd_T114 x5 x7).f1).length : Int) > 4 then (some false) else ((impl_areNumbers.fv ((rd_T114 x5 x7).f1) 0 255).bind fun t134 => (if t134 = true then (impl_AreExts.l0v x0 x5 x6 (wrap64 (x7 + 1))) else (some false)))))) else (none)) else (some false))) else (none)) else (none)) else (some (decide ((x0.length : Int) ≤ 6))) := by
  refine Is.step (impl_AreExts.l0_is x0 x5 x6 x7).mo (fun k => by rw [impl_AreExts.l0]) ?_
  · skip
    repeat' first
    | with_reducible exact impl_AreExts.l0_is _ _ _ _
    | with_reducible exact impl_ExtOf.f_is _ _
    | with_reducible exact impl_areNumbers.f_is _ _ _
    | with_reducible exact Is.now _
    | with_reducible refine Is.ite ?_ ?_
    | with_reducible refine Is.bind ?_ (fun _ => ?_)
theorem impl_AreExts.fv_eq (l0 : List (S114)) : impl_AreExts.fv l0 = impl_AreExts.l0v l0 l0 (l0.length : Int) 0 := by
  refine Is.lim (g := fun k => impl_AreExts.f k l0) ?_
  · unfold impl_AreExts.f
    repeat' first
    | with_reducible exact impl_AreExts.l0_is _ _ _ _
    | with_reducible exact Is.now _
    | with_reducible refine Is.ite ?_ ?_
    | with_reducible refine Is.bind ?_ (fun _ => ?_)
end Go.Proofs.Ytdoefkloanpliaa.Print

/- Written by a program of this session (limx.py): the equations of what the printed functions come to. No condition. -/
namespace Go.Proofs.Ytdoefkloanpliaa.Print
open Go.RowKit Go.Proofs.YtdoefkloanpliaaW.PrintWords Go.Proofs.YtdoefkloanpliaaW.PrintLast Go.Proofs.Ytdoefkloanpliaa.Base
set_option linter.unusedVariables false
set_option maxRecDepth 20000
noncomputable def impl_IsHello.fv (l0_0 : List Int) (l0_1 : List (S114)) : Option (Bool) := Lim fun k => impl_IsHello.f k l0_0 l0_1
theorem impl_IsHello.f_is (l0_0 : List Int) (l0_1 : List (S114)) : Is (fun k => impl_IsHello.f k l0_0 l0_1) (impl_IsHello.fv l0_0 l0_1) := ⟨fun k => impl_IsHello.mono l0_0 l0_1 k, rfl⟩
theorem impl_IsHello.fv_eq (l0_0 : List Int) (l0_1 : List (S114)) : impl_IsHello.fv l0_0 l0_1 = (impl_AreVersions.fv l0_0).bind fun t136 => (if t136 = true then ((impl_AreExts.fv l0_1).bind fun t137 => (some t137)) else (some false)) := by
  refine Is.lim (g := fun k => impl_IsHello.f k l0_0 l0_1) ?_
  · unfold impl_IsHello.f
    repeat' first
    | with_reducible exact impl_AreExts.f_is _
    | with_reducible exact impl_AreVersions.f_is _
    | with_reducible exact Is.now _
    | with_reducible refine Is.ite ?_ ?_
    | with_reducible refine Is.bind ?_ (fun _ => ?_)
noncomputable def slices_Max_int_int.l0v (x0 : List Int) (x3 : Int) (x4 : Int) : Option (Int) := Lim fun k => slices_Max_int_int.l0 k x0 x3 x4
noncomputable def slices_Max_int_int.fv (l0 : List Int) : Option (Int) := Lim fun k => slices_Max_int_int.f k l0
theorem slices_Max_int_int.l0_is (x0 : List Int) (x3 : Int) (x4 : Int) : Is (fun k => slices_Max_int_int.l0 k x0 x3 x4) (slices_Max_int_int.l0v x0 x3 x4) := ⟨fun k => (slices_Max_int_int.mono_l k) x0 x3 x4, rfl⟩
theorem slices_Max_int_int.f_is (l0 : List Int) : Is (fun k => slices_Max_int_int.f k l0) (slices_Max_int_int.fv l0) := ⟨fun k => slices_Max_int_int.mono l0 k, rfl⟩
theorem slices_Max_int_int.l0v_eq (x0 : List Int) (x3 : Int) (x4 : Int) : slices_Max_int_int.l0v x0 x3 x4 = if x4 < (x0.length : Int) then (if 0 ≤ x4 then (slices_Max_int_int.l0v x0 (mx x3 (rd x0 x4)) (wrap64 (x4 + 1))) else (none)) else (some x3) := by
  refine Is.step (slices_Max_int_int.l0_is x0 x3 x4).mo (fun k => by rw [slices_Max_int_int.l0]) ?_
  · skip
    repeat' first
    | with_reducible exact slices_Max_int_int.l0_is _ _ _
    | with_reducible exact Is.now _
    | with_reducible refine Is.ite ?_ ?_
    | with_reducible refine Is.bind ?_ (fun _ => ?_)
theorem slices_Max_int_int.fv_eq (l0 : List Int) : slices_Max_int_int.fv l0 = if (l0.length : Int) < 1 then (none) else (if 0 < (l0.length : Int) then (slices_Max_int_int.l0v l0 (rd l0 0) 1) else (none)) := by
  refine Is.lim (g := fun k => slices_Max_int_int.f k l0) ?_
  · unfold slices_Max_int_int.f
    repeat' first
    | with_reducible exact slices_Max_int_int.l0_is _ _ _
    | with_reducible exact Is.now _
    | with_reducible refine Is.ite ?_ ?_
    | with_reducible refine Is.bind ?_ (fun _ => ?_)
noncomputable def slices_Index_int_int.l0v (x0 : List Int) (x1 : Int) (x7 : Int) (x8 : Int) : Option (Int) := Lim fun k => slices_Index_int_int.l0 k x0 x1 x7 x8
noncomputable def slices_Index_int_int.fv (l0 : List Int) (a1 : Int) : Option (Int) := Lim fun k => slices_Index_int_int.f k l0 a1
theorem slices_Index_int_int.l0_is (x0 : List Int) (x1 : Int) (x7 : Int) (x8 : Int) : Is (fun k => slices_Index_int_int.l0 k x0 x1 x7 x8) (slices_Index_int_int.l0v x0 x1 x7 x8) := ⟨fun k => (slices_Index_int_int.mono_l k) x0 x1 x7 x8, rfl⟩
theorem slices_Index_int_int.f_is (l0 : List Int) (a1 : Int) : Is (fun k => slices_Index_int_int.f k l0 a1) (slices_Index_int_int.fv l0 a1) := ⟨fun k => slices_Index_int_int.mono l0 a1 k, rfl⟩
theorem slices_Index_int_int.l0v_eq (x0 : List Int) (x1 : Int) (x7 : Int) (x8 : Int) : slices_Index_int_int.l0v x0 x1 x7 x8 = if x8 < x7 then (if 0 ≤ x8 then (if x8 < (x0.length : Int) then (if x1 = (rd x0 x8) then (some x8) else (slices_Index_int_int.l0v x0 x1 x7 (wrap64 (x8 + 1)))) else (none)) else (none)) else (some (-1)) := by
  refine Is.step (slices_Index_int_int.l0_is x0 x1 x7 x8).mo (fun k => by rw [slices_Index_int_int.l0]) ?_
  · skip
    repeat' first
    | with_reducible exact slices_Index_int_int.l0_is _ _ _ _
    | with_reducible exact Is.now _
    | with_reducible refine Is.ite ?_ ?_
    | with_reducible refine Is.bind ?_ (fun _ => ?_)
theorem slices_Index_int_int.fv_eq (l0 : List Int) (a1 : Int) : slices_Index_int_int.fv l0 a1 = slices_Index_int_int.l0v l0 a1 (l0.length : Int) 0 := by
  refine Is.lim (g := fun k => slices_Index_int_int.f k l0 a1) ?_
  · unfold slices_Index_int_int.f
    repeat' first
    | with_reducible exact slices_Index_int_int.l0_is _ _ _ _
    | with_reducible exact Is.now _
    | with_reducible refine Is.ite ?_ ?_
    | with_reducible refine Is.bind ?_ (fun _ => ?_)
noncomputable def slices_Contains_int_int.fv (l0 : List Int) (a1 : Int) : Option (Bool) := Lim fun k => slices_Contains_int_int.f k l0 a1
theorem slices_Contains_int_int.f_is (l0 : List Int) (a1 : Int) : Is (fun k => slices_Contains_int_int.f k l0 a1) (slices_Contains_int_int.fv l0 a1) := ⟨fun k => slices_Contains_int_int.mono l0 a1 k, rfl⟩
theorem slices_Contains_int_int.fv_eq (l0 : List Int) (a1 : Int) : slices_Contains_int_int.fv l0 a1 = (slices_Index_int_int.fv l0 a1).bind fun t141 => (some (decide (t141 ≥ 0))) := by
  refine Is.lim (g := fun k => slices_Contains_int_int.f k l0 a1) ?_
  · unfold slices_Contains_int_int.f
    repeat' first
    | with_reducible exact slices_Index_int_int.f_is _ _
    | with_reducible exact Is.now _
    | with_reducible refine Is.ite ?_ ?_
    | with_reducible refine Is.bind ?_ (fun _ => ?_)
noncomputable def impl_loses_1.fv (a0_0 : Int) (l0_1 : List Int) (a1_0 : Int) (l1_1 : List Int) (l1_2 : List Int) (a1_3 : Bool) : Option (Bool) := Lim fun k => impl_loses_1.f k a0_0 l0_1 a1_0 l1_1 l1_2 a1_3
theorem impl_loses_1.f_is (a0_0 : Int) (l0_1 : List Int) (a1_0 : Int) (l1_1 : List Int) (l1_2 : List Int) (a1_3 : Bool) : Is (fun k => impl_loses_1.f k a0_0 l0_1 a1_0 l1_1 l1_2 a1_3) (impl_loses_1.fv a0_0 l0_1 a1_0 l1_1 l1_2 a1_3) := ⟨fun k => impl_loses_1.mono a0_0 l0_1 a1_0 l1_1 l1_2 a1_3 k, rfl⟩
theorem impl_loses_1.fv_eq (a0_0 : Int) (l0_1 : List Int) (a1_0 : Int) (l1_1 : List Int) (l1_2 : List Int) (a1_3 : Bool) : impl_loses_1.fv a0_0 l0_1 a1_0 l1_1 l1_2 a1_3 = (slices_Contains_int_int.fv l1_1 a0_0).bind fun t143 => (if t143 = true then (some true) else (if a1_3 = true then ((slices_Contains_int_int.fv l1_2 a0_0).bind fun t144 => (if t144 = true then (some false) else ((impl_InRange.f a0_0 1 3).bind fun t145 => (some (!t145))))) else (some false))) := by
  refine Is.lim (g := fun k => impl_loses_1.f k a0_0 l0_1 a1_0 l1_1 l1_2 a1_3) ?_
  · unfold impl_loses_1.f
    repeat' first
    | with_reducible exact slices_Contains_int_int.f_is _ _
    | with_reducible exact Is.now _
    | with_reducible refine Is.ite ?_ ?_
    | with_reducible refine Is.bind ?_ (fun _ => ?_)
noncomputable def slices_IndexFunc_impl_Ext_impl_Ext_with_impl_loses_1.l0v (x0 : List (S114)) (x7 : Int) (x8 : Int) (x2000 : Int) (x2001 : List Int) (x2002 : List Int) (x2003 : Bool) : Option (Int) := Lim fun k => slices_IndexFunc_impl_Ext_impl_Ext_with_impl_loses_1.l0 k x0 x7 x8 x2000 x2001 x2002 x2003
noncomputable def slices_IndexFunc_impl_Ext_impl_Ext_with_impl_loses_1.fv (l0 : List (S114)) (a1_0 : Int) (l1_1 : List Int) (l1_2 : List Int) (a1_3 : Bool) : Option (Int) := Lim fun k => slices_IndexFunc_impl_Ext_impl_Ext_with_impl_loses_1.f k l0 a1_0 l1_1 l1_2 a1_3
theorem slices_IndexFunc_impl_Ext_impl_Ext_with_impl_loses_1.l0_is (x0 : List (S114)) (x7 : Int) (x8 : Int) (x2000 : Int) (x2001 : List Int) (x2002 : List Int) (x2003 : Bool) : Is (fun k => slices_IndexFunc_impl_Ext_impl_Ext_with_impl_loses_1.l0 k x0 x7 x8 x2000 x2001 x2002 x2003) (slices_IndexFunc_impl_Ext_impl_Ext_with_impl_loses_1.l0v x0 x7 x8 x2000 x2001 x2002 x2003) := ⟨fun k => (slices_IndexFunc_impl_Ext_impl_Ext_with_impl_loses_1.mono_l k) x0 x7 x8 x2000 x2001 x2002 x2003, rfl⟩
theorem slices_IndexFunc_impl_Ext_impl_Ext_with_impl_loses_1.f_is (l0 : List (S114)) (a1_0 : Int) (l1_1 : List Int) (l1_2 : List Int) (a1_3 : Bool) : Is (fun k => slices_IndexFunc_impl_Ext_impl_Ext_with_impl_loses_1.f k l0 a1_0 l1_1 l1_2 a1_3) (slices_IndexFunc_impl_Ext_impl_Ext_with_impl_loses_1.fv l0 a1_0 l1_1 l1_2 a1_3) := ⟨fun k => slices_IndexFunc_impl_Ext_impl_Ext_with_impl_loses_1.mono l0 a1_0 l1_1 l1_2 a1_3 k, rfl⟩
theorem slices_IndexFunc_impl_Ext_impl_Ext_with_impl_loses_1.l0v_eq (x0 : List (S114)) (x7 : Int) (x8 : Int) (x2000 : Int) (x2001 : List Int) (x2002 : List Int) (x2003 : Bool) : slices_IndexFunc_impl_Ext_impl_Ext_with_impl_loses_1.l0v x0 x7 x8 x2000 x2001 x2002 x2003 = if x8 < x7 then (if 0 ≤ x8 then (if x8 < (x0.length : Int) then ((impl_loses_1.fv ((rd_T114 x0 x8).f0) ((rd_T114 x0 x8).f1) x2000 x2001 x2002 x2003).bind fun t147 => (if t147 = true then (some x8) else (slices_IndexFunc_impl_Ext_impl_Ext_with_impl_loses_1.l0v x0 x7 (wrap64 (x8 + 1)) x2000 x2001 x2002 x2003))) else (none)) else (none)) else (some (-1)) := by
  refine Is.step (slices_IndexFunc_impl_Ext_impl_Ext_with_impl_loses_1.l0_is x0 x7 x8 x2000 x2001 x2002 x2003).mo (fun k => by rw [slices_IndexFunc_impl_Ext_impl_Ext_with_impl_loses_1.l0]) ?_
  · skip
    repeat' first
    | with_reducible exact impl_loses_1.f_is _ _ _ _ _ _
    | with_reducible exact slices_IndexFunc_impl_Ext_impl_Ext_with_impl_loses_1.l0_is _ _ _ _ _ _ _
    | with_reducible exact Is.now _
    | with_reducible refine Is.ite ?_ ?_
    | with_reducible refine Is.bind ?_ (fun _ => ?_)
theorem slices_IndexFunc_impl_Ext_impl_Ext_with_impl_loses_1.fv_eq (l0 : List (S114)) (a1_0 : Int) (l1_1 : List Int) (l1_2 : List Int) (a1_3 : Bool) : slices_IndexFunc_impl_Ext_impl_Ext_with_impl_loses_1.fv l0 a1_0 l1_1 l1_2 a1_3 = slices_IndexFunc_impl_Ext_impl_Ext_with_impl_loses_1.l0v l0 (l0.length : Int) 0 a1_0 l1_1 l1_2 a1_3 := by
  refine Is.lim (g := fun k => slices_IndexFunc_impl_Ext_impl_Ext_with_impl_loses_1.f k l0 a1_0 l1_1 l1_2 a1_3) ?_
  · unfold slices_IndexFunc_impl_Ext_impl_Ext_with_impl_loses_1.f
    repeat' first
    | with_reducible exact slices_IndexFunc_impl_Ext_impl_Ext_with_impl_loses_1.l0_is _ _ _ _ _ _ _
    | with_reducible exact Is.now _
    | with_reducible refine Is.ite ?_ ?_
    | with_reducible refine Is.bind ?_ (fun _ => ?_)
noncomputable def slices_ContainsFunc_impl_Ext_impl_Ext_with_impl_loses_1.fv (l0 : List (S114)) (a1_0 : Int) (l1_1 : List Int) (l1_2 : List Int) (a1_3 : Bool) : Option (Bool) := Lim fun k => slices_ContainsFunc_impl_Ext_impl_Ext_with_impl_loses_1.f k l0 a1_0 l1_1 l1_2 a1_3
theorem slices_ContainsFunc_impl_Ext_impl_Ext_with_impl_loses_1.f_is (l0 : List (S114)) (a1_0 : Int) (l1_1 : List Int) (l1_2 : List Int) (a1_3 : Bool) : Is (fun k => slices_ContainsFunc_impl_Ext_impl_Ext_with_impl_loses_1.f k l0 a1_0 l1_1 l1_2 a1_3) (slices_ContainsFunc_impl_Ext_impl_Ext_with_impl_loses_1.fv l0 a1_0 l1_1 l1_2 a1_3) := ⟨fun k => slices_ContainsFunc_impl_Ext_impl_Ext_with_impl_loses_1.mono l0 a1_0 l1_1 l1_2 a1_3 k, rfl⟩
theorem slices_ContainsFunc_impl_Ext_impl_Ext_with_impl_loses_1.fv_eq (l0 : List (S114)) (a1_0 : Int) (l1_1 : List Int) (l1_2 : List Int) (a1_3 : Bool) : slices_ContainsFunc_impl_Ext_impl_Ext_with_impl_loses_1.fv l0 a1_0 l1_1 l1_2 a1_3 = (slices_IndexFunc_impl_Ext_impl_Ext_with_impl_loses_1.fv l0 a1_0 l1_1 l1_2 a1_3).bind fun t148 => (some (decide (t148 ≥ 0))) := by
  refine Is.lim (g := fun k => slices_ContainsFunc_impl_Ext_impl_Ext_with_impl_loses_1.f k l0 a1_0 l1_1 l1_2 a1_3) ?_
  · unfold slices_ContainsFunc_impl_Ext_impl_Ext_with_impl_loses_1.f
    repeat' first
    | with_reducible exact slices_IndexFunc_impl_Ext_impl_Ext_with_impl_loses_1.f_is _ _ _ _ _
    | with_reducible exact Is.now _
    | with_reducible refine Is.ite ?_ ?_
    | with_reducible refine Is.bind ?_ (fun _ => ?_)
end Go.Proofs.Ytdoefkloanpliaa.Print

/- ExtOf, AreExts and IsHello, of the program. Condition: at most 10 to the 12 of each. -/
set_option linter.unusedSimpArgs false
set_option linter.unusedVariables false
namespace Go.Proofs.Ytdoefkloanpliaa.Plain
open Go.RowKit Go.Proofs.YtdoefkloanpliaaW.PrintWords Go.Proofs.Ytdoefkloanpliaa.Base Go.Proofs.Ytdoefkloanpliaa.Print

theorem implExtOf_l0 (t : Int) (suf : List S114) : ∀ (pre : List S114), (pre ++ suf).length ≤ 1000000000000 →
    ∃ r, slices_IndexFunc_impl_Ext_impl_Ext_with_impl_ExtOf_1.l0v (pre ++ suf) ((pre ++ suf).length : Int) (pre.length : Int) t = some r ∧ decide (r ≥ 0) = hasT suf t := by
  induction suf with
  | nil =>
    intro pre _
    refine ⟨-1, ?_, by simp [hasT]⟩
    rw [slices_IndexFunc_impl_Ext_impl_Ext_with_impl_ExtOf_1.l0v_eq, if_neg (nlt_end pre)]
  | cons x suf ih =>
    intro pre hl
    have hn : pre.length < (pre ++ x :: suf).length := by simp
    rw [slices_IndexFunc_impl_Ext_impl_Ext_with_impl_ExtOf_1.l0v_eq, if_pos (lt_mid pre suf x), if_pos (by omega), if_pos (lt_mid pre suf x), rdExt_mid]
    unfold impl_ExtOf_1.f
    simp only [Option.bind_some, beq_iff_eq]
    by_cases hx : x.f0 = t
    · rw [if_pos hx]
      exact ⟨(pre.length : Int), rfl, by simp [hasT, hx]⟩
    · rw [if_neg hx, up_mid pre x hn hl]
      rw [mid_snoc pre suf x] at hl ⊢
      obtain ⟨r, h1, h2⟩ := ih (pre ++ [x]) hl
      exact ⟨r, h1, by rw [h2]; simp [hasT, hx]⟩
theorem implExtOf_ex (l : List S114) (t : Int) (hl : l.length ≤ 1000000000000) : ∃ r, impl_ExtOf.fv l t = some r ∧ decide (r ≥ 0) = hasT l t := by
  obtain ⟨r, h1, h2⟩ := implExtOf_l0 t l [] (by simpa using hl)
  refine ⟨r, ?_, h2⟩
  rw [impl_ExtOf.fv_eq, slices_IndexFunc_impl_Ext_impl_Ext_with_impl_ExtOf_1.fv_eq]
  simp only [List.nil_append, List.length_nil, Int.natCast_zero] at h1
  rw [h1]
  rfl
theorem implExts_l0 (suf : List S114) : ∀ (pre : List S114), (pre ++ suf).length ≤ 1000000000000 → okXs suf →
    impl_AreExts.l0v (pre ++ suf) (pre ++ suf) ((pre ++ suf).length : Int) (pre.length : Int) = some (areX pre suf && decide ((pre ++ suf).length ≤ 6)) := by
  induction suf with
  | nil =>
    intro pre _ _
    rw [impl_AreExts.l0v_eq, if_neg (nlt_end pre)]
    simp only [areX, Bool.true_and, show (((pre ++ []).length : Int) ≤ 6) ↔ ((pre ++ []).length ≤ 6) from by omega]
  | cons x suf ih =>
    intro pre hl hs
    have hn : pre.length < (pre ++ x :: suf).length := by simp
    have ht : (pre ++ x :: suf).take ((pre.length : Int)).toNat = pre := by simp
    obtain ⟨r, e1, e2⟩ := implExtOf_ex pre x.f0 (by omega)
    have h1 := ih (pre ++ [x]) (by simpa using hl) (fun y hy => hs y (List.mem_cons_of_mem _ hy))
    rw [← mid_snoc pre suf x] at h1
    rw [impl_AreExts.l0v_eq, if_pos (lt_mid pre suf x), if_pos (by omega), if_pos (lt_mid pre suf x), rdExt_mid, inRange_f, ht, e1, areNumbers_v _ _ _ (hs x List.mem_cons_self), up_mid pre x hn hl, h1]
    simp only [Option.bind_some, areX]
    rw [← e2]
    generalize areX (pre ++ [x]) suf = z
    generalize decide ((pre ++ x :: suf).length ≤ 6) = q
    generalize x.f1.all (inR 0 255) = y
    cases inR 0 255 x.f0 with
    | false => simp
    | true =>
      rw [if_pos rfl, if_pos (by omega)]
      by_cases h2 : r ≥ 0
      · simp [h2]
      · by_cases h3 : x.f1.length ≤ 4
        · rw [if_neg h2, if_neg (by omega)]
          cases y <;> simp [h2, h3]
        · rw [if_neg h2, if_pos (by omega)]
          simp [h3]
theorem implExts_v (l : List S114) (hl : l.length ≤ 1000000000000) (hs : okXs l) : impl_AreExts.fv l = some (isX l) := by
  rw [impl_AreExts.fv_eq]
  simpa [isX] using implExts_l0 l [] (by simpa using hl) hs
theorem implHello_v (v : List Int) (l : List S114) (hv : v.length ≤ 1000000000000) (hl : l.length ≤ 1000000000000) (hs : okXs l) : impl_IsHello.fv v l = some (isH v l) := by
  rw [impl_IsHello.fv_eq, implVers_v v hv, implExts_v l hl hs]
  simp only [Option.bind_some, isH]
  cases areV v <;> simp
end Go.Proofs.Ytdoefkloanpliaa.Plain

/- IsBox, of the program. Condition: at most 10 to the 12 of each. -/
set_option linter.unusedSimpArgs false
set_option linter.unusedVariables false
namespace Go.Proofs.Ytdoefkloanpliaa.Plain
open Go.RowKit Go.Proofs.YtdoefkloanpliaaW.PrintWords Go.Proofs.Ytdoefkloanpliaa.Base Go.Proofs.Ytdoefkloanpliaa.Print

theorem implIsB_v (b : S67) (h : okB b) : impl_IsBox.fv b.f0 b.f1 b.f2 b.f3 = some (isB b) := by
  rw [impl_IsBox.fv_eq, inRange_f, areNumbers_v _ _ _ h.1, areNumbers_v _ _ _ h.2]
  simp only [Option.bind_some, isB]
  simp only [show ((b.f1.length : Int) ≤ 6) ↔ (b.f1.length ≤ 6) from by omega, show ((b.f2.length : Int) ≤ 6) ↔ (b.f2.length ≤ 6) from by omega]
  generalize inR 0 9 b.f0 = x
  generalize b.f1.all (inR 0 255) = y
  generalize b.f2.all (inR 0 255) = z
  by_cases h1 : b.f1.length ≤ 6 <;> by_cases h2 : b.f2.length ≤ 6 <;> cases x <;> cases y <;> cases z <;> simp [h1, h2]
end Go.Proofs.Ytdoefkloanpliaa.Plain

/- slices.Contains on whole numbers. Condition: at most 10 to the 12 numbers. -/
set_option linter.unusedSimpArgs false
set_option linter.unusedVariables false
namespace Go.Proofs.Ytdoefkloanpliaa.Plain
open Go.RowKit Go.Proofs.YtdoefkloanpliaaW.PrintWords Go.Proofs.Ytdoefkloanpliaa.Base Go.Proofs.Ytdoefkloanpliaa.Print

theorem slIndex_l0 (x : Int) (suf : List Int) : ∀ (pre : List Int), (pre ++ suf).length ≤ 1000000000000 →
    ∃ r, slices_Index_int_int.l0v (pre ++ suf) x ((pre ++ suf).length : Int) (pre.length : Int) = some r ∧ decide (r ≥ 0) = mem suf x := by
  induction suf with
  | nil =>
    intro pre _
    refine ⟨-1, ?_, by simp [mem]⟩
    rw [slices_Index_int_int.l0v_eq, if_neg (nlt_end pre)]
  | cons y suf ih =>
    intro pre hl
    have hn : pre.length < (pre ++ y :: suf).length := by simp
    rw [slices_Index_int_int.l0v_eq, if_pos (lt_mid pre suf y), if_pos (by omega), if_pos (lt_mid pre suf y), rd_mid]
    by_cases hxy : x = y
    · rw [if_pos hxy]
      refine ⟨(pre.length : Int), rfl, ?_⟩
      rw [mem_cons, hxy]
      simp
    · rw [if_neg hxy, up_mid pre y hn hl]
      rw [mid_snoc pre suf y] at hl ⊢
      obtain ⟨r, h1, h2⟩ := ih (pre ++ [y]) hl
      refine ⟨r, h1, ?_⟩
      rw [h2, mem_cons]
      simp [show ¬ y = x from fun e => hxy e.symm]
theorem slHas_v (l : List Int) (x : Int) (hl : l.length ≤ 1000000000000) : slices_Contains_int_int.fv l x = some (mem l x) := by
  obtain ⟨r, h1, h2⟩ := slIndex_l0 x l [] (by simpa using hl)
  rw [slices_Contains_int_int.fv_eq, slices_Index_int_int.fv_eq]
  simp only [List.nil_append, List.length_nil, Int.natCast_zero] at h1
  rw [h1]
  simp [h2]
end Go.Proofs.Ytdoefkloanpliaa.Plain

/- Written by a program of this session (limx.py): the equations of what the printed functions come to. No condition. -/
namespace Go.Proofs.Ytdoefkloanpliaa.Print
open Go.RowKit Go.Proofs.YtdoefkloanpliaaW.PrintWords Go.Proofs.YtdoefkloanpliaaW.PrintLast Go.Proofs.Ytdoefkloanpliaa.Base
set_option linter.unusedVariables false
set_option maxRecDepth 20000
noncomputable def impl_loses.fv (a0_0 : Int) (l0_1 : List Int) (l0_2 : List Int) (a0_3 : Bool) (l1_0 : List Int) (l1_1 : List (S114)) : Option (Bool) := Lim fun k => impl_loses.f k a0_0 l0_1 l0_2 a0_3 l1_0 l1_1
theorem impl_loses.f_is (a0_0 : Int) (l0_1 : List Int) (l0_2 : List Int) (a0_3 : Bool) (l1_0 : List Int) (l1_1 : List (S114)) : Is (fun k => impl_loses.f k a0_0 l0_1 l0_2 a0_3 l1_0 l1_1) (impl_loses.fv a0_0 l0_1 l0_2 a0_3 l1_0 l1_1) := ⟨fun k => impl_loses.mono a0_0 l0_1 l0_2 a0_3 l1_0 l1_1 k, rfl⟩
theorem impl_loses.fv_eq (a0_0 : Int) (l0_1 : List Int) (l0_2 : List Int) (a0_3 : Bool) (l1_0 : List Int) (l1_1 : List (S114)) : impl_loses.fv a0_0 l0_1 l0_2 a0_3 l1_0 l1_1 = if a0_0 = 0 then ((slices_ContainsFunc_impl_Ext_impl_Ext_with_impl_loses_1.fv l1_1 a0_0 l0_1 l0_2 a0_3).bind fun t151 => (some t151)) else ((slices_Max_int_int.fv l1_0).bind fun t152 => (if t152 > a0_0 then (some true) else ((slices_ContainsFunc_impl_Ext_impl_Ext_with_impl_loses_1.fv l1_1 a0_0 l0_1 l0_2 a0_3).bind fun t153 => (some t153)))) := by
  refine Is.lim (g := fun k => impl_loses.f k a0_0 l0_1 l0_2 a0_3 l1_0 l1_1) ?_
  · unfold impl_loses.f
    repeat' first
    | with_reducible exact slices_ContainsFunc_impl_Ext_impl_Ext_with_impl_loses_1.f_is _ _ _ _ _
    | with_reducible exact slices_Max_int_int.f_is _
    | with_reducible exact Is.now _
    | with_reducible refine Is.ite ?_ ?_
    | with_reducible refine Is.bind ?_ (fun _ => ?_)
noncomputable def impl_PassBox_1.fv (a0 : Int) (a1_0 : Int) (l1_1 : List Int) (l1_2 : List Int) (a1_3 : Bool) : Option (Bool) := Lim fun k => impl_PassBox_1.f k a0 a1_0 l1_1 l1_2 a1_3
theorem impl_PassBox_1.f_is (a0 : Int) (a1_0 : Int) (l1_1 : List Int) (l1_2 : List Int) (a1_3 : Bool) : Is (fun k => impl_PassBox_1.f k a0 a1_0 l1_1 l1_2 a1_3) (impl_PassBox_1.fv a0 a1_0 l1_1 l1_2 a1_3) := ⟨fun k => impl_PassBox_1.mono a0 a1_0 l1_1 l1_2 a1_3 k, rfl⟩
theorem impl_PassBox_1.fv_eq (a0 : Int) (a1_0 : Int) (l1_1 : List Int) (l1_2 : List Int) (a1_3 : Bool) : impl_PassBox_1.fv a0 a1_0 l1_1 l1_2 a1_3 = (slices_Contains_int_int.fv l1_2 a0).bind fun t160 => (some (!t160)) := by
  refine Is.lim (g := fun k => impl_PassBox_1.f k a0 a1_0 l1_1 l1_2 a1_3) ?_
  · unfold impl_PassBox_1.f
    repeat' first
    | with_reducible exact slices_Contains_int_int.f_is _ _
    | with_reducible exact Is.now _
    | with_reducible refine Is.ite ?_ ?_
    | with_reducible refine Is.bind ?_ (fun _ => ?_)
noncomputable def impl_keptExts_with_impl_PassBox_1.l0v (x5 : List (S114)) (x9 : List (S114)) (x10 : Int) (x11 : Int) (x2000 : Int) (x2001 : List Int) (x2002 : List Int) (x2003 : Bool) : Option ((List (S114))) := Lim fun k => impl_keptExts_with_impl_PassBox_1.l0 k x5 x9 x10 x11 x2000 x2001 x2002 x2003
noncomputable def impl_keptExts_with_impl_PassBox_1.fv (l0 : List (S114)) (a1_0 : Int) (l1_1 : List Int) (l1_2 : List Int) (a1_3 : Bool) : Option ((List (S114))) := Lim fun k => impl_keptExts_with_impl_PassBox_1.f k l0 a1_0 l1_1 l1_2 a1_3
theorem impl_keptExts_with_impl_PassBox_1.l0_is (x5 : List (S114)) (x9 : List (S114)) (x10 : Int) (x11 : Int) (x2000 : Int) (x2001 : List Int) (x2002 : List Int) (x2003 : Bool) : Is (fun k => impl_keptExts_with_impl_PassBox_1.l0 k x5 x9 x10 x11 x2000 x2001 x2002 x2003) (impl_keptExts_with_impl_PassBox_1.l0v x5 x9 x10 x11 x2000 x2001 x2002 x2003) := ⟨fun k => (impl_keptExts_with_impl_PassBox_1.mono_l k) x5 x9 x10 x11 x2000 x2001 x2002 x2003, rfl⟩
theorem impl_keptExts_with_impl_PassBox_1.f_is (l0 : List (S114)) (a1_0 : Int) (l1_1 : List Int) (l1_2 : List Int) (a1_3 : Bool) : Is (fun k => impl_keptExts_with_impl_PassBox_1.f k l0 a1_0 l1_1 l1_2 a1_3) (impl_keptExts_with_impl_PassBox_1.fv l0 a1_0 l1_1 l1_2 a1_3) := ⟨fun k => impl_keptExts_with_impl_PassBox_1.mono l0 a1_0 l1_1 l1_2 a1_3 k, rfl⟩
theorem impl_keptExts_with_impl_PassBox_1.l0v_eq (x5 : List (S114)) (x9 : List (S114)) (x10 : Int) (x11 : Int) (x2000 : Int) (x2001 : List Int) (x2002 : List Int) (x2003 : Bool) : impl_keptExts_with_impl_PassBox_1.l0v x5 x9 x10 x11 x2000 x2001 x2002 x2003 = if x11 < x10 then (if 0 ≤ x11 then (if x11 < (x9.length : Int) then ((impl_PassBox_1.fv ((rd_T114 x9 x11).f0) x2000 x2001 x2002 x2003).bind fun t166 => (if t166 = true then ((some (([] : List Int) : List Int)).bind fun y167 => (if y167.length + ((rd_T114 x9 x11).f1).length < 17592186044416 then (if x5.length < 4398046511104 then (impl_keptExts_with_impl_PassBox_1.l0v (x5 ++ [(⟨(rd_T114 x9 x11).f0, (y167 ++ ((rd_T114 x9 x11).f1))⟩ : S114)]) x9 x10 (wrap64 (x11 + 1)) x2000 x2001 x2002 x2003) else (none)) else (none))) else (impl_keptExts_with_impl_PassBox_1.l0v x5 x9 x10 (wrap64 (x11 + 1)) x2000 x2001 x2002 x2003))) else (none)) else (none)) else (some x5) := by
  refine Is.step (impl_keptExts_with_impl_PassBox_1.l0_is x5 x9 x10 x11 x2000 x2001 x2002 x2003).mo (fun k => by rw [impl_keptExts_with_impl_PassBox_1.l0]) ?_
  · skip
    repeat' first
    | with_reducible exact impl_PassBox_1.f_is _ _ _ _ _
    | with_reducible exact impl_keptExts_with_impl_PassBox_1.l0_is _ _ _ _ _ _ _ _
    | with_reducible exact Is.now _
    | with_reducible refine Is.ite ?_ ?_
    | with_reducible refine Is.bind ?_ (fun _ => ?_)
theorem impl_keptExts_with_impl_PassBox_1.fv_eq (l0 : List (S114)) (a1_0 : Int) (l1_1 : List Int) (l1_2 : List Int) (a1_3 : Bool) : impl_keptExts_with_impl_PassBox_1.fv l0 a1_0 l1_1 l1_2 a1_3 = impl_keptExts_with_impl_PassBox_1.l0v (([] : List (S114))) l0 (l0.length : Int) 0 a1_0 l1_1 l1_2 a1_3 := by
  refine Is.lim (g := fun k => impl_keptExts_with_impl_PassBox_1.f k l0 a1_0 l1_1 l1_2 a1_3) ?_
  · unfold impl_keptExts_with_impl_PassBox_1.f
    repeat' first
    | with_reducible exact impl_keptExts_with_impl_PassBox_1.l0_is _ _ _ _ _ _ _ _
    | with_reducible exact Is.now _
    | with_reducible refine Is.ite ?_ ?_
    | with_reducible refine Is.bind ?_ (fun _ => ?_)
end Go.Proofs.Ytdoefkloanpliaa.Print

/- Written by a program of this session (limx.py): the equations of what the printed functions come to. No condition. -/
namespace Go.Proofs.Ytdoefkloanpliaa.Print
open Go.RowKit Go.Proofs.YtdoefkloanpliaaW.PrintWords Go.Proofs.YtdoefkloanpliaaW.PrintLast Go.Proofs.Ytdoefkloanpliaa.Base
set_option linter.unusedVariables false
set_option maxRecDepth 20000
noncomputable def impl_PassBox.j0v (x18 : Bool) (x177000 : Int) (x177001 : List Int) (x177002 : List Int) (x177003 : Bool) (x178000 : List Int) (x178001 : List (S114)) : Option (List Int × (List (S114)) × Bool) := Lim fun k => impl_PassBox.j0 k x18 x177000 x177001 x177002 x177003 x178000 x178001
noncomputable def impl_PassBox.fv (a0_0 : Int) (l0_1 : List Int) (l0_2 : List Int) (a0_3 : Bool) (l1_0 : List Int) (l1_1 : List (S114)) : Option (List Int × (List (S114)) × Bool) := Lim fun k => impl_PassBox.f k a0_0 l0_1 l0_2 a0_3 l1_0 l1_1
theorem impl_PassBox.j0_is (x18 : Bool) (x177000 : Int) (x177001 : List Int) (x177002 : List Int) (x177003 : Bool) (x178000 : List Int) (x178001 : List (S114)) : Is (fun k => impl_PassBox.j0 k x18 x177000 x177001 x177002 x177003 x178000 x178001) (impl_PassBox.j0v x18 x177000 x177001 x177002 x177003 x178000 x178001) := ⟨fun k => (impl_PassBox.mono_l k) x18 x177000 x177001 x177002 x177003 x178000 x178001, rfl⟩
theorem impl_PassBox.f_is (a0_0 : Int) (l0_1 : List Int) (l0_2 : List Int) (a0_3 : Bool) (l1_0 : List Int) (l1_1 : List (S114)) : Is (fun k => impl_PassBox.f k a0_0 l0_1 l0_2 a0_3 l1_0 l1_1) (impl_PassBox.fv a0_0 l0_1 l0_2 a0_3 l1_0 l1_1) := ⟨fun k => impl_PassBox.mono a0_0 l0_1 l0_2 a0_3 l1_0 l1_1 k, rfl⟩
theorem impl_PassBox.j0v_eq (x18 : Bool) (x177000 : Int) (x177001 : List Int) (x177002 : List Int) (x177003 : Bool) (x178000 : List Int) (x178001 : List (S114)) : impl_PassBox.j0v x18 x177000 x177001 x177002 x177003 x178000 x178001 = if x18 = true then (some (([] : List Int), ([] : List (S114)), false)) else ((slices_Clone_int_int.f x178000).bind fun t182 => ((impl_keptExts_with_impl_PassBox_1.fv x178001 x177000 x177001 x177002 x177003).bind fun t185 => (some (t182, t185, true)))) := by
  refine Is.step (impl_PassBox.j0_is x18 x177000 x177001 x177002 x177003 x178000 x178001).mo (fun k => by rw [impl_PassBox.j0]) ?_
  · skip
    repeat' first
    | with_reducible exact impl_keptExts_with_impl_PassBox_1.f_is _ _ _ _ _
    | with_reducible exact Is.now _
    | with_reducible refine Is.ite ?_ ?_
    | with_reducible refine Is.bind ?_ (fun _ => ?_)
theorem impl_PassBox.fv_eq (a0_0 : Int) (l0_1 : List Int) (l0_2 : List Int) (a0_3 : Bool) (l1_0 : List Int) (l1_1 : List (S114)) : impl_PassBox.fv a0_0 l0_1 l0_2 a0_3 l1_0 l1_1 = (impl_IsBox.fv a0_0 l0_1 l0_2 a0_3).bind fun t179 => (if t179 = true then ((impl_IsHello.fv l1_0 l1_1).bind fun t180 => (if t180 = true then ((impl_loses.fv a0_0 l0_1 l0_2 a0_3 l1_0 l1_1).bind fun t181 => (impl_PassBox.j0v t181 a0_0 l0_1 l0_2 a0_3 l1_0 l1_1)) else (impl_PassBox.j0v true a0_0 l0_1 l0_2 a0_3 l1_0 l1_1))) else (impl_PassBox.j0v true a0_0 l0_1 l0_2 a0_3 l1_0 l1_1)) := by
  refine Is.lim (g := fun k => impl_PassBox.f k a0_0 l0_1 l0_2 a0_3 l1_0 l1_1) ?_
  · unfold impl_PassBox.f
    repeat' first
    | with_reducible exact impl_IsBox.f_is _ _ _ _
    | with_reducible exact impl_IsHello.f_is _ _
    | with_reducible exact impl_PassBox.j0_is _ _ _ _ _ _ _
    | with_reducible exact impl_loses.f_is _ _ _ _ _ _
    | with_reducible exact Is.now _
    | with_reducible refine Is.ite ?_ ?_
    | with_reducible refine Is.bind ?_ (fun _ => ?_)
noncomputable def impl_RefusesGrease_1.fv (a0 : Int) (a1_0 : Int) (l1_1 : List Int) (l1_2 : List Int) (a1_3 : Bool) : Option (Bool) := Lim fun k => impl_RefusesGrease_1.f k a0 a1_0 l1_1 l1_2 a1_3
theorem impl_RefusesGrease_1.f_is (a0 : Int) (a1_0 : Int) (l1_1 : List Int) (l1_2 : List Int) (a1_3 : Bool) : Is (fun k => impl_RefusesGrease_1.f k a0 a1_0 l1_1 l1_2 a1_3) (impl_RefusesGrease_1.fv a0 a1_0 l1_1 l1_2 a1_3) := ⟨fun k => impl_RefusesGrease_1.mono a0 a1_0 l1_1 l1_2 a1_3 k, rfl⟩
theorem impl_RefusesGrease_1.fv_eq (a0 : Int) (a1_0 : Int) (l1_1 : List Int) (l1_2 : List Int) (a1_3 : Bool) : impl_RefusesGrease_1.fv a0 a1_0 l1_1 l1_2 a1_3 = (impl_PassBox.fv a1_0 l1_1 l1_2 a1_3 (([1] : List Int)) (([(⟨a0, ([] : List Int)⟩ : S114)] : List (S114)))).bind fun bt194 => (if bt194.2.2 = true then (some ((bt194.2.1.length : Int) == 0)) else (some true)) := by
  refine Is.lim (g := fun k => impl_RefusesGrease_1.f k a0 a1_0 l1_1 l1_2 a1_3) ?_
  · unfold impl_RefusesGrease_1.f
    repeat' first
    | with_reducible exact impl_PassBox.f_is _ _ _ _ _ _
    | with_reducible exact Is.now _
    | with_reducible refine Is.ite ?_ ?_
    | with_reducible refine Is.bind ?_ (fun _ => ?_)
noncomputable def slices_IndexFunc_int_int_with_impl_RefusesGrease_1.l0v (x0 : List Int) (x7 : Int) (x8 : Int) (x2000 : Int) (x2001 : List Int) (x2002 : List Int) (x2003 : Bool) : Option (Int) := Lim fun k => slices_IndexFunc_int_int_with_impl_RefusesGrease_1.l0 k x0 x7 x8 x2000 x2001 x2002 x2003
noncomputable def slices_IndexFunc_int_int_with_impl_RefusesGrease_1.fv (l0 : List Int) (a1_0 : Int) (l1_1 : List Int) (l1_2 : List Int) (a1_3 : Bool) : Option (Int) := Lim fun k => slices_IndexFunc_int_int_with_impl_RefusesGrease_1.f k l0 a1_0 l1_1 l1_2 a1_3
theorem slices_IndexFunc_int_int_with_impl_RefusesGrease_1.l0_is (x0 : List Int) (x7 : Int) (x8 : Int) (x2000 : Int) (x2001 : List Int) (x2002 : List Int) (x2003 : Bool) : Is (fun k => slices_IndexFunc_int_int_with_impl_RefusesGrease_1.l0 k x0 x7 x8 x2000 x2001 x2002 x2003) (slices_IndexFunc_int_int_with_impl_RefusesGrease_1.l0v x0 x7 x8 x2000 x2001 x2002 x2003) := ⟨fun k => (slices_IndexFunc_int_int_with_impl_RefusesGrease_1.mono_l k) x0 x7 x8 x2000 x2001 x2002 x2003, rfl⟩
theorem slices_IndexFunc_int_int_with_impl_RefusesGrease_1.f_is (l0 : List Int) (a1_0 : Int) (l1_1 : List Int) (l1_2 : List Int) (a1_3 : Bool) : Is (fun k => slices_IndexFunc_int_int_with_impl_RefusesGrease_1.f k l0 a1_0 l1_1 l1_2 a1_3) (slices_IndexFunc_int_int_with_impl_RefusesGrease_1.fv l0 a1_0 l1_1 l1_2 a1_3) := ⟨fun k => slices_IndexFunc_int_int_with_impl_RefusesGrease_1.mono l0 a1_0 l1_1 l1_2 a1_3 k, rfl⟩
theorem slices_IndexFunc_int_int_with_impl_RefusesGrease_1.l0v_eq (x0 : List Int) (x7 : Int) (x8 : Int) (x2000 : Int) (x2001 : List Int) (x2002 : List Int) (x2003 : Bool) : slices_IndexFunc_int_int_with_impl_RefusesGrease_1.l0v x0 x7 x8 x2000 x2001 x2002 x2003 = if x8 < x7 then (if 0 ≤ x8 then (if x8 < (x0.length : Int) then ((impl_RefusesGrease_1.fv (rd x0 x8) x2000 x2001 x2002 x2003).bind fun t203 => (if t203 = true then (some x8) else (slices_IndexFunc_int_int_with_impl_RefusesGrease_1.l0v x0 x7 (wrap64 (x8 + 1)) x2000 x2001 x2002 x2003))) else (none)) else (none)) else (some (-1)) := by
  refine Is.step (slices_IndexFunc_int_int_with_impl_RefusesGrease_1.l0_is x0 x7 x8 x2000 x2001 x2002 x2003).mo (fun k => by rw [slices_IndexFunc_int_int_with_impl_RefusesGrease_1.l0]) ?_
  · skip
    repeat' first
    | with_reducible exact impl_RefusesGrease_1.f_is _ _ _ _ _
    | with_reducible exact slices_IndexFunc_int_int_with_impl_RefusesGrease_1.l0_is _ _ _ _ _ _ _
    | with_reducible exact Is.now _
    | with_reducible refine Is.ite ?_ ?_
    | with_reducible refine Is.bind ?_ (fun _ => ?_)
theorem slices_IndexFunc_int_int_with_impl_RefusesGrease_1.fv_eq (l0 : List Int) (a1_0 : Int) (l1_1 : List Int) (l1_2 : List Int) (a1_3 : Bool) : slices_IndexFunc_int_int_with_impl_RefusesGrease_1.fv l0 a1_0 l1_1 l1_2 a1_3 = slices_IndexFunc_int_int_with_impl_RefusesGrease_1.l0v l0 (l0.length : Int) 0 a1_0 l1_1 l1_2 a1_3 := by
  refine Is.lim (g := fun k => slices_IndexFunc_int_int_with_impl_RefusesGrease_1.f k l0 a1_0 l1_1 l1_2 a1_3) ?_
  · unfold slices_IndexFunc_int_int_with_impl_RefusesGrease_1.f
    repeat' first
    | with_reducible exact slices_IndexFunc_int_int_with_impl_RefusesGrease_1.l0_is _ _ _ _ _ _ _
    | with_reducible exact Is.now _
    | with_reducible refine Is.ite ?_ ?_
    | with_reducible refine Is.bind ?_ (fun _ => ?_)
noncomputable def slices_ContainsFunc_int_int_with_impl_RefusesGrease_1.fv (l0 : List Int) (a1_0 : Int) (l1_1 : List Int) (l1_2 : List Int) (a1_3 : Bool) : Option (Bool) := Lim fun k => slices_ContainsFunc_int_int_with_impl_RefusesGrease_1.f k l0 a1_0 l1_1 l1_2 a1_3
theorem slices_ContainsFunc_int_int_with_impl_RefusesGrease_1.f_is (l0 : List Int) (a1_0 : Int) (l1_1 : List Int) (l1_2 : List Int) (a1_3 : Bool) : Is (fun k => slices_ContainsFunc_int_int_with_impl_RefusesGrease_1.f k l0 a1_0 l1_1 l1_2 a1_3) (slices_ContainsFunc_int_int_with_impl_RefusesGrease_1.fv l0 a1_0 l1_1 l1_2 a1_3) := ⟨fun k => slices_ContainsFunc_int_int_with_impl_RefusesGrease_1.mono l0 a1_0 l1_1 l1_2 a1_3 k, rfl⟩
theorem slices_ContainsFunc_int_int_with_impl_RefusesGrease_1.fv_eq (l0 : List Int) (a1_0 : Int) (l1_1 : List Int) (l1_2 : List Int) (a1_3 : Bool) : slices_ContainsFunc_int_int_with_impl_RefusesGrease_1.fv l0 a1_0 l1_1 l1_2 a1_3 = (slices_IndexFunc_int_int_with_impl_RefusesGrease_1.fv l0 a1_0 l1_1 l1_2 a1_3).bind fun t204 => (some (decide (t204 ≥ 0))) := by
  refine Is.lim (g := fun k => slices_ContainsFunc_int_int_with_impl_RefusesGrease_1.f k l0 a1_0 l1_1 l1_2 a1_3) ?_
  · unfold slices_ContainsFunc_int_int_with_impl_RefusesGrease_1.f
    repeat' first
    | with_reducible exact slices_IndexFunc_int_int_with_impl_RefusesGrease_1.f_is _ _ _ _ _
    | with_reducible exact Is.now _
    | with_reducible refine Is.ite ?_ ?_
    | with_reducible refine Is.bind ?_ (fun _ => ?_)
noncomputable def impl_RefusesGrease.fv (a0_0 : Int) (l0_1 : List Int) (l0_2 : List Int) (a0_3 : Bool) : Option (Bool) := Lim fun k => impl_RefusesGrease.f k a0_0 l0_1 l0_2 a0_3
theorem impl_RefusesGrease.f_is (a0_0 : Int) (l0_1 : List Int) (l0_2 : List Int) (a0_3 : Bool) : Is (fun k => impl_RefusesGrease.f k a0_0 l0_1 l0_2 a0_3) (impl_RefusesGrease.fv a0_0 l0_1 l0_2 a0_3) := ⟨fun k => impl_RefusesGrease.mono a0_0 l0_1 l0_2 a0_3 k, rfl⟩
theorem impl_RefusesGrease.fv_eq (a0_0 : Int) (l0_1 : List Int) (l0_2 : List Int) (a0_3 : Bool) : impl_RefusesGrease.fv a0_0 l0_1 l0_2 a0_3 = (impl_IsBox.fv a0_0 l0_1 l0_2 a0_3).bind fun t206 => (if t206 = true then ((impl_reservedTags.fv).bind fun t207 => ((slices_ContainsFunc_int_int_with_impl_RefusesGrease_1.fv t207 a0_0 l0_1 l0_2 a0_3).bind fun t210 => (some t210))) else (some false)) := by
  refine Is.lim (g := fun k => impl_RefusesGrease.f k a0_0 l0_1 l0_2 a0_3) ?_
  · unfold impl_RefusesGrease.f
    repeat' first
    | with_reducible exact impl_IsBox.f_is _ _ _ _
    | with_reducible exact impl_reservedTags.f_is 
    | with_reducible exact slices_ContainsFunc_int_int_with_impl_RefusesGrease_1.f_is _ _ _ _ _
    | with_reducible exact Is.now _
    | with_reducible refine Is.ite ?_ ?_
    | with_reducible refine Is.bind ?_ (fun _ => ?_)
noncomputable def impl_HardenedBoxes.l0v (x3 : List Int) (x7 : List (S67)) (x8 : Int) (x9 : Int) : Option (List Int) := Lim fun k => impl_HardenedBoxes.l0 k x3 x7 x8 x9
noncomputable def impl_HardenedBoxes.fv (l0 : List (S67)) : Option (List Int) := Lim fun k => impl_HardenedBoxes.f k l0
theorem impl_HardenedBoxes.l0_is (x3 : List Int) (x7 : List (S67)) (x8 : Int) (x9 : Int) : Is (fun k => impl_HardenedBoxes.l0 k x3 x7 x8 x9) (impl_HardenedBoxes.l0v x3 x7 x8 x9) := ⟨fun k => (impl_HardenedBoxes.mono_l k) x3 x7 x8 x9, rfl⟩
theorem impl_HardenedBoxes.f_is (l0 : List (S67)) : Is (fun k => impl_HardenedBoxes.f k l0) (impl_HardenedBoxes.fv l0) := ⟨fun k => impl_HardenedBoxes.mono l0 k, rfl⟩
theorem impl_HardenedBoxes.l0v_eq (x3 : List Int) (x7 : List (S67)) (x8 : Int) (x9 : Int) : impl_HardenedBoxes.l0v x3 x7 x8 x9 = if x9 < x8 then (if 0 ≤ x9 then (if x9 < (x7.length : Int) then ((impl_RefusesGrease.fv ((rd_T67 x7 x9).f0) ((rd_T67 x7 x9).f1) ((rd_T67 x7 x9).f2) ((rd_T67 x7 x9).f3)).bind fun t216 => (if t216 = true then (if x3.length < 17592186044416 then (impl_HardenedBoxes.l0v (x3 ++ [x9]) x7 x8 (wrap64 (x9 + 1))) else (none)) else (impl_HardenedBoxes.l0v x3 x7 x8 (wrap64 (x9 + 1))))) else (none)) else (none)) else (some x3) := by
  refine Is.step (impl_HardenedBoxes.l0_is x3 x7 x8 x9).mo (fun k => by rw [impl_HardenedBoxes.l0]) ?_
  · skip
    repeat' first
    | with_reducible exact impl_HardenedBoxes.l0_is _ _ _ _
    | with_reducible exact impl_RefusesGrease.f_is _ _ _ _
    | with_reducible exact Is.now _
    | with_reducible refine Is.ite ?_ ?_
    | with_reducible refine Is.bind ?_ (fun _ => ?_)
theorem impl_HardenedBoxes.fv_eq (l0 : List (S67)) : impl_HardenedBoxes.fv l0 = impl_HardenedBoxes.l0v (([] : List Int)) l0 (l0.length : Int) 0 := by
  refine Is.lim (g := fun k => impl_HardenedBoxes.f k l0) ?_
  · unfold impl_HardenedBoxes.f
    repeat' first
    | with_reducible exact impl_HardenedBoxes.l0_is _ _ _ _
    | with_reducible exact Is.now _
    | with_reducible refine Is.ite ?_ ?_
    | with_reducible refine Is.bind ?_ (fun _ => ?_)
end Go.Proofs.Ytdoefkloanpliaa.Print

/- PassBox, of the program. Condition: at most 10 to the 12 of each. -/
set_option linter.unusedSimpArgs false
set_option linter.unusedVariables false
namespace Go.Proofs.Ytdoefkloanpliaa.Plain
open Go.RowKit Go.Proofs.YtdoefkloanpliaaW.PrintWords Go.Proofs.Ytdoefkloanpliaa.Base Go.Proofs.Ytdoefkloanpliaa.Print

theorem slMax_l0 (suf : List Int) : ∀ (pre : List Int) (m : Int), (pre ++ suf).length ≤ 1000000000000 → vers m suf = true → slices_Max_int_int.l0v (pre ++ suf) m (pre.length : Int) = some (suf.getLastD m) := by
  induction suf with
  | nil =>
    intro pre m _ _
    rw [slices_Max_int_int.l0v_eq, if_neg (nlt_end pre)]
    rfl
  | cons x suf ih =>
    intro pre m hl hv
    have hn : pre.length < (pre ++ x :: suf).length := by simp
    simp only [vers, Bool.and_eq_true, decide_eq_true_eq] at hv
    have hm : mx m x = x := by
      unfold mx
      split <;> omega
    rw [slices_Max_int_int.l0v_eq, if_pos (lt_mid pre suf x), if_pos (by omega), rd_mid, up_mid pre x hn hl, hm]
    rw [mid_snoc pre suf x] at hl ⊢
    rw [ih (pre ++ [x]) x hl hv.2.2, lastD_cons]
theorem slMax_v (l : List Int) (hl : l.length ≤ 1000000000000) (h : areV l = true) : slices_Max_int_int.fv l = some (l.getLastD 0) := by
  cases l with
  | nil => simp [areV] at h
  | cons x l =>
    simp only [areV, vers, Bool.and_eq_true] at h
    have h1 := slMax_l0 l [x] x (by simpa using hl) h.1.2.2
    have h0 : rd (x :: l) 0 = x := by simp [rd]
    rw [slices_Max_int_int.fv_eq, if_neg (by simp only [List.length_cons]; omega), if_pos (by simp only [List.length_cons]; omega), h0, lastD_cons]
    simpa using h1
theorem slClone_f (l : List Int) (hl : l.length ≤ 1000000000000) : slices_Clone_int_int.f l = some l := by
  unfold slices_Clone_int_int.f
  simp only [Option.bind_some, List.nil_append, List.length_nil, Nat.zero_add]
  rw [if_pos (by omega)]
theorem implLose1_v (b : S67) (t : Int) (l : List Int) (h : okB b) : impl_loses_1.fv t l b.f0 b.f1 b.f2 b.f3 = some (drops b t) := by
  rw [impl_loses_1.fv_eq, slHas_v _ _ h.1, slHas_v _ _ h.2, inRange_f]
  simp only [Option.bind_some, drops]
  generalize mem b.f1 t = x
  generalize mem b.f2 t = y
  generalize inR 1 3 t = z
  generalize b.f3 = u
  cases x <;> cases y <;> cases z <;> cases u <;> rfl
theorem implLose_l0 (b : S67) (h : okB b) (suf : List S114) : ∀ (pre : List S114), (pre ++ suf).length ≤ 1000000000000 →
    ∃ r, slices_IndexFunc_impl_Ext_impl_Ext_with_impl_loses_1.l0v (pre ++ suf) ((pre ++ suf).length : Int) (pre.length : Int) b.f0 b.f1 b.f2 b.f3 = some r ∧ decide (r ≥ 0) = suf.any (fun x => drops b x.f0) := by
  induction suf with
  | nil =>
    intro pre _
    refine ⟨-1, ?_, by simp⟩
    rw [slices_IndexFunc_impl_Ext_impl_Ext_with_impl_loses_1.l0v_eq, if_neg (nlt_end pre)]
  | cons x suf ih =>
    intro pre hl
    have hn : pre.length < (pre ++ x :: suf).length := by simp
    rw [slices_IndexFunc_impl_Ext_impl_Ext_with_impl_loses_1.l0v_eq, if_pos (lt_mid pre suf x), if_pos (by omega), if_pos (lt_mid pre suf x), rdExt_mid, implLose1_v b _ _ h]
    simp only [Option.bind_some, List.any_cons]
    cases hx : drops b x.f0 with
    | true =>
      rw [if_pos rfl]
      exact ⟨(pre.length : Int), rfl, by simp⟩
    | false =>
      rw [if_neg (by simp), up_mid pre x hn hl]
      rw [mid_snoc pre suf x] at hl ⊢
      obtain ⟨r, h1, h2⟩ := ih (pre ++ [x]) hl
      exact ⟨r, h1, by rw [h2]; rfl⟩
theorem implLoseX_v (b : S67) (h : okB b) (l : List S114) (hl : l.length ≤ 1000000000000) : slices_ContainsFunc_impl_Ext_impl_Ext_with_impl_loses_1.fv l b.f0 b.f1 b.f2 b.f3 = some (l.any (fun x => drops b x.f0)) := by
  obtain ⟨r, h1, h2⟩ := implLose_l0 b h l [] (by simpa using hl)
  rw [slices_ContainsFunc_impl_Ext_impl_Ext_with_impl_loses_1.fv_eq, slices_IndexFunc_impl_Ext_impl_Ext_with_impl_loses_1.fv_eq]
  simp only [List.nil_append, List.length_nil, Int.natCast_zero] at h1
  rw [h1]
  simp only [Option.bind_some, h2]
theorem implLose_v (b : S67) (v : List Int) (l : List S114) (h : okB b) (hv : v.length ≤ 1000000000000) (hl : l.length ≤ 1000000000000) (ha : areV v = true) : impl_loses.fv b.f0 b.f1 b.f2 b.f3 v l = some (lose b v l) := by
  rw [impl_loses.fv_eq, implLoseX_v b h l hl, slMax_v v hv ha]
  simp only [Option.bind_some, lose]
  by_cases h0 : b.f0 = 0
  · simp [h0]
  · by_cases h1 : v.getLastD 0 > b.f0
    · rw [if_neg h0, if_pos h1]
      simp only [h0, h1, decide_true, decide_false, Bool.not_false, Bool.and_self, Bool.true_or]
    · rw [if_neg h0, if_neg h1]
      simp only [h1, decide_false, Bool.and_false, Bool.false_or]
theorem implKept_l0 (b : S67) (h : okB b) (suf : List S114) : ∀ (pre out : List S114), (pre ++ suf).length ≤ 1000000000000 → out.length ≤ pre.length → okXs suf →
    impl_keptExts_with_impl_PassBox_1.l0v out (pre ++ suf) ((pre ++ suf).length : Int) (pre.length : Int) b.f0 b.f1 b.f2 b.f3 = some (out ++ kept b suf) := by
  induction suf with
  | nil =>
    intro pre out _ _ _
    rw [impl_keptExts_with_impl_PassBox_1.l0v_eq, if_neg (nlt_end pre)]
    simp [kept]
  | cons x suf ih =>
    intro pre out hl ho hs
    have hn : pre.length < (pre ++ x :: suf).length := by simp
    have hp : pre.length < 1000000000000 := by omega
    have hx := hs x List.mem_cons_self
    have hs' : okXs suf := fun y hy => hs y (List.mem_cons_of_mem _ hy)
    rw [impl_keptExts_with_impl_PassBox_1.l0v_eq, if_pos (lt_mid pre suf x), if_pos (by omega), if_pos (lt_mid pre suf x), rdExt_mid, impl_PassBox_1.fv_eq, slHas_v _ _ h.2, up_mid pre x hn hl]
    simp only [Option.bind_some, List.nil_append, List.length_nil, Nat.zero_add]
    rw [mid_snoc pre suf x] at hl ⊢
    cases hm : mem b.f2 x.f0 with
    | true =>
      rw [if_neg (by simp), ih (pre ++ [x]) out hl (by simp; omega) hs']
      simp [kept, hm]
    | false =>
      rw [if_pos (show (!false) = true from rfl), if_pos (by omega), if_pos (by omega), ih (pre ++ [x]) _ hl (by simp; omega) hs']
      simp [kept, hm]
theorem implKept_v (b : S67) (h : okB b) (l : List S114) (hl : l.length ≤ 1000000000000) (hs : okXs l) : impl_keptExts_with_impl_PassBox_1.fv l b.f0 b.f1 b.f2 b.f3 = some (kept b l) := by
  rw [impl_keptExts_with_impl_PassBox_1.fv_eq]
  simpa using implKept_l0 b h l [] [] (by simpa using hl) (by simp) hs
theorem implPass_v (b : S67) (v : List Int) (l : List S114) (h : okB b) (hv : v.length ≤ 1000000000000) (hl : l.length ≤ 1000000000000) (hs : okXs l) : impl_PassBox.fv b.f0 b.f1 b.f2 b.f3 v l = some (pass b v l) := by
  rw [impl_PassBox.fv_eq, implIsB_v b h, implHello_v v l hv hl hs]
  simp only [Option.bind_some, impl_PassBox.j0v_eq, slClone_f v hv, implKept_v b h l hl hs, pass]
  cases isB b with
  | false => simp
  | true =>
    cases hh : isH v l with
    | false => simp
    | true =>
      have ha : areV v = true := by
        simp only [isH, Bool.and_eq_true] at hh
        exact hh.1
      rw [if_pos rfl, if_pos rfl, implLose_v b v l h hv hl ha]
      simp only [Option.bind_some]
      cases lose b v l <;> simp
end Go.Proofs.Ytdoefkloanpliaa.Plain

/- Written by a program of this session (limx.py): the equations of what the printed functions come to. No condition. -/
namespace Go.Proofs.Ytdoefkloanpliaa.Print
open Go.RowKit Go.Proofs.YtdoefkloanpliaaW.PrintWords Go.Proofs.YtdoefkloanpliaaW.PrintLast Go.Proofs.Ytdoefkloanpliaa.Base
set_option linter.unusedVariables false
set_option maxRecDepth 20000
noncomputable def impl_keptExts_with_impl_copyExts_1.l0v (x5 : List (S114)) (x9 : List (S114)) (x10 : Int) (x11 : Int) : Option ((List (S114))) := Lim fun k => impl_keptExts_with_impl_copyExts_1.l0 k x5 x9 x10 x11
noncomputable def impl_keptExts_with_impl_copyExts_1.fv (l0 : List (S114)) : Option ((List (S114))) := Lim fun k => impl_keptExts_with_impl_copyExts_1.f k l0
theorem impl_keptExts_with_impl_copyExts_1.l0_is (x5 : List (S114)) (x9 : List (S114)) (x10 : Int) (x11 : Int) : Is (fun k => impl_keptExts_with_impl_copyExts_1.l0 k x5 x9 x10 x11) (impl_keptExts_with_impl_copyExts_1.l0v x5 x9 x10 x11) := ⟨fun k => (impl_keptExts_with_impl_copyExts_1.mono_l k) x5 x9 x10 x11, rfl⟩
theorem impl_keptExts_with_impl_copyExts_1.f_is (l0 : List (S114)) : Is (fun k => impl_keptExts_with_impl_copyExts_1.f k l0) (impl_keptExts_with_impl_copyExts_1.fv l0) := ⟨fun k => impl_keptExts_with_impl_copyExts_1.mono l0 k, rfl⟩
theorem impl_keptExts_with_impl_copyExts_1.l0v_eq (x5 : List (S114)) (x9 : List (S114)) (x10 : Int) (x11 : Int) : impl_keptExts_with_impl_copyExts_1.l0v x5 x9 x10 x11 = if x11 < x10 then (if 0 ≤ x11 then (if x11 < (x9.length : Int) then ((impl_copyExts_1.f ((rd_T114 x9 x11).f0)).bind fun t421 => (if t421 = true then ((some (([] : List Int) : List Int)).bind fun y422 => (if y422.length + ((rd_T114 x9 x11).f1).length < 17592186044416 then (if x5.length < 4398046511104 then (impl_keptExts_with_impl_copyExts_1.l0v (x5 ++ [(⟨(rd_T114 x9 x11).f0, (y422 ++ ((rd_T114 x9 x11).f1))⟩ : S114)]) x9 x10 (wrap64 (x11 + 1))) else (none)) else (none))) else (impl_keptExts_with_impl_copyExts_1.l0v x5 x9 x10 (wrap64 (x11 + 1))))) else (none)) else (none)) else (some x5) := by
  refine Is.step (impl_keptExts_with_impl_copyExts_1.l0_is x5 x9 x10 x11).mo (fun k => by rw [impl_keptExts_with_impl_copyExts_1.l0]) ?_
  · skip
    repeat' first
    | with_reducible exact impl_keptExts_with_impl_copyExts_1.l0_is _ _ _ _
    | with_reducible exact Is.now _
    | with_reducible refine Is.ite ?_ ?_
    | with_reducible refine Is.bind ?_ (fun _ => ?_)
theorem impl_keptExts_with_impl_copyExts_1.fv_eq (l0 : List (S114)) : impl_keptExts_with_impl_copyExts_1.fv l0 = impl_keptExts_with_impl_copyExts_1.l0v (([] : List (S114))) l0 (l0.length : Int) 0 := by
  refine Is.lim (g := fun k => impl_keptExts_with_impl_copyExts_1.f k l0) ?_
  · unfold impl_keptExts_with_impl_copyExts_1.f
    repeat' first
    | with_reducible exact impl_keptExts_with_impl_copyExts_1.l0_is _ _ _ _
    | with_reducible exact Is.now _
    | with_reducible refine Is.ite ?_ ?_
    | with_reducible refine Is.bind ?_ (fun _ => ?_)
noncomputable def impl_copyExts.fv (l0 : List (S114)) : Option ((List (S114))) := Lim fun k => impl_copyExts.f k l0
theorem impl_copyExts.f_is (l0 : List (S114)) : Is (fun k => impl_copyExts.f k l0) (impl_copyExts.fv l0) := ⟨fun k => impl_copyExts.mono l0 k, rfl⟩
theorem impl_copyExts.fv_eq (l0 : List (S114)) : impl_copyExts.fv l0 = (impl_keptExts_with_impl_copyExts_1.fv l0).bind fun t431 => (some t431) := by
  refine Is.lim (g := fun k => impl_copyExts.f k l0) ?_
  · unfold impl_copyExts.f
    repeat' first
    | with_reducible exact impl_keptExts_with_impl_copyExts_1.f_is _
    | with_reducible exact Is.now _
    | with_reducible refine Is.ite ?_ ?_
    | with_reducible refine Is.bind ?_ (fun _ => ?_)
noncomputable def impl_copyHello.fv (l0_0 : List Int) (l0_1 : List (S114)) : Option (List Int × (List (S114))) := Lim fun k => impl_copyHello.f k l0_0 l0_1
theorem impl_copyHello.f_is (l0_0 : List Int) (l0_1 : List (S114)) : Is (fun k => impl_copyHello.f k l0_0 l0_1) (impl_copyHello.fv l0_0 l0_1) := ⟨fun k => impl_copyHello.mono l0_0 l0_1 k, rfl⟩
theorem impl_copyHello.fv_eq (l0_0 : List Int) (l0_1 : List (S114)) : impl_copyHello.fv l0_0 l0_1 = (some (([] : List Int) : List Int)).bind fun y436 => (if y436.length + l0_0.length < 17592186044416 then ((impl_copyExts.fv l0_1).bind fun t442 => (some ((y436 ++ l0_0), t442))) else (none)) := by
  refine Is.lim (g := fun k => impl_copyHello.f k l0_0 l0_1) ?_
  · unfold impl_copyHello.f
    repeat' first
    | with_reducible exact impl_copyExts.f_is _
    | with_reducible exact Is.now _
    | with_reducible refine Is.ite ?_ ?_
    | with_reducible refine Is.bind ?_ (fun _ => ?_)
end Go.Proofs.Ytdoefkloanpliaa.Print

/- Written by a program of this session (limx.py): the equations of what the printed functions come to. No condition. -/
namespace Go.Proofs.Ytdoefkloanpliaa.Print
open Go.RowKit Go.Proofs.YtdoefkloanpliaaW.PrintWords Go.Proofs.YtdoefkloanpliaaW.PrintLast Go.Proofs.Ytdoefkloanpliaa.Base
set_option linter.unusedVariables false
set_option maxRecDepth 20000
noncomputable def impl_PassPath.j0v (x0 : List (S67)) (x16 : Bool) (x446000 : List Int) (x446001 : List (S114)) : Option (List Int × (List (S114)) × Bool) := Lim fun k => impl_PassPath.j0 k x0 x16 x446000 x446001
noncomputable def impl_PassPath.l0v (x0 : List (S67)) (x7 : Bool) (x8 : Int) (x455000 : List Int) (x455001 : List (S114)) : Option (List Int × (List (S114)) × Bool) := Lim fun k => impl_PassPath.l0 k x0 x7 x8 x455000 x455001
noncomputable def impl_PassPath.fv (l0 : List (S67)) (l1_0 : List Int) (l1_1 : List (S114)) : Option (List Int × (List (S114)) × Bool) := Lim fun k => impl_PassPath.f k l0 l1_0 l1_1
theorem impl_PassPath.j0_is (x0 : List (S67)) (x16 : Bool) (x446000 : List Int) (x446001 : List (S114)) : Is (fun k => impl_PassPath.j0 k x0 x16 x446000 x446001) (impl_PassPath.j0v x0 x16 x446000 x446001) := ⟨fun k => (impl_PassPath.mono_l k).1 x0 x16 x446000 x446001, rfl⟩
theorem impl_PassPath.l0_is (x0 : List (S67)) (x7 : Bool) (x8 : Int) (x455000 : List Int) (x455001 : List (S114)) : Is (fun k => impl_PassPath.l0 k x0 x7 x8 x455000 x455001) (impl_PassPath.l0v x0 x7 x8 x455000 x455001) := ⟨fun k => (impl_PassPath.mono_l k).2 x0 x7 x8 x455000 x455001, rfl⟩
theorem impl_PassPath.f_is (l0 : List (S67)) (l1_0 : List Int) (l1_1 : List (S114)) : Is (fun k => impl_PassPath.f k l0 l1_0 l1_1) (impl_PassPath.fv l0 l1_0 l1_1) := ⟨fun k => impl_PassPath.mono l0 l1_0 l1_1 k, rfl⟩
theorem impl_PassPath.j0v_eq (x0 : List (S67)) (x16 : Bool) (x446000 : List Int) (x446001 : List (S114)) : impl_PassPath.j0v x0 x16 x446000 x446001 = if x16 = true then (some (([] : List Int), ([] : List (S114)), false)) else ((impl_copyHello.fv x446000 x446001).bind fun bt448 => (impl_PassPath.l0v x0 true 0 bt448.1 bt448.2)) := by
  refine Is.step (impl_PassPath.j0_is x0 x16 x446000 x446001).mo (fun k => by rw [impl_PassPath.j0]) ?_
  · skip
    repeat' first
    | with_reducible exact impl_PassPath.l0_is _ _ _ _ _
    | with_reducible exact impl_copyHello.f_is _ _
    | with_reducible exact Is.now _
    | with_reducible refine Is.ite ?_ ?_
    | with_reducible refine Is.bind ?_ (fun _ => ?_)
theorem impl_PassPath.l0v_eq (x0 : List (S67)) (x7 : Bool) (x8 : Int) (x455000 : List Int) (x455001 : List (S114)) : impl_PassPath.l0v x0 x7 x8 x455000 x455001 = if x8 < (x0.length : Int) then (if x7 = true then (if 0 ≤ x8 then ((impl_PassBox.fv ((rd_T67 x0 x8).f0) ((rd_T67 x0 x8).f1) ((rd_T67 x0 x8).f2) ((rd_T67 x0 x8).f3) x455000 x455001).bind fun bt456 => (impl_PassPath.l0v x0 bt456.2.2 (wrap64 (x8 + 1)) bt456.1 bt456.2.1)) else (none)) else (some (x455000, x455001, x7))) else (some (x455000, x455001, x7)) := by
  refine Is.step (impl_PassPath.l0_is x0 x7 x8 x455000 x455001).mo (fun k => by rw [impl_PassPath.l0]) ?_
  · skip
    repeat' first
    | with_reducible exact impl_PassBox.f_is _ _ _ _ _ _
    | with_reducible exact impl_PassPath.l0_is _ _ _ _ _
    | with_reducible exact Is.now _
    | with_reducible refine Is.ite ?_ ?_
    | with_reducible refine Is.bind ?_ (fun _ => ?_)
theorem impl_PassPath.fv_eq (l0 : List (S67)) (l1_0 : List Int) (l1_1 : List (S114)) : impl_PassPath.fv l0 l1_0 l1_1 = (impl_IsHello.fv l1_0 l1_1).bind fun t447 => (if t447 = true then (impl_PassPath.j0v l0 (decide ((l0.length : Int) > 4)) l1_0 l1_1) else (impl_PassPath.j0v l0 true l1_0 l1_1)) := by
  refine Is.lim (g := fun k => impl_PassPath.f k l0 l1_0 l1_1) ?_
  · unfold impl_PassPath.f
    repeat' first
    | with_reducible exact impl_IsHello.f_is _ _
    | with_reducible exact impl_PassPath.j0_is _ _ _ _
    | with_reducible exact Is.now _
    | with_reducible refine Is.ite ?_ ?_
    | with_reducible refine Is.bind ?_ (fun _ => ?_)
noncomputable def impl_IsOpenPath.fv (l0 : List (S67)) (l1 : List Int) : Option (Bool) := Lim fun k => impl_IsOpenPath.f k l0 l1
theorem impl_IsOpenPath.f_is (l0 : List (S67)) (l1 : List Int) : Is (fun k => impl_IsOpenPath.f k l0 l1) (impl_IsOpenPath.fv l0 l1) := ⟨fun k => impl_IsOpenPath.mono l0 l1 k, rfl⟩
theorem impl_IsOpenPath.fv_eq (l0 : List (S67)) (l1 : List Int) : impl_IsOpenPath.fv l0 l1 = (impl_AreVersions.fv l1).bind fun t470 => (if t470 = true then (if 1 ≤ (l1.length : Int) then ((impl_PlainHello.f (l1.take 1)).bind fun bt472 => ((impl_PassPath.fv l0 bt472.1 bt472.2).bind fun bt478 => (some bt478.2.2))) else (none)) else (some false)) := by
  refine Is.lim (g := fun k => impl_IsOpenPath.f k l0 l1) ?_
  · unfold impl_IsOpenPath.f
    repeat' first
    | with_reducible exact impl_AreVersions.f_is _
    | with_reducible exact impl_PassPath.f_is _ _ _
    | with_reducible exact Is.now _
    | with_reducible refine Is.ite ?_ ?_
    | with_reducible refine Is.bind ?_ (fun _ => ?_)
noncomputable def slices_Equal_int_int.l0v (x0 : List Int) (x1 : List Int) (x12 : Int) (x13 : Int) : Option (Bool) := Lim fun k => slices_Equal_int_int.l0 k x0 x1 x12 x13
noncomputable def slices_Equal_int_int.fv (l0 : List Int) (l1 : List Int) : Option (Bool) := Lim fun k => slices_Equal_int_int.f k l0 l1
theorem slices_Equal_int_int.l0_is (x0 : List Int) (x1 : List Int) (x12 : Int) (x13 : Int) : Is (fun k => slices_Equal_int_int.l0 k x0 x1 x12 x13) (slices_Equal_int_int.l0v x0 x1 x12 x13) := ⟨fun k => (slices_Equal_int_int.mono_l k) x0 x1 x12 x13, rfl⟩
theorem slices_Equal_int_int.f_is (l0 : List Int) (l1 : List Int) : Is (fun k => slices_Equal_int_int.f k l0 l1) (slices_Equal_int_int.fv l0 l1) := ⟨fun k => slices_Equal_int_int.mono l0 l1 k, rfl⟩
theorem slices_Equal_int_int.l0v_eq (x0 : List Int) (x1 : List Int) (x12 : Int) (x13 : Int) : slices_Equal_int_int.l0v x0 x1 x12 x13 = if x13 < x12 then (if 0 ≤ x13 then (if x13 < (x0.length : Int) then (if x13 < (x1.length : Int) then (if (rd x0 x13) = (rd x1 x13) then (slices_Equal_int_int.l0v x0 x1 x12 (wrap64 (x13 + 1))) else (some false)) else (none)) else (none)) else (none)) else (some true) := by
  refine Is.step (slices_Equal_int_int.l0_is x0 x1 x12 x13).mo (fun k => by rw [slices_Equal_int_int.l0]) ?_
  · skip
    repeat' first
    | with_reducible exact slices_Equal_int_int.l0_is _ _ _ _
    | with_reducible exact Is.now _
    | with_reducible refine Is.ite ?_ ?_
    | with_reducible refine Is.bind ?_ (fun _ => ?_)
theorem slices_Equal_int_int.fv_eq (l0 : List Int) (l1 : List Int) : slices_Equal_int_int.fv l0 l1 = if (l0.length : Int) = (l1.length : Int) then (slices_Equal_int_int.l0v l0 l1 (l0.length : Int) 0) else (some false) := by
  refine Is.lim (g := fun k => slices_Equal_int_int.f k l0 l1) ?_
  · unfold slices_Equal_int_int.f
    repeat' first
    | with_reducible exact slices_Equal_int_int.l0_is _ _ _ _
    | with_reducible exact Is.now _
    | with_reducible refine Is.ite ?_ ?_
    | with_reducible refine Is.bind ?_ (fun _ => ?_)
noncomputable def impl_equalExt.fv (a0_0 : Int) (l0_1 : List Int) (a1_0 : Int) (l1_1 : List Int) : Option (Bool) := Lim fun k => impl_equalExt.f k a0_0 l0_1 a1_0 l1_1
theorem impl_equalExt.f_is (a0_0 : Int) (l0_1 : List Int) (a1_0 : Int) (l1_1 : List Int) : Is (fun k => impl_equalExt.f k a0_0 l0_1 a1_0 l1_1) (impl_equalExt.fv a0_0 l0_1 a1_0 l1_1) := ⟨fun k => impl_equalExt.mono a0_0 l0_1 a1_0 l1_1 k, rfl⟩
theorem impl_equalExt.fv_eq (a0_0 : Int) (l0_1 : List Int) (a1_0 : Int) (l1_1 : List Int) : impl_equalExt.fv a0_0 l0_1 a1_0 l1_1 = if a0_0 = a1_0 then ((slices_Equal_int_int.fv l0_1 l1_1).bind fun t490 => (some t490)) else (some false) := by
  refine Is.lim (g := fun k => impl_equalExt.f k a0_0 l0_1 a1_0 l1_1) ?_
  · unfold impl_equalExt.f
    repeat' first
    | with_reducible exact slices_Equal_int_int.f_is _ _
    | with_reducible exact Is.now _
    | with_reducible refine Is.ite ?_ ?_
    | with_reducible refine Is.bind ?_ (fun _ => ?_)
end Go.Proofs.Ytdoefkloanpliaa.Print

/- slices.Equal on whole numbers. Condition: at most 10 to the 12 numbers. -/
set_option linter.unusedSimpArgs false
set_option linter.unusedVariables false
namespace Go.Proofs.Ytdoefkloanpliaa.Plain
open Go.RowKit Go.Proofs.YtdoefkloanpliaaW.PrintWords Go.Proofs.Ytdoefkloanpliaa.Base Go.Proofs.Ytdoefkloanpliaa.Print

theorem slicesEqual_l0 (sa : List Int) : ∀ (pre sb : List Int), sb.length = sa.length → (pre ++ sa).length ≤ 1000000000000 → slices_Equal_int_int.l0v (pre ++ sa) (pre ++ sb) ((pre ++ sa).length : Int) (pre.length : Int) = some (decide (sa = sb)) := by
  induction sa with
  | nil =>
    intro pre sb hr _
    rw [slices_Equal_int_int.l0v_eq, if_neg (nlt_end pre)]
    simp at hr
    simp [hr]
  | cons x sa ih =>
    intro pre sb hr hl
    cases sb with
    | nil => simp at hr
    | cons y sb =>
      have hn : pre.length < (pre ++ x :: sa).length := by simp
      rw [slices_Equal_int_int.l0v_eq, if_pos (lt_mid pre sa x), if_pos (by omega), if_pos (lt_mid pre sa x), if_pos (lt_mid pre sb y), rd_mid, rd_mid, up_mid pre x hn hl]
      by_cases hxy : x = y
      · subst hxy
        rw [if_pos rfl]
        rw [mid_snoc pre sa x] at hl ⊢
        rw [mid_snoc pre sb x]
        rw [ih (pre ++ [x]) sb (by simpa using hr) hl]
        simp
      · rw [if_neg hxy]
        simp [hxy]
theorem slicesEqual_v (a b : List Int) (hl : a.length ≤ 1000000000000) : slices_Equal_int_int.fv a b = some (decide (a = b)) := by
  rw [slices_Equal_int_int.fv_eq]
  by_cases h : a.length = b.length
  · rw [if_pos (by omega)]
    have h1 := slicesEqual_l0 a [] b h.symm (by simpa using hl)
    simpa using h1
  · rw [if_neg (by omega)]
    have : a ≠ b := fun e => h (by rw [e])
    simp [this]
end Go.Proofs.Ytdoefkloanpliaa.Plain

/- Written by a program of this session (limx.py): the equations of what the printed functions come to. No condition. -/
namespace Go.Proofs.Ytdoefkloanpliaa.Print
open Go.RowKit Go.Proofs.YtdoefkloanpliaaW.PrintWords Go.Proofs.YtdoefkloanpliaaW.PrintLast Go.Proofs.Ytdoefkloanpliaa.Base
set_option linter.unusedVariables false
set_option maxRecDepth 20000
noncomputable def slices_EqualFunc_impl_Ext_impl_Ext_impl_Ext_impl_Ext_with_impl_equalExt.l0v (x1 : List (S114)) (x15 : List (S114)) (x16 : Int) (x17 : Int) : Option (Bool) := Lim fun k => slices_EqualFunc_impl_Ext_impl_Ext_impl_Ext_impl_Ext_with_impl_equalExt.l0 k x1 x15 x16 x17
noncomputable def slices_EqualFunc_impl_Ext_impl_Ext_impl_Ext_impl_Ext_with_impl_equalExt.fv (l0 : List (S114)) (l1 : List (S114)) : Option (Bool) := Lim fun k => slices_EqualFunc_impl_Ext_impl_Ext_impl_Ext_impl_Ext_with_impl_equalExt.f k l0 l1
theorem slices_EqualFunc_impl_Ext_impl_Ext_impl_Ext_impl_Ext_with_impl_equalExt.l0_is (x1 : List (S114)) (x15 : List (S114)) (x16 : Int) (x17 : Int) : Is (fun k => slices_EqualFunc_impl_Ext_impl_Ext_impl_Ext_impl_Ext_with_impl_equalExt.l0 k x1 x15 x16 x17) (slices_EqualFunc_impl_Ext_impl_Ext_impl_Ext_impl_Ext_with_impl_equalExt.l0v x1 x15 x16 x17) := ⟨fun k => (slices_EqualFunc_impl_Ext_impl_Ext_impl_Ext_impl_Ext_with_impl_equalExt.mono_l k) x1 x15 x16 x17, rfl⟩
theorem slices_EqualFunc_impl_Ext_impl_Ext_impl_Ext_impl_Ext_with_impl_equalExt.f_is (l0 : List (S114)) (l1 : List (S114)) : Is (fun k => slices_EqualFunc_impl_Ext_impl_Ext_impl_Ext_impl_Ext_with_impl_equalExt.f k l0 l1) (slices_EqualFunc_impl_Ext_impl_Ext_impl_Ext_impl_Ext_with_impl_equalExt.fv l0 l1) := ⟨fun k => slices_EqualFunc_impl_Ext_impl_Ext_impl_Ext_impl_Ext_with_impl_equalExt.mono l0 l1 k, rfl⟩
theorem slices_EqualFunc_impl_Ext_impl_Ext_impl_Ext_impl_Ext_with_impl_equalExt.l0v_eq (x1 : List (S114)) (x15 : List (S114)) (x16 : Int) (x17 : Int) : slices_EqualFunc_impl_Ext_impl_Ext_impl_Ext_impl_Ext_with_impl_equalExt.l0v x1 x15 x16 x17 = if x17 < x16 then (if 0 ≤ x17 then (if x17 < (x15.length : Int) then (if x17 < (x1.length : Int) then ((impl_equalExt.fv ((rd_T114 x15 x17).f0) ((rd_T114 x15 x17).f1) ((rd_T114 x1 x17).f0) ((rd_T114 x1 x17).f1)).bind fun t495 => (if t495 = true then (slices_EqualFunc_impl_Ext_impl_Ext_impl_Ext_impl_Ext_with_impl_equalExt.l0v x1 x15 x16 (wrap64 (x17 + 1))) else (some false))) else (none)) else (none)) else (none)) else (some true) := by
  refine Is.step (slices_EqualFunc_impl_Ext_impl_Ext_impl_Ext_impl_Ext_with_impl_equalExt.l0_is x1 x15 x16 x17).mo (fun k => by rw [slices_EqualFunc_impl_Ext_impl_Ext_impl_Ext_impl_Ext_with_impl_equalExt.l0]) ?_
  · skip
    repeat' first
    | with_reducible exact impl_equalExt.f_is _ _ _ _
    | with_reducible exact slices_EqualFunc_impl_Ext_impl_Ext_impl_Ext_impl_Ext_with_impl_equalExt.l0_is _ _ _ _
    | with_reducible exact Is.now _
    | with_reducible refine Is.ite ?_ ?_
    | with_reducible refine Is.bind ?_ (fun _ => ?_)
theorem slices_EqualFunc_impl_Ext_impl_Ext_impl_Ext_impl_Ext_with_impl_equalExt.fv_eq (l0 : List (S114)) (l1 : List (S114)) : slices_EqualFunc_impl_Ext_impl_Ext_impl_Ext_impl_Ext_with_impl_equalExt.fv l0 l1 = if (l0.length : Int) = (l1.length : Int) then (slices_EqualFunc_impl_Ext_impl_Ext_impl_Ext_impl_Ext_with_impl_equalExt.l0v l1 l0 (l0.length : Int) 0) else (some false) := by
  refine Is.lim (g := fun k => slices_EqualFunc_impl_Ext_impl_Ext_impl_Ext_impl_Ext_with_impl_equalExt.f k l0 l1) ?_
  · unfold slices_EqualFunc_impl_Ext_impl_Ext_impl_Ext_impl_Ext_with_impl_equalExt.f
    repeat' first
    | with_reducible exact slices_EqualFunc_impl_Ext_impl_Ext_impl_Ext_impl_Ext_with_impl_equalExt.l0_is _ _ _ _
    | with_reducible exact Is.now _
    | with_reducible refine Is.ite ?_ ?_
    | with_reducible refine Is.bind ?_ (fun _ => ?_)
noncomputable def impl_EqualExts.fv (l0 : List (S114)) (l1 : List (S114)) : Option (Bool) := Lim fun k => impl_EqualExts.f k l0 l1
theorem impl_EqualExts.f_is (l0 : List (S114)) (l1 : List (S114)) : Is (fun k => impl_EqualExts.f k l0 l1) (impl_EqualExts.fv l0 l1) := ⟨fun k => impl_EqualExts.mono l0 l1 k, rfl⟩
theorem impl_EqualExts.fv_eq (l0 : List (S114)) (l1 : List (S114)) : impl_EqualExts.fv l0 l1 = (slices_EqualFunc_impl_Ext_impl_Ext_impl_Ext_impl_Ext_with_impl_equalExt.fv l0 l1).bind fun t496 => (some t496) := by
  refine Is.lim (g := fun k => impl_EqualExts.f k l0 l1) ?_
  · unfold impl_EqualExts.f
    repeat' first
    | with_reducible exact slices_EqualFunc_impl_Ext_impl_Ext_impl_Ext_impl_Ext_with_impl_equalExt.f_is _ _
    | with_reducible exact Is.now _
    | with_reducible refine Is.ite ?_ ?_
    | with_reducible refine Is.bind ?_ (fun _ => ?_)
noncomputable def impl_EqualHellos.fv (l0_0 : List Int) (l0_1 : List (S114)) (l1_0 : List Int) (l1_1 : List (S114)) : Option (Bool) := Lim fun k => impl_EqualHellos.f k l0_0 l0_1 l1_0 l1_1
theorem impl_EqualHellos.f_is (l0_0 : List Int) (l0_1 : List (S114)) (l1_0 : List Int) (l1_1 : List (S114)) : Is (fun k => impl_EqualHellos.f k l0_0 l0_1 l1_0 l1_1) (impl_EqualHellos.fv l0_0 l0_1 l1_0 l1_1) := ⟨fun k => impl_EqualHellos.mono l0_0 l0_1 l1_0 l1_1 k, rfl⟩
theorem impl_EqualHellos.fv_eq (l0_0 : List Int) (l0_1 : List (S114)) (l1_0 : List Int) (l1_1 : List (S114)) : impl_EqualHellos.fv l0_0 l0_1 l1_0 l1_1 = (slices_Equal_int_int.fv l0_0 l1_0).bind fun t499 => (if t499 = true then ((impl_EqualExts.fv l0_1 l1_1).bind fun t500 => (some t500)) else (some false)) := by
  refine Is.lim (g := fun k => impl_EqualHellos.f k l0_0 l0_1 l1_0 l1_1) ?_
  · unfold impl_EqualHellos.f
    repeat' first
    | with_reducible exact impl_EqualExts.f_is _ _
    | with_reducible exact slices_Equal_int_int.f_is _ _
    | with_reducible exact Is.now _
    | with_reducible refine Is.ite ?_ ?_
    | with_reducible refine Is.bind ?_ (fun _ => ?_)
noncomputable def impl_PassesWhole.fv (l0_0 : List Int) (l0_1 : List (S114)) (l1 : List (S67)) : Option (Bool) := Lim fun k => impl_PassesWhole.f k l0_0 l0_1 l1
theorem impl_PassesWhole.f_is (l0_0 : List Int) (l0_1 : List (S114)) (l1 : List (S67)) : Is (fun k => impl_PassesWhole.f k l0_0 l0_1 l1) (impl_PassesWhole.fv l0_0 l0_1 l1) := ⟨fun k => impl_PassesWhole.mono l0_0 l0_1 l1 k, rfl⟩
theorem impl_PassesWhole.fv_eq (l0_0 : List Int) (l0_1 : List (S114)) (l1 : List (S67)) : impl_PassesWhole.fv l0_0 l0_1 l1 = (impl_PassPath.fv l1 l0_0 l0_1).bind fun bt502 => (if bt502.2.2 = true then ((impl_EqualHellos.fv bt502.1 bt502.2.1 l0_0 l0_1).bind fun t510 => (some t510)) else (some false)) := by
  refine Is.lim (g := fun k => impl_PassesWhole.f k l0_0 l0_1 l1) ?_
  · unfold impl_PassesWhole.f
    repeat' first
    | with_reducible exact impl_EqualHellos.f_is _ _ _ _
    | with_reducible exact impl_PassPath.f_is _ _ _
    | with_reducible exact Is.now _
    | with_reducible refine Is.ite ?_ ?_
    | with_reducible refine Is.bind ?_ (fun _ => ?_)
noncomputable def impl_LostTags.j0v (x0 : List (S67)) (x1 : List Int) (x2 : List (S114)) (x7 : List Int) (x19 : Bool) : Option (List Int) := Lim fun k => impl_LostTags.j0 k x0 x1 x2 x7 x19
noncomputable def impl_LostTags.l0v (x0 : List (S67)) (x1 : List Int) (x7 : List Int) (x21 : List (S114)) (x22 : Int) (x23 : Int) : Option (List Int) := Lim fun k => impl_LostTags.l0 k x0 x1 x7 x21 x22 x23
noncomputable def impl_LostTags.fv (l0 : List (S67)) (l1 : List Int) (l2 : List (S114)) : Option (List Int) := Lim fun k => impl_LostTags.f k l0 l1 l2
theorem impl_LostTags.j0_is (x0 : List (S67)) (x1 : List Int) (x2 : List (S114)) (x7 : List Int) (x19 : Bool) : Is (fun k => impl_LostTags.j0 k x0 x1 x2 x7 x19) (impl_LostTags.j0v x0 x1 x2 x7 x19) := ⟨fun k => (impl_LostTags.mono_l k).1 x0 x1 x2 x7 x19, rfl⟩
theorem impl_LostTags.l0_is (x0 : List (S67)) (x1 : List Int) (x7 : List Int) (x21 : List (S114)) (x22 : Int) (x23 : Int) : Is (fun k => impl_LostTags.l0 k x0 x1 x7 x21 x22 x23) (impl_LostTags.l0v x0 x1 x7 x21 x22 x23) := ⟨fun k => (impl_LostTags.mono_l k).2 x0 x1 x7 x21 x22 x23, rfl⟩
theorem impl_LostTags.f_is (l0 : List (S67)) (l1 : List Int) (l2 : List (S114)) : Is (fun k => impl_LostTags.f k l0 l1 l2) (impl_LostTags.fv l0 l1 l2) := ⟨fun k => impl_LostTags.mono l0 l1 l2 k, rfl⟩
theorem impl_LostTags.j0v_eq (x0 : List (S67)) (x1 : List Int) (x2 : List (S114)) (x7 : List Int) (x19 : Bool) : impl_LostTags.j0v x0 x1 x2 x7 x19 = if x19 = true then (some x7) else (impl_LostTags.l0v x0 x1 x7 x2 (x2.length : Int) 0) := by
  refine Is.step (impl_LostTags.j0_is x0 x1 x2 x7 x19).mo (fun k => by rw [impl_LostTags.j0]) ?_
  · skip
    repeat' first
    | with_reducible exact impl_LostTags.l0_is _ _ _ _ _ _
    | with_reducible exact Is.now _
    | with_reducible refine Is.ite ?_ ?_
    | with_reducible refine Is.bind ?_ (fun _ => ?_)
theorem impl_LostTags.l0v_eq (x0 : List (S67)) (x1 : List Int) (x7 : List Int) (x21 : List (S114)) (x22 : Int) (x23 : Int) : impl_LostTags.l0v x0 x1 x7 x21 x22 x23 = if x23 < x22 then (if 0 ≤ x23 then (if x23 < (x21.length : Int) then (if 1 ≤ (x1.length : Int) then ((impl_PassesWhole.fv (x1.take 1) (([(⟨(rd_T114 x21 x23).f0, (rd_T114 x21 x23).f1⟩ : S114)] : List (S114))) x0).bind fun t522 => (if t522 = true then (impl_LostTags.l0v x0 x1 x7 x21 x22 (wrap64 (x23 + 1))) else (if x7.length < 17592186044416 then (impl_LostTags.l0v x0 x1 (x7 ++ [(rd_T114 x21 x23).f0]) x21 x22 (wrap64 (x23 + 1))) else (none)))) else (none)) else (none)) else (none)) else (some x7) := by
  refine Is.step (impl_LostTags.l0_is x0 x1 x7 x21 x22 x23).mo (fun k => by rw [impl_LostTags.l0]) ?_
  · skip
    repeat' first
    | with_reducible exact impl_LostTags.l0_is _ _ _ _ _ _
    | with_reducible exact impl_PassesWhole.f_is _ _ _
    | with_reducible exact Is.now _
    | with_reducible refine Is.ite ?_ ?_
    | with_reducible refine Is.bind ?_ (fun _ => ?_)
theorem impl_LostTags.fv_eq (l0 : List (S67)) (l1 : List Int) (l2 : List (S114)) : impl_LostTags.fv l0 l1 l2 = (some (([] : List Int) : List Int)).bind fun y511 => ((impl_IsOpenPath.fv l0 l1).bind fun t514 => (if t514 = true then ((impl_AreExts.fv l2).bind fun t515 => (impl_LostTags.j0v l0 l1 l2 y511 (!t515))) else (impl_LostTags.j0v l0 l1 l2 y511 true))) := by
  refine Is.lim (g := fun k => impl_LostTags.f k l0 l1 l2) ?_
  · unfold impl_LostTags.f
    repeat' first
    | with_reducible exact impl_AreExts.f_is _
    | with_reducible exact impl_IsOpenPath.f_is _ _
    | with_reducible exact impl_LostTags.j0_is _ _ _ _ _
    | with_reducible exact Is.now _
    | with_reducible refine Is.ite ?_ ?_
    | with_reducible refine Is.bind ?_ (fun _ => ?_)
noncomputable def impl_isLost.fv (l0 : List (S67)) (l1 : List Int) (a2 : Int) : Option (Bool) := Lim fun k => impl_isLost.f k l0 l1 a2
theorem impl_isLost.f_is (l0 : List (S67)) (l1 : List Int) (a2 : Int) : Is (fun k => impl_isLost.f k l0 l1 a2) (impl_isLost.fv l0 l1 a2) := ⟨fun k => impl_isLost.mono l0 l1 a2 k, rfl⟩
theorem impl_isLost.fv_eq (l0 : List (S67)) (l1 : List Int) (a2 : Int) : impl_isLost.fv l0 l1 a2 = (impl_LostTags.fv l0 l1 (([(⟨a2, ([] : List Int)⟩ : S114)] : List (S114)))).bind fun t529 => (some (decide ((t529.length : Int) > 0))) := by
  refine Is.lim (g := fun k => impl_isLost.f k l0 l1 a2) ?_
  · unfold impl_isLost.f
    repeat' first
    | with_reducible exact impl_LostTags.f_is _ _ _
    | with_reducible exact Is.now _
    | with_reducible refine Is.ite ?_ ?_
    | with_reducible refine Is.bind ?_ (fun _ => ?_)
end Go.Proofs.Ytdoefkloanpliaa.Print

/- PassPath, IsOpenPath, PassesWhole and LostTags, of the program. Condition: at most 10 to the 12 of each. -/
set_option linter.unusedSimpArgs false
set_option linter.unusedVariables false
namespace Go.Proofs.Ytdoefkloanpliaa.Plain
open Go.RowKit Go.Proofs.YtdoefkloanpliaaW.PrintWords Go.Proofs.Ytdoefkloanpliaa.Base Go.Proofs.Ytdoefkloanpliaa.Print

theorem implCopy_l0 (suf : List S114) : ∀ (pre out : List S114), (pre ++ suf).length ≤ 1000000000000 → out.length ≤ pre.length → okXs suf →
    impl_keptExts_with_impl_copyExts_1.l0v out (pre ++ suf) ((pre ++ suf).length : Int) (pre.length : Int) = some (out ++ suf) := by
  induction suf with
  | nil =>
    intro pre out _ _ _
    rw [impl_keptExts_with_impl_copyExts_1.l0v_eq, if_neg (nlt_end pre)]
    simp
  | cons x suf ih =>
    intro pre out hl ho hs
    have hn : pre.length < (pre ++ x :: suf).length := by simp
    have hp : pre.length < 1000000000000 := by omega
    have hx := hs x List.mem_cons_self
    have hs' : okXs suf := fun y hy => hs y (List.mem_cons_of_mem _ hy)
    rw [impl_keptExts_with_impl_copyExts_1.l0v_eq, if_pos (lt_mid pre suf x), if_pos (by omega), if_pos (lt_mid pre suf x), rdExt_mid, up_mid pre x hn hl]
    unfold impl_copyExts_1.f
    simp only [Option.bind_some, List.nil_append, List.length_nil, Nat.zero_add, if_true]
    rw [mid_snoc pre suf x] at hl ⊢
    rw [if_pos (by omega), if_pos (by omega), ih (pre ++ [x]) _ hl (by simp; omega) hs']
    simp
theorem implCopyH_v (v : List Int) (l : List S114) (hv : v.length ≤ 1000000000000) (hl : l.length ≤ 1000000000000) (hs : okXs l) : impl_copyHello.fv v l = some (v, l) := by
  have h := implCopy_l0 l [] [] (by simpa using hl) (by simp) hs
  simp only [List.nil_append, List.length_nil, Int.natCast_zero] at h
  rw [impl_copyHello.fv_eq, impl_copyExts.fv_eq, impl_keptExts_with_impl_copyExts_1.fv_eq]
  simp only [Option.bind_some, List.nil_append, List.length_nil, Nat.zero_add, h, show v.length < 17592186044416 by omega, if_true]
theorem implGoP_l0 (suf : List S67) : ∀ (pre : List S67) (o : Bool) (v : List Int) (l : List S114), (pre ++ suf).length ≤ 1000000000000 → (∀ x ∈ suf, okB x) → v.length ≤ 1000000000000 → l.length ≤ 1000000000000 → okXs l →
    impl_PassPath.l0v (pre ++ suf) o (pre.length : Int) v l = some (goP suf o v l) := by
  induction suf with
  | nil =>
    intro pre o v l _ _ _ _ _
    rw [impl_PassPath.l0v_eq, if_neg (nlt_end pre)]
    rfl
  | cons b suf ih =>
    intro pre o v l hp hs hv hl hx
    have hn : pre.length < (pre ++ b :: suf).length := by simp
    rw [impl_PassPath.l0v_eq, if_pos (lt_mid pre suf b)]
    cases o with
    | false =>
      rw [if_neg (by simp)]
      rfl
    | true =>
      obtain ⟨a1, a2, a3⟩ := pass_ok b v l hx
      rw [if_pos rfl, if_pos (by omega), rdBox_mid, implPass_v b v l (hs b List.mem_cons_self) hv hl hx, up_mid pre b hn hp]
      simp only [Option.bind_some]
      rw [mid_snoc pre suf b] at hp ⊢
      rw [ih (pre ++ [b]) _ _ _ hp (fun y hy => hs y (List.mem_cons_of_mem _ hy)) (by omega) (by omega) a3]
      rfl
theorem implPassP_v (p : List S67) (v : List Int) (l : List S114) (hp : p.length ≤ 1000000000000) (hs : ∀ x ∈ p, okB x) (hv : v.length ≤ 1000000000000) (hl : l.length ≤ 1000000000000) (hx : okXs l) : impl_PassPath.fv p v l = some (passP p v l) := by
  have h := implGoP_l0 p [] true v l (by simpa using hp) hs hv hl hx
  simp only [List.nil_append, List.length_nil, Int.natCast_zero] at h
  rw [impl_PassPath.fv_eq, implHello_v v l hv hl hx]
  simp only [Option.bind_some, impl_PassPath.j0v_eq, implCopyH_v v l hv hl hx, h, passP]
  cases isH v l with
  | false => simp
  | true =>
    by_cases h4 : p.length ≤ 4
    · rw [if_pos rfl, if_neg (by simp; omega)]
      simp [h4]
    · rw [if_pos rfl, if_pos (by simp; omega)]
      simp [h4]
theorem implOpen_v (p : List S67) (v : List Int) (hp : p.length ≤ 1000000000000) (hs : ∀ x ∈ p, okB x) (hv : v.length ≤ 1000000000000) : impl_IsOpenPath.fv p v = some (openP p v) := by
  have ht : (v.take 1).length ≤ 1000000000000 := by
    rw [List.length_take]
    omega
  rw [impl_IsOpenPath.fv_eq, implVers_v v hv]
  unfold impl_PlainHello.f
  simp only [Option.bind_some, List.nil_append, List.length_nil, Nat.zero_add, openP]
  cases ha : areV v with
  | false => simp
  | true =>
    have h1 : 0 < v.length := by
      simp only [areV, Bool.and_eq_true, decide_eq_true_eq] at ha
      exact ha.2
    rw [if_pos rfl, if_pos (by omega), if_pos (by omega)]
    simp only [Option.bind_some]
    rw [implPassP_v p _ [] hp hs ht (by simp) (fun x hx => by cases hx)]
    simp
theorem implEqX_v (a b : S114) (h : a.f1.length ≤ 1000000000000) : impl_equalExt.fv a.f0 a.f1 b.f0 b.f1 = some (eqX a b) := by
  rw [impl_equalExt.fv_eq, slicesEqual_v _ _ h]
  simp only [Option.bind_some, eqX]
  by_cases h1 : a.f0 = b.f0 <;> simp [h1]
theorem implEqXs_l0 (sa : List S114) : ∀ (pre q sb : List S114), q.length = pre.length → sb.length = sa.length → (pre ++ sa).length ≤ 1000000000000 → okXs sa →
    slices_EqualFunc_impl_Ext_impl_Ext_impl_Ext_impl_Ext_with_impl_equalExt.l0v (q ++ sb) (pre ++ sa) ((pre ++ sa).length : Int) (pre.length : Int) = some (eqXs sa sb) := by
  induction sa with
  | nil =>
    intro pre q sb _ hr _ _
    rw [slices_EqualFunc_impl_Ext_impl_Ext_impl_Ext_impl_Ext_with_impl_equalExt.l0v_eq, if_neg (nlt_end pre)]
    simp at hr
    simp [hr, eqXs]
  | cons x sa ih =>
    intro pre q sb hq hr hl hs
    cases sb with
    | nil => simp at hr
    | cons y sb =>
      have hn : pre.length < (pre ++ x :: sa).length := by simp
      rw [slices_EqualFunc_impl_Ext_impl_Ext_impl_Ext_impl_Ext_with_impl_equalExt.l0v_eq, if_pos (lt_mid pre sa x), if_pos (by omega), if_pos (lt_mid pre sa x), rdExt_mid, up_mid pre x hn hl, ← hq, if_pos (lt_mid q sb y), rdExt_mid, implEqX_v x y (hs x List.mem_cons_self)]
      simp only [Option.bind_some, eqXs]
      cases eqX x y with
      | false => simp
      | true =>
        rw [if_pos rfl, mid_snoc q sb y]
        rw [mid_snoc pre sa x] at hl ⊢
        rw [ih (pre ++ [x]) (q ++ [y]) sb (by simp [hq]) (by simpa using hr) hl (fun y hy => hs y (List.mem_cons_of_mem _ hy))]
        rfl
theorem implEqXs_v (l m : List S114) (hl : l.length ≤ 1000000000000) (hs : okXs l) : impl_EqualExts.fv l m = some (eqXs l m) := by
  rw [impl_EqualExts.fv_eq, slices_EqualFunc_impl_Ext_impl_Ext_impl_Ext_impl_Ext_with_impl_equalExt.fv_eq]
  by_cases h : l.length = m.length
  · have h1 := implEqXs_l0 l [] [] m rfl h.symm (by simpa using hl) hs
    simp only [List.nil_append, List.length_nil, Int.natCast_zero] at h1
    rw [if_pos (by omega), h1]
    rfl
  · rw [if_neg (by omega), eqXs_len h]
    rfl
theorem implWhole_v (v : List Int) (l : List S114) (p : List S67) (hp : p.length ≤ 1000000000000) (hs : ∀ x ∈ p, okB x) (hv : v.length ≤ 1000000000000) (hl : l.length ≤ 1000000000000) (hx : okXs l) : impl_PassesWhole.fv v l p = some (whole v l p) := by
  obtain ⟨a1, a2, a3⟩ := passP_ok p v l hx
  rw [impl_PassesWhole.fv_eq, implPassP_v p v l hp hs hv hl hx]
  simp only [Option.bind_some, whole]
  rw [impl_EqualHellos.fv_eq, slicesEqual_v _ v (by omega), implEqXs_v _ l (by omega) a3]
  simp only [Option.bind_some]
  generalize eqXs (passP p v l).2.1 l = x
  generalize (passP p v l).2.2 = y
  by_cases h1 : (passP p v l).1 = v <;> cases x <;> cases y <;> simp [h1]
theorem implLost_l0 (p : List S67) (v : List Int) (hp : p.length ≤ 1000000000000) (hs : ∀ x ∈ p, okB x) (hv : v.length ≤ 1000000000000) (h1 : 0 < v.length) (suf : List S114) : ∀ (pre : List S114) (out : List Int), (pre ++ suf).length ≤ 1000000000000 → out.length ≤ pre.length → okXs suf →
    impl_LostTags.l0v p v out (pre ++ suf) ((pre ++ suf).length : Int) (pre.length : Int) = some (out ++ (suf.filter (fun x => !whole (v.take 1) [x] p)).map (·.f0)) := by
  induction suf with
  | nil =>
    intro pre out _ _ _
    rw [impl_LostTags.l0v_eq, if_neg (nlt_end pre)]
    simp
  | cons x suf ih =>
    intro pre out hl ho hx
    have hn : pre.length < (pre ++ x :: suf).length := by simp
    have hq : pre.length < 1000000000000 := by omega
    have hx' : okXs suf := fun y hy => hx y (List.mem_cons_of_mem _ hy)
    have ho1 : okXs [x] := fun y hy => by
      rw [List.mem_singleton.1 hy]
      exact hx x List.mem_cons_self
    have ht : (v.take 1).length ≤ 1000000000000 := by
      rw [List.length_take]
      omega
    rw [impl_LostTags.l0v_eq, if_pos (lt_mid pre suf x), if_pos (by omega), if_pos (lt_mid pre suf x), if_pos (by omega), rdExt_mid, show (⟨x.f0, x.f1⟩ : S114) = x from rfl, implWhole_v _ _ p hp hs ht (by simp) ho1, up_mid pre x hn hl]
    simp only [Option.bind_some]
    rw [mid_snoc pre suf x] at hl ⊢
    cases hw : whole (v.take 1) [x] p with
    | true =>
      rw [if_pos rfl, ih (pre ++ [x]) out hl (by simp; omega) hx']
      simp [hw]
    | false =>
      rw [if_neg (by simp), if_pos (by omega), ih (pre ++ [x]) _ hl (by simp; omega) hx']
      simp [hw]
theorem implLost_v (p : List S67) (v : List Int) (l : List S114) (hp : p.length ≤ 1000000000000) (hs : ∀ x ∈ p, okB x) (hv : v.length ≤ 1000000000000) (hl : l.length ≤ 1000000000000) (hx : okXs l) : impl_LostTags.fv p v l = some (lostT p v l) := by
  rw [impl_LostTags.fv_eq, implOpen_v p v hp hs hv, implExts_v l hl hx]
  simp only [Option.bind_some, impl_LostTags.j0v_eq, lostT]
  cases ho : openP p v with
  | false => simp
  | true =>
    have h1 : 0 < v.length := by
      simp only [openP, areV, Bool.and_eq_true, decide_eq_true_eq] at ho
      exact ho.1.2
    have h := implLost_l0 p v hp hs hv h1 l [] [] (by simpa using hl) (by simp) hx
    simp only [List.nil_append, List.length_nil, Int.natCast_zero] at h
    cases isX l with
    | false => simp
    | true => simp [h]
end Go.Proofs.Ytdoefkloanpliaa.Plain

/- reservedTags and RefusesGrease, of the program. Condition: at most 10 to the 12 of each. -/
set_option linter.unusedSimpArgs false
set_option linter.unusedVariables false
namespace Go.Proofs.Ytdoefkloanpliaa.Plain
open Go.RowKit Go.Proofs.YtdoefkloanpliaaW.PrintWords Go.Proofs.Ytdoefkloanpliaa.Base Go.Proofs.Ytdoefkloanpliaa.Print

theorem resTags_l0 (m : Nat) : ∀ (n : Nat) (out : List Int), n + m = 16 → out.length = n → impl_reservedTags.l0v out (10 + 16 * (n : Int)) = some (out ++ greases n m) := by
  induction m with
  | zero =>
    intro n out hn _
    rw [impl_reservedTags.l0v_eq, if_neg (by omega)]
    simp [greases]
  | succ m ih =>
    intro n out hn ho
    rw [impl_reservedTags.l0v_eq, if_pos (by omega), if_pos (by omega), w64 (by omega) (by omega), show 10 + 16 * (n : Int) + 16 = 10 + 16 * ((n + 1 : Nat) : Int) by omega, ih (n + 1) _ (by omega) (by simp [ho])]
    simp [greases]
theorem resTags_v : impl_reservedTags.fv = some (greases 0 16) := by
  rw [impl_reservedTags.fv_eq]
  simpa using resTags_l0 16 0 [] rfl rfl
theorem implRefuse1_v (b : S67) (t : Int) (h : okB b) : impl_RefusesGrease_1.fv t b.f0 b.f1 b.f2 b.f3 = some (refuse b t) := by
  have hx : okXs [one t] := fun x hx => by
    rw [List.mem_singleton.1 hx]
    simp [one]
  rw [impl_RefusesGrease_1.fv_eq, show (⟨t, []⟩ : S114) = one t from rfl, implPass_v b [1] [one t] h (by simp) (by simp) hx]
  simp only [Option.bind_some, refuse]
  generalize pass b [1] [one t] = r
  obtain ⟨p, q, o⟩ := r
  have e : (((q.length : Nat) : Int) == 0) = decide (q.length = 0) := by
    by_cases hq : q.length = 0
    · simp [hq]
    · have : ¬ (q.length : Int) = 0 := by omega
      simp only [hq, decide_false, beq_eq_false_iff_ne, ne_eq]
      exact this
  cases o <;> simp [e]
theorem implRefuse_l0 (b : S67) (h : okB b) (suf : List Int) : ∀ (pre : List Int), (pre ++ suf).length ≤ 1000000000000 →
    ∃ r, slices_IndexFunc_int_int_with_impl_RefusesGrease_1.l0v (pre ++ suf) ((pre ++ suf).length : Int) (pre.length : Int) b.f0 b.f1 b.f2 b.f3 = some r ∧ decide (r ≥ 0) = suf.any (refuse b) := by
  induction suf with
  | nil =>
    intro pre _
    refine ⟨-1, ?_, by simp⟩
    rw [slices_IndexFunc_int_int_with_impl_RefusesGrease_1.l0v_eq, if_neg (nlt_end pre)]
  | cons x suf ih =>
    intro pre hl
    have hn : pre.length < (pre ++ x :: suf).length := by simp
    rw [slices_IndexFunc_int_int_with_impl_RefusesGrease_1.l0v_eq, if_pos (lt_mid pre suf x), if_pos (by omega), if_pos (lt_mid pre suf x), rd_mid, implRefuse1_v b _ h]
    simp only [Option.bind_some, List.any_cons]
    cases hx : refuse b x with
    | true =>
      rw [if_pos rfl]
      exact ⟨(pre.length : Int), rfl, by simp⟩
    | false =>
      rw [if_neg (by simp), up_mid pre x hn hl]
      rw [mid_snoc pre suf x] at hl ⊢
      obtain ⟨r, h1, h2⟩ := ih (pre ++ [x]) hl
      exact ⟨r, h1, by rw [h2]; rfl⟩
theorem implRefuses_v (b : S67) (h : okB b) : impl_RefusesGrease.fv b.f0 b.f1 b.f2 b.f3 = some (refuses b) := by
  obtain ⟨r, h1, h2⟩ := implRefuse_l0 b h (greases 0 16) [] (by decide)
  simp only [List.nil_append, List.length_nil, Int.natCast_zero] at h1
  rw [impl_RefusesGrease.fv_eq, implIsB_v b h, resTags_v]
  simp only [Option.bind_some, slices_ContainsFunc_int_int_with_impl_RefusesGrease_1.fv_eq, slices_IndexFunc_int_int_with_impl_RefusesGrease_1.fv_eq, h1, h2, refuses]
  cases isB b <;> simp
end Go.Proofs.Ytdoefkloanpliaa.Plain

/- Written by a program of this session (limx.py): the equations of what the printed functions come to. No condition. -/
namespace Go.Proofs.Ytdoefkloanpliaa.Print
open Go.RowKit Go.Proofs.YtdoefkloanpliaaW.PrintWords Go.Proofs.YtdoefkloanpliaaW.PrintLast Go.Proofs.Ytdoefkloanpliaa.Base
set_option linter.unusedVariables false
set_option maxRecDepth 20000
noncomputable def spec_l1New.l0v (x0 : List Int) (x3 : Int) (x4 : Int) : Option (List Int × Int × Int) := Lim fun k => spec_l1New.l0 k x0 x3 x4
noncomputable def spec_l1New.fv (l0 : List Int) : Option (List Int × Int × Int) := Lim fun k => spec_l1New.f k l0
theorem spec_l1New.l0_is (x0 : List Int) (x3 : Int) (x4 : Int) : Is (fun k => spec_l1New.l0 k x0 x3 x4) (spec_l1New.l0v x0 x3 x4) := ⟨fun k => (spec_l1New.mono_l k) x0 x3 x4, rfl⟩
theorem spec_l1New.f_is (l0 : List Int) : Is (fun k => spec_l1New.f k l0) (spec_l1New.fv l0) := ⟨fun k => spec_l1New.mono l0 k, rfl⟩
theorem spec_l1New.l0v_eq (x0 : List Int) (x3 : Int) (x4 : Int) : spec_l1New.l0v x0 x3 x4 = if x4 < (x0.length : Int) then (if x4 < 4000 then (if 0 ≤ x4 then (spec_l1New.l0v x0 (Go.bits .and .i64 (wrap64 ((wrap64 ((wrap64 (x3 * 137)) + (wrap64 (rd x0 x4)))) + 11)) 1073741823) (wrap64 (x4 + 1))) else (none)) else (some (x0, 0, x3))) else (some (x0, 0, x3)) := by
  refine Is.step (spec_l1New.l0_is x0 x3 x4).mo (fun k => by rw [spec_l1New.l0]) ?_
  · skip
    repeat' first
    | with_reducible exact spec_l1New.l0_is _ _ _
    | with_reducible exact Is.now _
    | with_reducible refine Is.ite ?_ ?_
    | with_reducible refine Is.bind ?_ (fun _ => ?_)
theorem spec_l1New.fv_eq (l0 : List Int) : spec_l1New.fv l0 = spec_l1New.l0v l0 (wrap64 (193017 + (l0.length : Int))) 0 := by
  refine Is.lim (g := fun k => spec_l1New.f k l0) ?_
  · unfold spec_l1New.f
    repeat' first
    | with_reducible exact spec_l1New.l0_is _ _ _
    | with_reducible exact Is.now _
    | with_reducible refine Is.ite ?_ ?_
    | with_reducible refine Is.bind ?_ (fun _ => ?_)
end Go.Proofs.Ytdoefkloanpliaa.Print

/- Written by a program of this session (limx.py): the equations of what the printed functions come to. No condition. -/
namespace Go.Proofs.Ytdoefkloanpliaa.Print
open Go.RowKit Go.Proofs.YtdoefkloanpliaaW.PrintWords Go.Proofs.YtdoefkloanpliaaW.PrintLast Go.Proofs.Ytdoefkloanpliaa.Base
set_option linter.unusedVariables false
set_option maxRecDepth 20000
noncomputable def spec_l4Put.l0v (x0 : List Int) (x1 : Int) (x5 : Int) : Option (List Int) := Lim fun k => spec_l4Put.l0 k x0 x1 x5
noncomputable def spec_l4Put.fv (l0 : List Int) (a1 : Int) : Option (List Int) := Lim fun k => spec_l4Put.f k l0 a1
theorem spec_l4Put.l0_is (x0 : List Int) (x1 : Int) (x5 : Int) : Is (fun k => spec_l4Put.l0 k x0 x1 x5) (spec_l4Put.l0v x0 x1 x5) := ⟨fun k => (spec_l4Put.mono_l k) x0 x1 x5, rfl⟩
theorem spec_l4Put.f_is (l0 : List Int) (a1 : Int) : Is (fun k => spec_l4Put.f k l0 a1) (spec_l4Put.fv l0 a1) := ⟨fun k => spec_l4Put.mono l0 a1 k, rfl⟩
theorem spec_l4Put.l0v_eq (x0 : List Int) (x1 : Int) (x5 : Int) : spec_l4Put.l0v x0 x1 x5 = if x5 < (x0.length : Int) then (if 0 ≤ x5 then (if (rd x0 x5) < x1 then (spec_l4Put.l0v x0 x1 (wrap64 (x5 + 1))) else (if (rd x0 x5) = x1 then ((some (([] : List Int) : List Int)).bind fun y242 => (if y242.length + x0.length < 17592186044416 then (some (y242 ++ x0)) else (none))) else ((some (([] : List Int) : List Int)).bind fun y248 => (if x5 ≤ (x0.length : Int) then (if y248.length + (x0.take (x5 : Int).toNat).length < 17592186044416 then ((some (y248 ++ (x0.take (x5 : Int).toNat) : List Int)).bind fun y252 => ((some (([x1] : List Int) : List Int)).bind fun y255 => (if y252.length + y255.length < 17592186044416 then ((some (y252 ++ y255 : List Int)).bind fun y258 => (if y258.length + (x0.drop (x5 : Int).toNat).length < 17592186044416 then (some (y258 ++ (x0.drop (x5 : Int).toNat))) else (none))) else (none)))) else (none)) else (none))))) else (none)) else ((some (([] : List Int) : List Int)).bind fun y265 => (if 0 ≤ x5 then (if x5 ≤ (x0.length : Int) then (if y265.length + (x0.take (x5 : Int).toNat).length < 17592186044416 then ((some (y265 ++ (x0.take (x5 : Int).toNat) : List Int)).bind fun y269 => ((some (([x1] : List Int) : List Int)).bind fun y272 => (if y269.length + y272.length < 17592186044416 then ((some (y269 ++ y272 : List Int)).bind fun y275 => (if y275.length + (x0.drop (x5 : Int).toNat).length < 17592186044416 then (some (y275 ++ (x0.drop (x5 : Int).toNat))) else (none))) else (none)))) else (none)) else (none)) else (none))) := by
  refine Is.step (spec_l4Put.l0_is x0 x1 x5).mo (fun k => by rw [spec_l4Put.l0]) ?_
  · skip
    repeat' first
    | with_reducible exact spec_l4Put.l0_is _ _ _
    | with_reducible exact Is.now _
    | with_reducible refine Is.ite ?_ ?_
    | with_reducible refine Is.bind ?_ (fun _ => ?_)
theorem spec_l4Put.fv_eq (l0 : List Int) (a1 : Int) : spec_l4Put.fv l0 a1 = spec_l4Put.l0v l0 a1 0 := by
  refine Is.lim (g := fun k => spec_l4Put.f k l0 a1) ?_
  · unfold spec_l4Put.f
    repeat' first
    | with_reducible exact spec_l4Put.l0_is _ _ _
    | with_reducible exact Is.now _
    | with_reducible refine Is.ite ?_ ?_
    | with_reducible refine Is.bind ?_ (fun _ => ?_)
end Go.Proofs.Ytdoefkloanpliaa.Print

/- Written by a program of this session (limx.py): the equations of what the printed functions come to. No condition. -/
namespace Go.Proofs.Ytdoefkloanpliaa.Print
open Go.RowKit Go.Proofs.YtdoefkloanpliaaW.PrintWords Go.Proofs.YtdoefkloanpliaaW.PrintLast Go.Proofs.Ytdoefkloanpliaa.Base
set_option linter.unusedVariables false
set_option maxRecDepth 20000
noncomputable def spec_l17Tags.l0v (x3 : List Int) (x4 : Int) (x1000 : List Int) (x1001 : Int) (x1002 : Int) : Option (List Int × Int × Int) := Lim fun k => spec_l17Tags.l0 k x3 x4 x1000 x1001 x1002
noncomputable def spec_l17Tags.fv (s0_0 : List Int) (s0_1 : Int) (s0_2 : Int) : Option (List Int × Int × Int) := Lim fun k => spec_l17Tags.f k s0_0 s0_1 s0_2
theorem spec_l17Tags.l0_is (x3 : List Int) (x4 : Int) (x1000 : List Int) (x1001 : Int) (x1002 : Int) : Is (fun k => spec_l17Tags.l0 k x3 x4 x1000 x1001 x1002) (spec_l17Tags.l0v x3 x4 x1000 x1001 x1002) := ⟨fun k => (spec_l17Tags.mono_l k) x3 x4 x1000 x1001 x1002, rfl⟩
theorem spec_l17Tags.f_is (s0_0 : List Int) (s0_1 : Int) (s0_2 : Int) : Is (fun k => spec_l17Tags.f k s0_0 s0_1 s0_2) (spec_l17Tags.fv s0_0 s0_1 s0_2) := ⟨fun k => spec_l17Tags.mono s0_0 s0_1 s0_2 k, rfl⟩
theorem spec_l17Tags.l0v_eq (x3 : List Int) (x4 : Int) (x1000 : List Int) (x1001 : Int) (x1002 : Int) : spec_l17Tags.l0v x3 x4 x1000 x1001 x1002 = if x4 > 0 then ((spec_l1Int.f x1000 x1001 x1002 (([1, 2, 3, 10, 40, 200] : List Int))).bind fun bt291 => ((spec_l4Put.fv x3 bt291.1).bind fun t294 => (spec_l17Tags.l0v t294 (wrap64 (x4 - 1)) x1000 bt291.2.1 bt291.2.2))) else (some (x3, x1001, x1002)) := by
  refine Is.step (spec_l17Tags.l0_is x3 x4 x1000 x1001 x1002).mo (fun k => by rw [spec_l17Tags.l0]) ?_
  · skip
    repeat' first
    | with_reducible exact spec_l17Tags.l0_is _ _ _ _ _
    | with_reducible exact spec_l4Put.f_is _ _
    | with_reducible exact Is.now _
    | with_reducible refine Is.ite ?_ ?_
    | with_reducible refine Is.bind ?_ (fun _ => ?_)
theorem spec_l17Tags.fv_eq (s0_0 : List Int) (s0_1 : Int) (s0_2 : Int) : spec_l17Tags.fv s0_0 s0_1 s0_2 = (spec_l1Below.f s0_0 s0_1 s0_2 5).bind fun bt285 => (spec_l17Tags.l0v (([] : List Int)) bt285.1 s0_0 bt285.2.1 bt285.2.2) := by
  refine Is.lim (g := fun k => spec_l17Tags.f k s0_0 s0_1 s0_2) ?_
  · unfold spec_l17Tags.f
    repeat' first
    | with_reducible exact spec_l17Tags.l0_is _ _ _ _ _
    | with_reducible exact Is.now _
    | with_reducible refine Is.ite ?_ ?_
    | with_reducible refine Is.bind ?_ (fun _ => ?_)
noncomputable def spec_l19Draw.fv (s0_0 : List Int) (s0_1 : Int) (s0_2 : Int) : Option (Int × List Int × List Int × Bool × Int × Int) := Lim fun k => spec_l19Draw.f k s0_0 s0_1 s0_2
theorem spec_l19Draw.f_is (s0_0 : List Int) (s0_1 : Int) (s0_2 : Int) : Is (fun k => spec_l19Draw.f k s0_0 s0_1 s0_2) (spec_l19Draw.fv s0_0 s0_1 s0_2) := ⟨fun k => spec_l19Draw.mono s0_0 s0_1 s0_2 k, rfl⟩
theorem spec_l19Draw.fv_eq (s0_0 : List Int) (s0_1 : Int) (s0_2 : Int) : spec_l19Draw.fv s0_0 s0_1 s0_2 = (spec_l1Below.f s0_0 s0_1 s0_2 7).bind fun bt299 => (if bt299.1 = 0 then ((spec_l1Below.f s0_0 bt299.2.1 bt299.2.2 6).bind fun bt302 => (some (wrap64 (1 + bt302.1), ([] : List Int), ([] : List Int), false, bt302.2.1, bt302.2.2))) else (if bt299.1 = 1 then ((spec_l17Tags.fv s0_0 bt299.2.1 bt299.2.2).bind fun bt305 => (some (0, bt305.1, ([] : List Int), false, bt305.2.1, bt305.2.2))) else (if bt299.1 = 2 then ((spec_l17Tags.fv s0_0 bt299.2.1 bt299.2.2).bind fun bt310 => (some (0, ([] : List Int), bt310.1, false, bt310.2.1, bt310.2.2))) else (if bt299.1 = 3 then (some (0, ([] : List Int), ([] : List Int), true, bt299.2.1, bt299.2.2)) else (some (0, ([] : List Int), ([] : List Int), false, bt299.2.1, bt299.2.2)))))) := by
  refine Is.lim (g := fun k => spec_l19Draw.f k s0_0 s0_1 s0_2) ?_
  · unfold spec_l19Draw.f
    repeat' first
    | with_reducible exact spec_l17Tags.f_is _ _ _
    | with_reducible exact Is.now _
    | with_reducible refine Is.ite ?_ ?_
    | with_reducible refine Is.bind ?_ (fun _ => ?_)
noncomputable def spec_l19Path.l0v (x3 : List (S67)) (x4 : Int) (x1000 : List Int) (x1001 : Int) (x1002 : Int) : Option ((List (S67)) × Int × Int) := Lim fun k => spec_l19Path.l0 k x3 x4 x1000 x1001 x1002
noncomputable def spec_l19Path.fv (s0_0 : List Int) (s0_1 : Int) (s0_2 : Int) : Option ((List (S67)) × Int × Int) := Lim fun k => spec_l19Path.f k s0_0 s0_1 s0_2
theorem spec_l19Path.l0_is (x3 : List (S67)) (x4 : Int) (x1000 : List Int) (x1001 : Int) (x1002 : Int) : Is (fun k => spec_l19Path.l0 k x3 x4 x1000 x1001 x1002) (spec_l19Path.l0v x3 x4 x1000 x1001 x1002) := ⟨fun k => (spec_l19Path.mono_l k) x3 x4 x1000 x1001 x1002, rfl⟩
theorem spec_l19Path.f_is (s0_0 : List Int) (s0_1 : Int) (s0_2 : Int) : Is (fun k => spec_l19Path.f k s0_0 s0_1 s0_2) (spec_l19Path.fv s0_0 s0_1 s0_2) := ⟨fun k => spec_l19Path.mono s0_0 s0_1 s0_2 k, rfl⟩
theorem spec_l19Path.l0v_eq (x3 : List (S67)) (x4 : Int) (x1000 : List Int) (x1001 : Int) (x1002 : Int) : spec_l19Path.l0v x3 x4 x1000 x1001 x1002 = if x4 > 0 then ((spec_l19Draw.fv x1000 x1001 x1002).bind fun bt321 => (if x3.length < 2199023255552 then (spec_l19Path.l0v (x3 ++ [(⟨bt321.1, bt321.2.1, bt321.2.2.1, bt321.2.2.2.1⟩ : S67)]) (wrap64 (x4 - 1)) x1000 bt321.2.2.2.2.1 bt321.2.2.2.2.2) else (none))) else (some (x3, x1001, x1002)) := by
  refine Is.step (spec_l19Path.l0_is x3 x4 x1000 x1001 x1002).mo (fun k => by rw [spec_l19Path.l0]) ?_
  · skip
    repeat' first
    | with_reducible exact spec_l19Draw.f_is _ _ _
    | with_reducible exact spec_l19Path.l0_is _ _ _ _ _
    | with_reducible exact Is.now _
    | with_reducible refine Is.ite ?_ ?_
    | with_reducible refine Is.bind ?_ (fun _ => ?_)
theorem spec_l19Path.fv_eq (s0_0 : List Int) (s0_1 : Int) (s0_2 : Int) : spec_l19Path.fv s0_0 s0_1 s0_2 = (spec_l1Below.f s0_0 s0_1 s0_2 4).bind fun bt318 => (spec_l19Path.l0v (([] : List (S67))) bt318.1 s0_0 bt318.2.1 bt318.2.2) := by
  refine Is.lim (g := fun k => spec_l19Path.f k s0_0 s0_1 s0_2) ?_
  · unfold spec_l19Path.f
    repeat' first
    | with_reducible exact spec_l19Path.l0_is _ _ _ _ _
    | with_reducible exact Is.now _
    | with_reducible refine Is.ite ?_ ?_
    | with_reducible refine Is.bind ?_ (fun _ => ?_)
noncomputable def spec_l29Path.fv (s0_0 : List Int) (s0_1 : Int) (s0_2 : Int) : Option ((List (S67)) × Int × Int) := Lim fun k => spec_l29Path.f k s0_0 s0_1 s0_2
theorem spec_l29Path.f_is (s0_0 : List Int) (s0_1 : Int) (s0_2 : Int) : Is (fun k => spec_l29Path.f k s0_0 s0_1 s0_2) (spec_l29Path.fv s0_0 s0_1 s0_2) := ⟨fun k => spec_l29Path.mono s0_0 s0_1 s0_2 k, rfl⟩
theorem spec_l29Path.fv_eq (s0_0 : List Int) (s0_1 : Int) (s0_2 : Int) : spec_l29Path.fv s0_0 s0_1 s0_2 = (spec_l19Path.fv s0_0 s0_1 s0_2).bind fun bt337 => (if (bt337.1.length : Int) > 0 then ((spec_l1Once.f s0_0 bt337.2.1 bt337.2.2 3).bind fun bt342 => (if bt342.1 = true then ((spec_l1Int.f s0_0 bt342.2.1 bt342.2.2 (([10, 26, 250, 11] : List Int))).bind fun bt348 => (if 0 < (bt337.1.length : Int) then (some ((bt337.1.set (0 : Int).toNat (⟨(rd_T67 bt337.1 0).f0, (([bt348.1] : List Int)), (rd_T67 bt337.1 0).f2, (rd_T67 bt337.1 0).f3⟩ : S67)), bt348.2.1, bt348.2.2)) else (none))) else (some (bt337.1, bt342.2.1, bt342.2.2)))) else (some (bt337.1, bt337.2.1, bt337.2.2))) := by
  refine Is.lim (g := fun k => spec_l29Path.f k s0_0 s0_1 s0_2) ?_
  · unfold spec_l29Path.f
    repeat' first
    | with_reducible exact spec_l19Path.f_is _ _ _
    | with_reducible exact Is.now _
    | with_reducible refine Is.ite ?_ ?_
    | with_reducible refine Is.bind ?_ (fun _ => ?_)
noncomputable def spec_l12Draw.l0v (x3 : List Int) (x4 : Int) (x1000 : List Int) (x1001 : Int) (x1002 : Int) : Option (List Int × Int × Int) := Lim fun k => spec_l12Draw.l0 k x3 x4 x1000 x1001 x1002
noncomputable def spec_l12Draw.fv (s0_0 : List Int) (s0_1 : Int) (s0_2 : Int) : Option (List Int × Int × Int) := Lim fun k => spec_l12Draw.f k s0_0 s0_1 s0_2
theorem spec_l12Draw.l0_is (x3 : List Int) (x4 : Int) (x1000 : List Int) (x1001 : Int) (x1002 : Int) : Is (fun k => spec_l12Draw.l0 k x3 x4 x1000 x1001 x1002) (spec_l12Draw.l0v x3 x4 x1000 x1001 x1002) := ⟨fun k => (spec_l12Draw.mono_l k) x3 x4 x1000 x1001 x1002, rfl⟩
theorem spec_l12Draw.f_is (s0_0 : List Int) (s0_1 : Int) (s0_2 : Int) : Is (fun k => spec_l12Draw.f k s0_0 s0_1 s0_2) (spec_l12Draw.fv s0_0 s0_1 s0_2) := ⟨fun k => spec_l12Draw.mono s0_0 s0_1 s0_2 k, rfl⟩
theorem spec_l12Draw.l0v_eq (x3 : List Int) (x4 : Int) (x1000 : List Int) (x1001 : Int) (x1002 : Int) : spec_l12Draw.l0v x3 x4 x1000 x1001 x1002 = if x4 > 0 then ((spec_l1Below.f x1000 x1001 x1002 6).bind fun bt364 => ((spec_l4Put.fv x3 (wrap64 (1 + bt364.1))).bind fun t367 => (spec_l12Draw.l0v t367 (wrap64 (x4 - 1)) x1000 bt364.2.1 bt364.2.2))) else (some (x3, x1001, x1002)) := by
  refine Is.step (spec_l12Draw.l0_is x3 x4 x1000 x1001 x1002).mo (fun k => by rw [spec_l12Draw.l0]) ?_
  · skip
    repeat' first
    | with_reducible exact spec_l12Draw.l0_is _ _ _ _ _
    | with_reducible exact spec_l4Put.f_is _ _
    | with_reducible exact Is.now _
    | with_reducible refine Is.ite ?_ ?_
    | with_reducible refine Is.bind ?_ (fun _ => ?_)
theorem spec_l12Draw.fv_eq (s0_0 : List Int) (s0_1 : Int) (s0_2 : Int) : spec_l12Draw.fv s0_0 s0_1 s0_2 = (spec_l1Below.f s0_0 s0_1 s0_2 4).bind fun bt355 => ((spec_l1Below.f s0_0 bt355.2.1 bt355.2.2 4).bind fun bt361 => (spec_l12Draw.l0v (([wrap64 (1 + bt355.1)] : List Int)) bt361.1 s0_0 bt361.2.1 bt361.2.2)) := by
  refine Is.lim (g := fun k => spec_l12Draw.f k s0_0 s0_1 s0_2) ?_
  · unfold spec_l12Draw.f
    repeat' first
    | with_reducible exact spec_l12Draw.l0_is _ _ _ _ _
    | with_reducible exact Is.now _
    | with_reducible refine Is.ite ?_ ?_
    | with_reducible refine Is.bind ?_ (fun _ => ?_)
noncomputable def spec_l12Any.fv (s0_0 : List Int) (s0_1 : Int) (s0_2 : Int) : Option (List Int × Int × Int) := Lim fun k => spec_l12Any.f k s0_0 s0_1 s0_2
theorem spec_l12Any.f_is (s0_0 : List Int) (s0_1 : Int) (s0_2 : Int) : Is (fun k => spec_l12Any.f k s0_0 s0_1 s0_2) (spec_l12Any.fv s0_0 s0_1 s0_2) := ⟨fun k => spec_l12Any.mono s0_0 s0_1 s0_2 k, rfl⟩
theorem spec_l12Any.fv_eq (s0_0 : List Int) (s0_1 : Int) (s0_2 : Int) : spec_l12Any.fv s0_0 s0_1 s0_2 = (spec_l12Draw.fv s0_0 s0_1 s0_2).bind fun bt370 => ((spec_l1Below.f s0_0 bt370.2.1 bt370.2.2 9).bind fun bt375 => (if bt375.1 = 0 then ((spec_l1Int.f s0_0 bt375.2.1 bt375.2.2 (([0, (-1), 9, 10] : List Int))).bind fun bt381 => (if 0 < (bt370.1.length : Int) then (some ((bt370.1.set (0 : Int).toNat bt381.1), bt381.2.1, bt381.2.2)) else (none))) else (if bt375.1 = 1 then (if 0 < (bt370.1.length : Int) then (if bt370.1.length < 17592186044416 then (some ((bt370.1 ++ [rd bt370.1 0]), bt375.2.1, bt375.2.2)) else (none)) else (none)) else (if bt375.1 = 2 then (some ((([] : List Int)), bt375.2.1, bt375.2.2)) else (some (bt370.1, bt375.2.1, bt375.2.2)))))) := by
  refine Is.lim (g := fun k => spec_l12Any.f k s0_0 s0_1 s0_2) ?_
  · unfold spec_l12Any.f
    repeat' first
    | with_reducible exact spec_l12Draw.f_is _ _ _
    | with_reducible exact Is.now _
    | with_reducible refine Is.ite ?_ ?_
    | with_reducible refine Is.bind ?_ (fun _ => ?_)
noncomputable def spec_DrawGreaseLost.fv (l0 : List Int) : Option ((List (S67)) × List Int × Int) := Lim fun k => spec_DrawGreaseLost.f k l0
theorem spec_DrawGreaseLost.f_is (l0 : List Int) : Is (fun k => spec_DrawGreaseLost.f k l0) (spec_DrawGreaseLost.fv l0) := ⟨fun k => spec_DrawGreaseLost.mono l0 k, rfl⟩
theorem spec_DrawGreaseLost.fv_eq (l0 : List Int) : spec_DrawGreaseLost.fv l0 = (spec_l1New.fv l0).bind fun bt392 => ((spec_l29Path.fv bt392.1 bt392.2.1 bt392.2.2).bind fun bt396 => ((spec_l12Any.fv bt392.1 bt396.2.1 bt396.2.2).bind fun bt401 => ((spec_l1Below.f bt392.1 bt401.2.1 bt401.2.2 60).bind fun bt406 => (some (bt396.1, bt401.1, bt406.1))))) := by
  refine Is.lim (g := fun k => spec_DrawGreaseLost.f k l0) ?_
  · unfold spec_DrawGreaseLost.f
    repeat' first
    | with_reducible exact spec_l12Any.f_is _ _ _
    | with_reducible exact spec_l1New.f_is _
    | with_reducible exact spec_l29Path.f_is _ _ _
    | with_reducible exact Is.now _
    | with_reducible refine Is.ite ?_ ?_
    | with_reducible refine Is.bind ?_ (fun _ => ?_)
noncomputable def spec_DrawHardnessOf.fv (l0 : List Int) : Option ((List (S67)) × List Int) := Lim fun k => spec_DrawHardnessOf.f k l0
theorem spec_DrawHardnessOf.f_is (l0 : List Int) : Is (fun k => spec_DrawHardnessOf.f k l0) (spec_DrawHardnessOf.fv l0) := ⟨fun k => spec_DrawHardnessOf.mono l0 k, rfl⟩
theorem spec_DrawHardnessOf.fv_eq (l0 : List Int) : spec_DrawHardnessOf.fv l0 = (spec_DrawGreaseLost.fv l0).bind fun bt409 => (some (bt409.1, bt409.2.1)) := by
  refine Is.lim (g := fun k => spec_DrawHardnessOf.f k l0) ?_
  · unfold spec_DrawHardnessOf.f
    repeat' first
    | with_reducible exact spec_DrawGreaseLost.f_is _
    | with_reducible exact Is.now _
    | with_reducible refine Is.ite ?_ ?_
    | with_reducible refine Is.bind ?_ (fun _ => ?_)
end Go.Proofs.Ytdoefkloanpliaa.Print

/- Written by a program of this session (limx.py): the equations of what the printed functions come to. No condition. -/
namespace Go.Proofs.Ytdoefkloanpliaa.Print
open Go.RowKit Go.Proofs.YtdoefkloanpliaaW.PrintWords Go.Proofs.YtdoefkloanpliaaW.PrintLast Go.Proofs.Ytdoefkloanpliaa.Base
set_option linter.unusedVariables false
set_option maxRecDepth 20000
noncomputable def impl_HardnessOf.l0v (x0 : List (S67)) (x1 : List Int) (x5 : Int) (x8 : List Int) (x9 : Int) (x10 : Int) : Option (Int) := Lim fun k => impl_HardnessOf.l0 k x0 x1 x5 x8 x9 x10
noncomputable def impl_HardnessOf.fv (l0 : List (S67)) (l1 : List Int) : Option (Int) := Lim fun k => impl_HardnessOf.f k l0 l1
theorem impl_HardnessOf.l0_is (x0 : List (S67)) (x1 : List Int) (x5 : Int) (x8 : List Int) (x9 : Int) (x10 : Int) : Is (fun k => impl_HardnessOf.l0 k x0 x1 x5 x8 x9 x10) (impl_HardnessOf.l0v x0 x1 x5 x8 x9 x10) := ⟨fun k => (impl_HardnessOf.mono_l k) x0 x1 x5 x8 x9 x10, rfl⟩
theorem impl_HardnessOf.f_is (l0 : List (S67)) (l1 : List Int) : Is (fun k => impl_HardnessOf.f k l0 l1) (impl_HardnessOf.fv l0 l1) := ⟨fun k => impl_HardnessOf.mono l0 l1 k, rfl⟩
theorem impl_HardnessOf.l0v_eq (x0 : List (S67)) (x1 : List Int) (x5 : Int) (x8 : List Int) (x9 : Int) (x10 : Int) : impl_HardnessOf.l0v x0 x1 x5 x8 x9 x10 = if x10 < x9 then (if 0 ≤ x10 then (if x10 < (x8.length : Int) then ((impl_isLost.fv x0 x1 (rd x8 x10)).bind fun t536 => (if t536 = true then (impl_HardnessOf.l0v x0 x1 (wrap64 (x5 + 1)) x8 x9 (wrap64 (x10 + 1))) else (impl_HardnessOf.l0v x0 x1 x5 x8 x9 (wrap64 (x10 + 1))))) else (none)) else (none)) else (some x5) := by
  refine Is.step (impl_HardnessOf.l0_is x0 x1 x5 x8 x9 x10).mo (fun k => by rw [impl_HardnessOf.l0]) ?_
  · skip
    repeat' first
    | with_reducible exact impl_HardnessOf.l0_is _ _ _ _ _ _
    | with_reducible exact impl_isLost.f_is _ _ _
    | with_reducible exact Is.now _
    | with_reducible refine Is.ite ?_ ?_
    | with_reducible refine Is.bind ?_ (fun _ => ?_)
theorem impl_HardnessOf.fv_eq (l0 : List (S67)) (l1 : List Int) : impl_HardnessOf.fv l0 l1 = (impl_reservedTags.fv).bind fun t532 => (impl_HardnessOf.l0v l0 l1 0 t532 (t532.length : Int) 0) := by
  refine Is.lim (g := fun k => impl_HardnessOf.f k l0 l1) ?_
  · unfold impl_HardnessOf.f
    repeat' first
    | with_reducible exact impl_HardnessOf.l0_is _ _ _ _ _ _
    | with_reducible exact impl_reservedTags.f_is 
    | with_reducible exact Is.now _
    | with_reducible refine Is.ite ?_ ?_
    | with_reducible refine Is.bind ?_ (fun _ => ?_)
noncomputable def spec_DrawFindSeed.fv (l0 : List Int) : Option ((List (S67)) × List Int × Int) := Lim fun k => spec_DrawFindSeed.f k l0
theorem spec_DrawFindSeed.f_is (l0 : List Int) : Is (fun k => spec_DrawFindSeed.f k l0) (spec_DrawFindSeed.fv l0) := ⟨fun k => spec_DrawFindSeed.mono l0 k, rfl⟩
theorem spec_DrawFindSeed.fv_eq (l0 : List Int) : spec_DrawFindSeed.fv l0 = (spec_DrawGreaseLost.fv l0).bind fun bt538 => ((spec_l1New.fv l0).bind fun bt545 => ((spec_l1Int.f bt545.1 bt545.2.1 bt545.2.2 (([0, 5, 20, 100, 101, (-1)] : List Int))).bind fun bt552 => (some (bt538.1, bt538.2.1, bt552.1)))) := by
  refine Is.lim (g := fun k => spec_DrawFindSeed.f k l0) ?_
  · unfold spec_DrawFindSeed.f
    repeat' first
    | with_reducible exact spec_DrawGreaseLost.f_is _
    | with_reducible exact spec_l1New.f_is _
    | with_reducible exact Is.now _
    | with_reducible refine Is.ite ?_ ?_
    | with_reducible refine Is.bind ?_ (fun _ => ?_)
noncomputable def impl_Hash.l0v (x3 : Int) (x6 : List Int) (x7 : Int) (x8 : Int) : Option (Int) := Lim fun k => impl_Hash.l0 k x3 x6 x7 x8
noncomputable def impl_Hash.fv (l0 : List Int) : Option (Int) := Lim fun k => impl_Hash.f k l0
theorem impl_Hash.l0_is (x3 : Int) (x6 : List Int) (x7 : Int) (x8 : Int) : Is (fun k => impl_Hash.l0 k x3 x6 x7 x8) (impl_Hash.l0v x3 x6 x7 x8) := ⟨fun k => (impl_Hash.mono_l k) x3 x6 x7 x8, rfl⟩
theorem impl_Hash.f_is (l0 : List Int) : Is (fun k => impl_Hash.f k l0) (impl_Hash.fv l0) := ⟨fun k => impl_Hash.mono l0 k, rfl⟩
theorem impl_Hash.l0v_eq (x3 : Int) (x6 : List Int) (x7 : Int) (x8 : Int) : impl_Hash.l0v x3 x6 x7 x8 = if x8 < x7 then (if 0 ≤ x8 then (if x8 < (x6.length : Int) then ((impl_Mod.f (rd x6 x8) 2147483647).bind fun t557 => (impl_Hash.l0v (Int.tmod (wrap64 ((wrap64 ((wrap64 (x3 * 1000003)) + t557)) + 13)) 2147483647) x6 x7 (wrap64 (x8 + 1)))) else (none)) else (none)) else (some x3) := by
  refine Is.step (impl_Hash.l0_is x3 x6 x7 x8).mo (fun k => by rw [impl_Hash.l0]) ?_
  · skip
    repeat' first
    | with_reducible exact impl_Hash.l0_is _ _ _ _
    | with_reducible exact Is.now _
    | with_reducible refine Is.ite ?_ ?_
    | with_reducible refine Is.bind ?_ (fun _ => ?_)
theorem impl_Hash.fv_eq (l0 : List Int) : impl_Hash.fv l0 = impl_Hash.l0v 11 l0 (l0.length : Int) 0 := by
  refine Is.lim (g := fun k => impl_Hash.f k l0) ?_
  · unfold impl_Hash.f
    repeat' first
    | with_reducible exact impl_Hash.l0_is _ _ _ _
    | with_reducible exact Is.now _
    | with_reducible refine Is.ite ?_ ?_
    | with_reducible refine Is.bind ?_ (fun _ => ?_)
noncomputable def impl_PickOf.fv (a0 : Int) (a1 : Int) (a2 : Int) : Option (Int) := Lim fun k => impl_PickOf.f k a0 a1 a2
theorem impl_PickOf.f_is (a0 : Int) (a1 : Int) (a2 : Int) : Is (fun k => impl_PickOf.f k a0 a1 a2) (impl_PickOf.fv a0 a1 a2) := ⟨fun k => impl_PickOf.mono a0 a1 a2 k, rfl⟩
theorem impl_PickOf.fv_eq (a0 : Int) (a1 : Int) (a2 : Int) : impl_PickOf.fv a0 a1 a2 = if a2 < 1 then (some 0) else ((impl_Hash.fv (([a0, a1] : List Int))).bind fun t561 => ((impl_Mod.f t561 a2).bind fun t562 => (some t562))) := by
  refine Is.lim (g := fun k => impl_PickOf.f k a0 a1 a2) ?_
  · unfold impl_PickOf.f
    repeat' first
    | with_reducible exact impl_Hash.f_is _
    | with_reducible exact Is.now _
    | with_reducible refine Is.ite ?_ ?_
    | with_reducible refine Is.bind ?_ (fun _ => ?_)
noncomputable def impl_GreaseTag.fv (a0 : Int) : Option (Int) := Lim fun k => impl_GreaseTag.f k a0
theorem impl_GreaseTag.f_is (a0 : Int) : Is (fun k => impl_GreaseTag.f k a0) (impl_GreaseTag.fv a0) := ⟨fun k => impl_GreaseTag.mono a0 k, rfl⟩
theorem impl_GreaseTag.fv_eq (a0 : Int) : impl_GreaseTag.fv a0 = (impl_PickOf.fv a0 0 16).bind fun t563 => (some (wrap64 ((wrap64 (16 * t563)) + 10))) := by
  refine Is.lim (g := fun k => impl_GreaseTag.f k a0) ?_
  · unfold impl_GreaseTag.f
    repeat' first
    | with_reducible exact impl_PickOf.f_is _ _ _
    | with_reducible exact Is.now _
    | with_reducible refine Is.ite ?_ ?_
    | with_reducible refine Is.bind ?_ (fun _ => ?_)
noncomputable def impl_GreaseLost.fv (l0 : List (S67)) (l1 : List Int) (a2 : Int) : Option (Bool) := Lim fun k => impl_GreaseLost.f k l0 l1 a2
theorem impl_GreaseLost.f_is (l0 : List (S67)) (l1 : List Int) (a2 : Int) : Is (fun k => impl_GreaseLost.f k l0 l1 a2) (impl_GreaseLost.fv l0 l1 a2) := ⟨fun k => impl_GreaseLost.mono l0 l1 a2 k, rfl⟩
theorem impl_GreaseLost.fv_eq (l0 : List (S67)) (l1 : List Int) (a2 : Int) : impl_GreaseLost.fv l0 l1 a2 = (impl_GreaseTag.fv a2).bind fun t564 => ((impl_isLost.fv l0 l1 t564).bind fun t565 => (some t565)) := by
  refine Is.lim (g := fun k => impl_GreaseLost.f k l0 l1 a2) ?_
  · unfold impl_GreaseLost.f
    repeat' first
    | with_reducible exact impl_GreaseTag.f_is _
    | with_reducible exact impl_isLost.f_is _ _ _
    | with_reducible exact Is.now _
    | with_reducible refine Is.ite ?_ ?_
    | with_reducible refine Is.bind ?_ (fun _ => ?_)
noncomputable def impl_FindSeed.l0v (x0 : List (S67)) (x1 : List Int) (x2 : Int) (x7 : Int) : Option (Int) := Lim fun k => impl_FindSeed.l0 k x0 x1 x2 x7
noncomputable def impl_FindSeed.j1v (x0 : List (S67)) (x1 : List Int) (x2 : Int) (x7 : Int) (x14 : Bool) : Option (Int) := Lim fun k => impl_FindSeed.j1 k x0 x1 x2 x7 x14
noncomputable def impl_FindSeed.fv (l0 : List (S67)) (l1 : List Int) (a2 : Int) : Option (Int) := Lim fun k => impl_FindSeed.f k l0 l1 a2
theorem impl_FindSeed.l0_is (x0 : List (S67)) (x1 : List Int) (x2 : Int) (x7 : Int) : Is (fun k => impl_FindSeed.l0 k x0 x1 x2 x7) (impl_FindSeed.l0v x0 x1 x2 x7) := ⟨fun k => (impl_FindSeed.mono_l k).1 x0 x1 x2 x7, rfl⟩
theorem impl_FindSeed.j1_is (x0 : List (S67)) (x1 : List Int) (x2 : Int) (x7 : Int) (x14 : Bool) : Is (fun k => impl_FindSeed.j1 k x0 x1 x2 x7 x14) (impl_FindSeed.j1v x0 x1 x2 x7 x14) := ⟨fun k => (impl_FindSeed.mono_l k).2 x0 x1 x2 x7 x14, rfl⟩
theorem impl_FindSeed.f_is (l0 : List (S67)) (l1 : List Int) (a2 : Int) : Is (fun k => impl_FindSeed.f k l0 l1 a2) (impl_FindSeed.fv l0 l1 a2) := ⟨fun k => impl_FindSeed.mono l0 l1 a2 k, rfl⟩
theorem impl_FindSeed.l0v_eq (x0 : List (S67)) (x1 : List Int) (x2 : Int) (x7 : Int) : impl_FindSeed.l0v x0 x1 x2 x7 = if x7 < x2 then (impl_FindSeed.j1v x0 x1 x2 x7 (decide (x2 ≤ 100))) else (impl_FindSeed.j1v x0 x1 x2 x7 false) := by
  refine Is.step (impl_FindSeed.l0_is x0 x1 x2 x7).mo (fun k => by rw [impl_FindSeed.l0]) ?_
  · skip
    repeat' first
    | with_reducible exact impl_FindSeed.j1_is _ _ _ _ _
    | with_reducible exact Is.now _
    | with_reducible refine Is.ite ?_ ?_
    | with_reducible refine Is.bind ?_ (fun _ => ?_)
theorem impl_FindSeed.j1v_eq (x0 : List (S67)) (x1 : List Int) (x2 : Int) (x7 : Int) (x14 : Bool) : impl_FindSeed.j1v x0 x1 x2 x7 x14 = if x14 = true then ((impl_GreaseLost.fv x0 x1 x7).bind fun t566 => (if t566 = true then (some x7) else (impl_FindSeed.l0v x0 x1 x2 (wrap64 (x7 + 1))))) else (some (-1)) := by
  refine Is.step (impl_FindSeed.j1_is x0 x1 x2 x7 x14).mo (fun k => by rw [impl_FindSeed.j1]) ?_
  · skip
    repeat' first
    | with_reducible exact impl_FindSeed.l0_is _ _ _ _
    | with_reducible exact impl_GreaseLost.f_is _ _ _
    | with_reducible exact Is.now _
    | with_reducible refine Is.ite ?_ ?_
    | with_reducible refine Is.bind ?_ (fun _ => ?_)
theorem impl_FindSeed.fv_eq (l0 : List (S67)) (l1 : List Int) (a2 : Int) : impl_FindSeed.fv l0 l1 a2 = impl_FindSeed.l0v l0 l1 a2 0 := by
  refine Is.lim (g := fun k => impl_FindSeed.f k l0 l1 a2) ?_
  · unfold impl_FindSeed.f
    repeat' first
    | with_reducible exact impl_FindSeed.l0_is _ _ _ _
    | with_reducible exact Is.now _
    | with_reducible refine Is.ite ?_ ?_
    | with_reducible refine Is.bind ?_ (fun _ => ?_)
end Go.Proofs.Ytdoefkloanpliaa.Print

/- HardnessOf, GreaseLost and FindSeed, of the program. Condition: at most 10 to the 12 of each. -/
set_option linter.unusedSimpArgs false
set_option linter.unusedVariables false
namespace Go.Proofs.Ytdoefkloanpliaa.Plain
open Go.RowKit Go.Proofs.YtdoefkloanpliaaW.PrintWords Go.Proofs.Ytdoefkloanpliaa.Base Go.Proofs.Ytdoefkloanpliaa.Print

theorem okX_one (t : Int) : okXs [one t] := fun x hx => by
  rw [List.mem_singleton.1 hx]
  simp [one]
section
variable (p : List S67) (v : List Int) (hp : p.length ≤ 1000000000000) (hs : ∀ x ∈ p, okB x) (hv : v.length ≤ 1000000000000)
include hp hs hv
theorem implIsLo_v (t : Int) : impl_isLost.fv p v t = some (isLo p v t) := by
  rw [impl_isLost.fv_eq, show (⟨t, []⟩ : S114) = one t from rfl, implLost_v p v _ hp hs hv (by simp) (okX_one t)]
  simp only [Option.bind_some, isLo, show (((lostT p v [one t]).length : Int) > 0) ↔ ((lostT p v [one t]).length > 0) from by omega]
theorem implHard_c0 (suf : List Int) : ∀ (pre : List Int) (c : Int), (pre ++ suf).length ≤ 1000000000000 → 0 ≤ c → c ≤ pre.length →
    impl_HardnessOf.l0v p v c (pre ++ suf) ((pre ++ suf).length : Int) (pre.length : Int) = some (c + hard p v suf) := by
  induction suf with
  | nil =>
    intro pre c _ _ _
    rw [impl_HardnessOf.l0v_eq, if_neg (nlt_end pre)]
    simp [hard]
  | cons t suf ih =>
    intro pre c hl h0 hc
    have hn : pre.length < (pre ++ t :: suf).length := by simp
    rw [impl_HardnessOf.l0v_eq, if_pos (lt_mid pre suf t), if_pos (by omega), if_pos (lt_mid pre suf t), rd_mid, implIsLo_v p v hp hs hv t, up_mid pre t hn hl, w64 (x := c + 1) (by omega) (by omega)]
    simp only [Option.bind_some, hard]
    rw [mid_snoc pre suf t] at hl ⊢
    cases isLo p v t with
    | true =>
      rw [if_pos rfl, if_pos rfl, ih (pre ++ [t]) (c + 1) hl (by omega) (by simp; omega), Int.add_assoc]
    | false =>
      rw [if_neg (by simp), if_neg (by simp), ih (pre ++ [t]) c hl h0 (by simp; omega), Int.zero_add]
theorem implHardness_v : impl_HardnessOf.fv p v = some (hard p v (greases 0 16)) := by
  have h := implHard_c0 p v hp hs hv (greases 0 16) [] 0 (by decide) (by omega) (by simp)
  simp only [List.nil_append, List.length_nil, Int.natCast_zero, Int.zero_add] at h
  rw [impl_HardnessOf.fv_eq, resTags_v]
  exact h
end
theorem implMod_ex (a m : Int) (h1 : 1 ≤ m) (h2 : m ≤ 1000000000000) : ∃ r, impl_Mod.f a m = some r ∧ 0 ≤ r ∧ r < m := by
  unfold impl_Mod.f
  rw [inRange_f, inR_true.mpr ⟨h1, h2⟩]
  simp only [Option.bind_some, if_true]
  rw [if_neg (by omega)]
  have a1 := Int.tmod_lt_of_pos a (show 0 < m by omega)
  have a2 : -m < Int.tmod a m := by
    have := Int.tmod_lt_of_pos (-a) (show 0 < m by omega)
    rw [Int.neg_tmod] at this
    omega
  rw [w64 (by omega) (by omega)]
  exact ⟨_, rfl, Int.tmod_nonneg _ (by omega), Int.tmod_lt_of_pos _ (by omega)⟩
theorem implHash_ex (suf : List Int) : ∀ (pre : List Int) (h : Int), (pre ++ suf).length ≤ 1000000000000 → ∃ r, impl_Hash.l0v h (pre ++ suf) ((pre ++ suf).length : Int) (pre.length : Int) = some r := by
  induction suf with
  | nil =>
    intro pre h _
    rw [impl_Hash.l0v_eq, if_neg (nlt_end pre)]
    exact ⟨_, rfl⟩
  | cons x suf ih =>
    intro pre h hl
    have hn : pre.length < (pre ++ x :: suf).length := by simp
    obtain ⟨r, e, _⟩ := implMod_ex x 2147483647 (by decide) (by decide)
    rw [impl_Hash.l0v_eq, if_pos (lt_mid pre suf x), if_pos (by omega), if_pos (lt_mid pre suf x), rd_mid, e, up_mid pre x hn hl]
    simp only [Option.bind_some]
    rw [mid_snoc pre suf x] at hl ⊢
    exact ih (pre ++ [x]) _ hl
theorem implTag_ex (s : Int) : ∃ t, impl_GreaseTag.fv s = some t ∧ t ∈ greases 0 16 := by
  obtain ⟨h, e⟩ := implHash_ex [s, 0] [] 11 (by simp)
  obtain ⟨r, e2, r0, r1⟩ := implMod_ex h 16 (by decide) (by decide)
  simp only [List.nil_append, List.length_nil, Int.natCast_zero] at e
  refine ⟨16 * r + 10, ?_, (greases_in 16 0).mpr ⟨r.toNat, by omega, by omega, by omega⟩⟩
  rw [impl_GreaseTag.fv_eq, impl_PickOf.fv_eq, if_neg (by decide), impl_Hash.fv_eq, e]
  simp only [Option.bind_some, e2]
  rw [w64 (x := 16 * r) (by omega) (by omega), w64 (by omega) (by omega)]
section
variable (p : List S67) (v : List Int) (hp : p.length ≤ 1000000000000) (hs : ∀ x ∈ p, okB x) (hv : v.length ≤ 1000000000000)
include hp hs hv
theorem implGL_ex (s : Int) : ∃ r, impl_GreaseLost.fv p v s = some r ∧ (r = true → hard p v (greases 0 16) > 0) := by
  obtain ⟨t, e, ht⟩ := implTag_ex s
  refine ⟨isLo p v t, ?_, fun h => (hard_in p v _).2.2.mpr (List.any_eq_true.mpr ⟨t, ht, h⟩)⟩
  rw [impl_GreaseLost.fv_eq, e]
  simp only [Option.bind_some, implIsLo_v p v hp hs hv]
/-- What FindSeed finds: nothing, or a seed with which a tag is lost. -/
theorem implSeed_l0 (n : Int) (hn : n ≤ 100) (m : Nat) : ∀ s : Int, 0 ≤ s → n - s ≤ m → ∃ r, impl_FindSeed.l0v p v n s = some r ∧ (r = -1 ∨ r < n ∧ impl_GreaseLost.fv p v r = some true) := by
  induction m with
  | zero =>
    intro s h0 h1
    rw [impl_FindSeed.l0v_eq, if_neg (by omega), impl_FindSeed.j1v_eq, if_neg (by simp)]
    exact ⟨-1, rfl, .inl rfl⟩
  | succ m ih =>
    intro s h0 h1
    by_cases hl : s < n
    · obtain ⟨r, e, _⟩ := implGL_ex p v hp hs hv s
      rw [impl_FindSeed.l0v_eq, if_pos hl, impl_FindSeed.j1v_eq, if_pos (by simp [hn]), e]
      simp only [Option.bind_some]
      cases r with
      | true => exact ⟨s, by rw [if_pos rfl], .inr ⟨hl, e⟩⟩
      | false =>
        rw [if_neg (by simp), w64 (by omega) (by omega)]
        exact ih (s + 1) (by omega) (by omega)
    · rw [impl_FindSeed.l0v_eq, if_neg hl, impl_FindSeed.j1v_eq, if_neg (by simp)]
      exact ⟨-1, rfl, .inl rfl⟩
theorem implSeed_ex (n : Int) : ∃ r, impl_FindSeed.fv p v n = some r ∧ (r = -1 ∨ r < n ∧ impl_GreaseLost.fv p v r = some true) := by
  rw [impl_FindSeed.fv_eq]
  by_cases hn : n ≤ 100
  · exact implSeed_l0 p v hp hs hv n hn n.toNat 0 (by omega) (by omega)
  · rw [impl_FindSeed.l0v_eq, impl_FindSeed.j1v_eq, impl_FindSeed.j1v_eq]
    simp only [hn, decide_false, Bool.false_eq_true, if_false, ite_self]
    exact ⟨-1, rfl, .inl rfl⟩
end
end Go.Proofs.Ytdoefkloanpliaa.Plain

/- The places of the boxes that refuse what means nothing. No program. No condition. -/
set_option linter.unusedSimpArgs false
set_option linter.unusedVariables false
namespace Go.Proofs.Ytdoefkloanpliaa.Plain
open Go.RowKit Go.Proofs.YtdoefkloanpliaaW.PrintWords Go.Proofs.Ytdoefkloanpliaa.Base Go.Proofs.Ytdoefkloanpliaa.Print

/-- The places of the boxes that refuse, from n on. -/
def hards : Int → List S67 → List Int
  | _, [] => []
  | n, b :: p => if refuses b then n :: hards (n + 1) p else hards (n + 1) p
theorem hards_in (p : List S67) : ∀ n : Nat, (∀ i ∈ hards (n : Int) p, ∃ j : Nat, i = ((n + j : Nat) : Int) ∧ ∃ b, p[j]? = some b ∧ refuses b = true) ∧ ((hards (n : Int) p).length > 0 ↔ ∃ b ∈ p, refuses b = true) ∧ (hards (n : Int) p).length ≤ p.length := by
  induction p with
  | nil =>
    intro n
    simp [hards]
  | cons b p ih =>
    intro n
    obtain ⟨h1, h2, h3⟩ := ih (n + 1)
    have e : ((n + 1 : Nat) : Int) = (n : Int) + 1 := by omega
    rw [e] at h1 h2 h3
    simp only [hards]
    have up : ∀ i ∈ hards ((n : Int) + 1) p, ∃ j : Nat, i = ((n + j : Nat) : Int) ∧ ∃ c, (b :: p)[j]? = some c ∧ refuses c = true := by
      intro i hi
      obtain ⟨j, hj, c, hc, hr⟩ := h1 i hi
      exact ⟨j + 1, by omega, c, by simpa using hc, hr⟩
    cases hb : refuses b with
    | true =>
      rw [if_pos rfl]
      refine ⟨fun i hi => ?_, ⟨fun _ => ⟨b, List.mem_cons_self, hb⟩, fun _ => by simp⟩, by simp only [List.length_cons]; omega⟩
      cases hi with
      | head => exact ⟨0, by simp, b, rfl, hb⟩
      | tail _ hi => exact up i hi
    | false =>
      rw [if_neg (by simp)]
      refine ⟨up, ?_, by simp only [List.length_cons]; omega⟩
      rw [h2]
      constructor
      · rintro ⟨c, hc, hr⟩
        exact ⟨c, List.mem_cons_of_mem _ hc, hr⟩
      · rintro ⟨c, hc, hr⟩
        cases hc with
        | head =>
          rw [hb] at hr
          cases hr
        | tail _ hc => exact ⟨c, hc, hr⟩
end Go.Proofs.Ytdoefkloanpliaa.Plain

/- HardenedBoxes, of the program. Condition: at most 10 to the 12 of each. -/
set_option linter.unusedSimpArgs false
set_option linter.unusedVariables false
namespace Go.Proofs.Ytdoefkloanpliaa.Plain
open Go.RowKit Go.Proofs.YtdoefkloanpliaaW.PrintWords Go.Proofs.Ytdoefkloanpliaa.Base Go.Proofs.Ytdoefkloanpliaa.Print

theorem implBoxes_l0 (suf : List S67) : ∀ (pre : List S67) (out : List Int), (pre ++ suf).length ≤ 1000000000000 → (∀ x ∈ suf, okB x) → out.length ≤ pre.length →
    impl_HardenedBoxes.l0v out (pre ++ suf) ((pre ++ suf).length : Int) (pre.length : Int) = some (out ++ hards (pre.length : Int) suf) := by
  induction suf with
  | nil =>
    intro pre out _ _ _
    rw [impl_HardenedBoxes.l0v_eq, if_neg (nlt_end pre)]
    simp [hards]
  | cons b suf ih =>
    intro pre out hl hs ho
    have hn : pre.length < (pre ++ b :: suf).length := by simp
    have hq : pre.length < 1000000000000 := by omega
    have e1 : ((pre ++ [b]).length : Int) = (pre.length : Int) + 1 := by simp
    have hs' : ∀ x ∈ suf, okB x := fun y hy => hs y (List.mem_cons_of_mem _ hy)
    rw [impl_HardenedBoxes.l0v_eq, if_pos (lt_mid pre suf b), if_pos (by omega), if_pos (lt_mid pre suf b), rdBox_mid, implRefuses_v b (hs b List.mem_cons_self), up_mid pre b hn hl]
    simp only [Option.bind_some, hards]
    rw [mid_snoc pre suf b] at hl ⊢
    cases refuses b with
    | true =>
      rw [if_pos rfl, if_pos (by omega), ih (pre ++ [b]) _ hl hs' (by simp; omega), e1]
      simp
    | false =>
      rw [if_neg (by simp), ih (pre ++ [b]) out hl hs' (by simp; omega), e1]
      simp
theorem implBoxes_v (p : List S67) (hp : p.length ≤ 1000000000000) (hs : ∀ x ∈ p, okB x) : impl_HardenedBoxes.fv p = some (hards 0 p) := by
  rw [impl_HardenedBoxes.fv_eq]
  simpa using implBoxes_l0 p [] [] (by simpa using hp) hs (by simp)
end Go.Proofs.Ytdoefkloanpliaa.Plain

/- The numbers that the laws draw from bytes: each draw comes to an answer, in its range, and leaves a place in the bytes. Condition: at most 2 to the 40 bytes; the place lies in the bytes. -/
set_option linter.unusedSimpArgs false
set_option linter.unusedVariables false
namespace Go.Proofs.Ytdoefkloanpliaa.Plain
open Go.RowKit Go.Proofs.YtdoefkloanpliaaW.PrintWords Go.Proofs.Ytdoefkloanpliaa.Base Go.Proofs.Ytdoefkloanpliaa.Print

/-- A place in the bytes. -/
def St (l : List Int) (p : Int) : Prop := 0 ≤ p ∧ p ≤ l.length ∧ l.length ≤ 1000000000000
theorem and255 (x : Int) : 0 ≤ Go.bits .and .i64 x 255 ∧ Go.bits .and .i64 x 255 ≤ 255 := by
  have hle : (BitVec.ofInt 64 x &&& BitVec.ofInt 64 255).toNat ≤ 255 := by
    rw [BitVec.toNat_and]
    exact Nat.and_le_right
  have h : Go.bits .and .i64 x 255 = wrap64 ((BitVec.ofInt 64 x &&& BitVec.ofInt 64 255).toNat : Int) := by
    unfold wrap64
    exact Go.IntKind.wrap_i64 _
  rw [h, w64 (by omega) (by omega)]
  omega
theorem l1Byte_ex (l : List Int) (p r : Int) (h : St l p) : ∃ b p' r', spec_l1Byte.f l p r = some (b, p', r') ∧ St l p' ∧ 0 ≤ b ∧ b ≤ 255 := by
  obtain ⟨h0, h1, h2⟩ := h
  unfold spec_l1Byte.f
  by_cases hp : p < (l.length : Int)
  · rw [if_pos hp, if_pos h0]
    refine ⟨_, _, _, rfl, ⟨?_, ?_, h2⟩, (and255 _).1, (and255 _).2⟩
    · rw [w64 (by omega) (by omega)]
      omega
    · rw [w64 (by omega) (by omega)]
      omega
  · rw [if_neg hp]
    exact ⟨_, _, _, rfl, ⟨h0, h1, h2⟩, (and255 _).1, (and255 _).2⟩
theorem tmod_in (x n : Int) (hx : 0 ≤ x) (hn : 0 < n) : 0 ≤ Int.tmod x n ∧ Int.tmod x n < n := ⟨Int.tmod_nonneg _ hx, Int.tmod_lt_of_pos _ hn⟩
theorem l1Below_ex (l : List Int) (p r n : Int) (h : St l p) (hn : 0 < n) : ∃ b p' r', spec_l1Below.f l p r n = some (b, p', r') ∧ St l p' ∧ 0 ≤ b ∧ b < n := by
  unfold spec_l1Below.f
  rw [if_neg (by omega)]
  obtain ⟨b, p', r', e, h', b0, b1⟩ := l1Byte_ex l p r h
  rw [e]
  by_cases h256 : n ≤ 256
  · rw [if_pos h256]
    simp only [Option.bind_some]
    rw [if_neg (by omega)]
    exact ⟨_, _, _, rfl, h', tmod_in _ _ b0 hn⟩
  · rw [if_neg h256]
    simp only [Option.bind_some]
    obtain ⟨c, p2, r2, e2, h2, c0, c1⟩ := l1Byte_ex l p' r' h'
    rw [e2]
    simp only [Option.bind_some]
    obtain ⟨d, p3, r3, e3, h3, d0, d1⟩ := l1Byte_ex l p2 r2 h2
    rw [e3]
    simp only [Option.bind_some]
    rw [if_neg (by omega)]
    refine ⟨_, _, _, rfl, h3, tmod_in _ _ ?_ hn⟩
    rw [w64 (x := b * 65536) (by omega) (by omega), w64 (x := c * 256) (by omega) (by omega), w64 (x := b * 65536 + c * 256) (by omega) (by omega), w64 (by omega) (by omega)]
    omega
theorem l1Int_ex (l : List Int) (p r : Int) (xs : List Int) (h : St l p) (hx : xs ≠ []) : ∃ b p' r', spec_l1Int.f l p r xs = some (b, p', r') ∧ St l p' ∧ b ∈ xs := by
  unfold spec_l1Int.f
  have hl : 0 < xs.length := List.length_pos_iff.mpr hx
  obtain ⟨b, p', r', e, h', b0, b1⟩ := l1Below_ex l p r (xs.length : Int) h (by omega)
  rw [e]
  simp only [Option.bind_some]
  rw [if_pos b0, if_pos b1]
  refine ⟨_, _, _, rfl, h', ?_⟩
  have hb : b.toNat < xs.length := by omega
  have e1 : rd xs b = xs[b.toNat] := by simp [rd, hb]
  rw [e1]
  exact List.getElem_mem hb
theorem l1Once_ex (l : List Int) (p r n : Int) (h : St l p) (hn : 0 < n) : ∃ (b : Bool) (p' r' : Int), spec_l1Once.f l p r n = some (b, p', r') ∧ St l p' := by
  unfold spec_l1Once.f
  obtain ⟨b, p', r', e, h', b0, b1⟩ := l1Below_ex l p r n h hn
  rw [e]
  exact ⟨_, _, _, rfl, h'⟩
theorem l1New_l0 (suf : List Int) : ∀ (pre : List Int) (s : Int), (pre ++ suf).length ≤ 1000000000000 → ∃ r, spec_l1New.l0v (pre ++ suf) s (pre.length : Int) = some (pre ++ suf, 0, r) := by
  induction suf with
  | nil =>
    intro pre s _
    rw [spec_l1New.l0v_eq, if_neg (nlt_end pre)]
    exact ⟨_, rfl⟩
  | cons x suf ih =>
    intro pre s hl
    have hn : pre.length < (pre ++ x :: suf).length := by simp
    rw [spec_l1New.l0v_eq, if_pos (lt_mid pre suf x)]
    by_cases h4 : (pre.length : Int) < 4000
    · rw [if_pos h4, if_pos (by omega), up_mid pre x hn hl]
      rw [mid_snoc pre suf x] at hl ⊢
      exact ih (pre ++ [x]) _ hl
    · rw [if_neg h4]
      exact ⟨_, rfl⟩
theorem l1New_ex (l : List Int) (hl : l.length ≤ 1000000000000) : ∃ r, spec_l1New.fv l = some (l, 0, r) ∧ St l 0 := by
  rw [spec_l1New.fv_eq]
  obtain ⟨r, h⟩ := l1New_l0 l [] (wrap64 (193017 + (l.length : Int))) (by simpa using hl)
  exact ⟨r, h, by omega, by omega, hl⟩
end Go.Proofs.Ytdoefkloanpliaa.Plain

/- The lists of versions that the laws draw from bytes: each draw comes to an answer, and the lists are short. Condition: at most 2 to the 40 bytes; the place lies in the bytes. -/
set_option linter.unusedSimpArgs false
set_option linter.unusedVariables false
namespace Go.Proofs.Ytdoefkloanpliaa.Plain
open Go.RowKit Go.Proofs.YtdoefkloanpliaaW.PrintWords Go.Proofs.Ytdoefkloanpliaa.Base Go.Proofs.Ytdoefkloanpliaa.Print

theorem put_l0 (x : Int) (l : List Int) (hl : l.length ≤ 1000) (m : Nat) : ∀ i : Nat, i + m = l.length → ∃ r, spec_l4Put.l0v l x (i : Int) = some r ∧ l.length ≤ r.length ∧ r.length ≤ l.length + 1 := by
  induction m with
  | zero =>
    intro i hi
    rw [spec_l4Put.l0v_eq, if_neg (by omega)]
    simp only [Option.bind_some, List.nil_append, List.length_nil, Nat.zero_add, List.length_append, List.length_take, List.length_drop, List.length_cons, Int.toNat_natCast]
    rw [if_pos (by omega), if_pos (by omega), if_pos (by omega), if_pos (by omega), if_pos (by omega)]
    refine ⟨_, rfl, ?_, ?_⟩ <;> simp only [List.length_append, List.length_take, List.length_drop, List.length_cons, List.length_nil] <;> omega
  | succ m ih =>
    intro i hi
    rw [spec_l4Put.l0v_eq, if_pos (by omega), if_pos (by omega)]
    by_cases h1 : rd l (i : Int) < x
    · rw [if_pos h1, w64 (by omega) (by omega)]
      exact ih (i + 1) (by omega)
    · rw [if_neg h1]
      by_cases h2 : rd l (i : Int) = x
      · rw [if_pos h2]
        simp only [Option.bind_some, List.nil_append, List.length_nil, Nat.zero_add]
        rw [if_pos (by omega)]
        exact ⟨_, rfl, by omega, by omega⟩
      · rw [if_neg h2]
        simp only [Option.bind_some, List.nil_append, List.length_nil, Nat.zero_add, List.length_append, List.length_take, List.length_drop, List.length_cons, Int.toNat_natCast]
        rw [if_pos (by omega), if_pos (by omega), if_pos (by omega), if_pos (by omega)]
        refine ⟨_, rfl, ?_, ?_⟩ <;> simp only [List.length_append, List.length_take, List.length_drop, List.length_cons, List.length_nil] <;> omega
theorem put_ex (x : Int) (l : List Int) (hl : l.length ≤ 1000) : ∃ r, spec_l4Put.fv l x = some r ∧ l.length ≤ r.length ∧ r.length ≤ l.length + 1 := by
  rw [spec_l4Put.fv_eq]
  exact put_l0 x l hl l.length 0 (by omega)
theorem l12Draw_l0 (m : Nat) : ∀ (xs l : List Int) (p r : Int), St l p → xs.length + m ≤ 900 → 1 ≤ xs.length → ∃ ys p' r', spec_l12Draw.l0v xs (m : Int) l p r = some (ys, p', r') ∧ St l p' ∧ 1 ≤ ys.length ∧ ys.length ≤ xs.length + m := by
  induction m with
  | zero =>
    intro xs l p r h hx h1
    rw [spec_l12Draw.l0v_eq, if_neg (by omega)]
    exact ⟨_, _, _, rfl, h, h1, by omega⟩
  | succ m ih =>
    intro xs l p r h hx h1
    rw [spec_l12Draw.l0v_eq, if_pos (by omega)]
    obtain ⟨b, p', r', e, h', b0, b1⟩ := l1Below_ex l p r 6 h (by decide)
    rw [e]
    simp only [Option.bind_some]
    obtain ⟨zs, ez, z1, z2⟩ := put_ex (wrap64 (1 + b)) xs (by omega)
    rw [ez]
    simp only [Option.bind_some]
    rw [w64 (by omega) (by omega), show ((m + 1 : Nat) : Int) - 1 = (m : Int) by omega]
    obtain ⟨ys, p2, r2, e2, h2, y1, y2⟩ := ih zs l p' r' h' (by omega) (by omega)
    exact ⟨ys, p2, r2, e2, h2, y1, by omega⟩
theorem l12Draw_ex (l : List Int) (p r : Int) (h : St l p) : ∃ ys p' r', spec_l12Draw.fv l p r = some (ys, p', r') ∧ St l p' ∧ 1 ≤ ys.length ∧ ys.length ≤ 4 := by
  rw [spec_l12Draw.fv_eq]
  obtain ⟨b, p1, r1, e1, h1, b0, b1⟩ := l1Below_ex l p r 4 h (by decide)
  rw [e1]
  simp only [Option.bind_some]
  obtain ⟨c, p2, r2, e2, h2, c0, c1⟩ := l1Below_ex l p1 r1 4 h1 (by decide)
  rw [e2]
  simp only [Option.bind_some]
  obtain ⟨n, rfl⟩ : ∃ n : Nat, c = (n : Int) := ⟨c.toNat, by omega⟩
  obtain ⟨ys, p3, r3, e3, h3, y1, y2⟩ := l12Draw_l0 n [wrap64 (1 + b)] l p2 r2 h2 (by simp; omega) (by simp)
  exact ⟨ys, p3, r3, e3, h3, y1, by simp only [List.length_cons, List.length_nil] at y2; omega⟩
theorem l12Any_ex (l : List Int) (p r : Int) (h : St l p) : ∃ ys p' r', spec_l12Any.fv l p r = some (ys, p', r') ∧ St l p' ∧ ys.length ≤ 5 := by
  rw [spec_l12Any.fv_eq]
  obtain ⟨xs, p1, r1, e1, h1, x1, x2⟩ := l12Draw_ex l p r h
  rw [e1]
  simp only [Option.bind_some]
  obtain ⟨c, p2, r2, e2, h2, c0, c1⟩ := l1Below_ex l p1 r1 9 h1 (by decide)
  rw [e2]
  simp only [Option.bind_some]
  by_cases k0 : c = 0
  · rw [if_pos k0]
    obtain ⟨b, p3, r3, e3, h3, _⟩ := l1Int_ex l p2 r2 [0, (-1), 9, 10] h2 (by simp)
    rw [e3]
    simp only [Option.bind_some]
    rw [if_pos (by omega)]
    exact ⟨_, _, _, rfl, h3, by simp; omega⟩
  · rw [if_neg k0]
    by_cases k1 : c = 1
    · rw [if_pos k1, if_pos (by omega), if_pos (by omega)]
      exact ⟨_, _, _, rfl, h2, by simp; omega⟩
    · rw [if_neg k1]
      by_cases k2 : c = 2
      · rw [if_pos k2]
        exact ⟨_, _, _, rfl, h2, by simp⟩
      · rw [if_neg k2]
        exact ⟨_, _, _, rfl, h2, by omega⟩
end Go.Proofs.Ytdoefkloanpliaa.Plain

/- The boxes and paths that the laws draw from bytes: each draw comes to an answer, and its rows are short. Condition: at most 2 to the 40 bytes; the place lies in the bytes. -/
set_option linter.unusedSimpArgs false
set_option linter.unusedVariables false
namespace Go.Proofs.Ytdoefkloanpliaa.Plain
open Go.RowKit Go.Proofs.YtdoefkloanpliaaW.PrintWords Go.Proofs.Ytdoefkloanpliaa.Base Go.Proofs.Ytdoefkloanpliaa.Print

theorem l17Tags_l0 (m : Nat) : ∀ (xs l : List Int) (p r : Int), St l p → xs.length + m ≤ 900 → ∃ ys p' r', spec_l17Tags.l0v xs (m : Int) l p r = some (ys, p', r') ∧ St l p' ∧ ys.length ≤ xs.length + m := by
  induction m with
  | zero =>
    intro xs l p r h hx
    rw [spec_l17Tags.l0v_eq, if_neg (by omega)]
    exact ⟨_, _, _, rfl, h, by omega⟩
  | succ m ih =>
    intro xs l p r h hx
    rw [spec_l17Tags.l0v_eq, if_pos (by omega)]
    obtain ⟨b, p', r', e, h', _⟩ := l1Int_ex l p r [1, 2, 3, 10, 40, 200] h (by simp)
    rw [e]
    simp only [Option.bind_some]
    obtain ⟨zs, ez, z1, z2⟩ := put_ex b xs (by omega)
    rw [ez]
    simp only [Option.bind_some]
    rw [w64 (by omega) (by omega), show ((m + 1 : Nat) : Int) - 1 = (m : Int) by omega]
    obtain ⟨ys, p2, r2, e2, h2, y2⟩ := ih zs l p' r' h' (by omega)
    exact ⟨ys, p2, r2, e2, h2, by omega⟩
theorem l17Tags_ex (l : List Int) (p r : Int) (h : St l p) : ∃ ys p' r', spec_l17Tags.fv l p r = some (ys, p', r') ∧ St l p' ∧ ys.length ≤ 5 := by
  rw [spec_l17Tags.fv_eq]
  obtain ⟨b, p1, r1, e1, h1, b0, b1⟩ := l1Below_ex l p r 5 h (by decide)
  rw [e1]
  simp only [Option.bind_some]
  obtain ⟨n, rfl⟩ : ∃ n : Nat, b = (n : Int) := ⟨b.toNat, by omega⟩
  obtain ⟨ys, p3, r3, e3, h3, y2⟩ := l17Tags_l0 n [] l p1 r1 h1 (by simp; omega)
  exact ⟨ys, p3, r3, e3, h3, by simp only [List.length_nil] at y2; omega⟩
theorem l19Draw_ex (l : List Int) (p r : Int) (h : St l p) : ∃ a d s f p' r', spec_l19Draw.fv l p r = some (a, d, s, f, p', r') ∧ St l p' ∧ d.length ≤ 5 ∧ s.length ≤ 5 := by
  rw [spec_l19Draw.fv_eq]
  obtain ⟨c, p1, r1, e1, h1, c0, c1⟩ := l1Below_ex l p r 7 h (by decide)
  rw [e1]
  simp only [Option.bind_some]
  by_cases k0 : c = 0
  · rw [if_pos k0]
    obtain ⟨b, p2, r2, e2, h2, _, _⟩ := l1Below_ex l p1 r1 6 h1 (by decide)
    rw [e2]
    exact ⟨_, _, _, _, _, _, rfl, h2, by simp, by simp⟩
  · rw [if_neg k0]
    obtain ⟨ys, p2, r2, e2, h2, hy⟩ := l17Tags_ex l p1 r1 h1
    by_cases k1 : c = 1
    · rw [if_pos k1, e2]
      exact ⟨_, _, _, _, _, _, rfl, h2, hy, by simp⟩
    · rw [if_neg k1]
      by_cases k2 : c = 2
      · rw [if_pos k2, e2]
        exact ⟨_, _, _, _, _, _, rfl, h2, by simp, hy⟩
      · rw [if_neg k2]
        by_cases k3 : c = 3
        · rw [if_pos k3]
          exact ⟨_, _, _, _, _, _, rfl, h1, by simp, by simp⟩
        · rw [if_neg k3]
          exact ⟨_, _, _, _, _, _, rfl, h1, by simp, by simp⟩
/-- A short path of boxes with short rows. -/
def FewB (p : List S67) : Prop := p.length ≤ 1000 ∧ ∀ x ∈ p, x.f1.length ≤ 1000 ∧ x.f2.length ≤ 1000
theorem fewB_ok {p : List S67} (h : FewB p) : p.length ≤ 1000000000000 ∧ ∀ x ∈ p, okB x := ⟨by have := h.1; omega, fun x hx => by
  have := h.2 x hx
  exact ⟨by omega, by omega⟩⟩
theorem fewB_snoc {p : List S67} {b : S67} (h : ∀ x ∈ p, x.f1.length ≤ 1000 ∧ x.f2.length ≤ 1000) (h1 : b.f1.length ≤ 1000) (h2 : b.f2.length ≤ 1000) : ∀ x ∈ p ++ [b], x.f1.length ≤ 1000 ∧ x.f2.length ≤ 1000 := by
  intro y hy
  rcases List.mem_append.1 hy with hy | hy
  · exact h y hy
  · rw [List.mem_singleton.1 hy]
    exact ⟨h1, h2⟩
theorem l19Path_l0 (m : Nat) : ∀ (xs : List S67) (l : List Int) (p r : Int), St l p → xs.length + m ≤ 900 → (∀ x ∈ xs, x.f1.length ≤ 1000 ∧ x.f2.length ≤ 1000) → ∃ ys p' r', spec_l19Path.l0v xs (m : Int) l p r = some (ys, p', r') ∧ St l p' ∧ (∀ x ∈ ys, x.f1.length ≤ 1000 ∧ x.f2.length ≤ 1000) ∧ ys.length ≤ xs.length + m := by
  induction m with
  | zero =>
    intro xs l p r h hx hy
    rw [spec_l19Path.l0v_eq, if_neg (by omega)]
    exact ⟨_, _, _, rfl, h, hy, by omega⟩
  | succ m ih =>
    intro xs l p r h hx hy
    rw [spec_l19Path.l0v_eq, if_pos (by omega)]
    obtain ⟨a, d, s, f, p1, r1, e1, h1, hd, hs⟩ := l19Draw_ex l p r h
    rw [e1]
    simp only [Option.bind_some]
    rw [if_pos (by omega), w64 (by omega) (by omega), show ((m + 1 : Nat) : Int) - 1 = (m : Int) by omega]
    obtain ⟨ys, p2, r2, e2, h2, y1, y2⟩ := ih (xs ++ [⟨a, d, s, f⟩]) l p1 r1 h1 (by simp; omega) (fewB_snoc hy (by show d.length ≤ _; omega) (by show s.length ≤ _; omega))
    exact ⟨ys, p2, r2, e2, h2, y1, by simp only [List.length_append, List.length_cons, List.length_nil] at y2; omega⟩
theorem l19Path_ex (l : List Int) (p r : Int) (h : St l p) : ∃ ys p' r', spec_l19Path.fv l p r = some (ys, p', r') ∧ St l p' ∧ FewB ys ∧ ys.length ≤ 4 := by
  rw [spec_l19Path.fv_eq]
  obtain ⟨b, p1, r1, e1, h1, b0, b1⟩ := l1Below_ex l p r 4 h (by decide)
  rw [e1]
  simp only [Option.bind_some]
  obtain ⟨n, rfl⟩ : ∃ n : Nat, b = (n : Int) := ⟨b.toNat, by omega⟩
  obtain ⟨ys, p2, r2, e2, h2, y1, y2⟩ := l19Path_l0 n [] l p1 r1 h1 (by simp; omega) (fun x hx => by cases hx)
  simp only [List.length_nil] at y2
  exact ⟨ys, p2, r2, e2, h2, ⟨by omega, y1⟩, by omega⟩
end Go.Proofs.Ytdoefkloanpliaa.Plain

/- The paths and versions that FnHardened draws. Condition: at most 2 to the 40 bytes; the place lies in the bytes. -/
set_option linter.unusedSimpArgs false
set_option linter.unusedVariables false
namespace Go.Proofs.Ytdoefkloanpliaa.Plain
open Go.RowKit Go.Proofs.YtdoefkloanpliaaW.PrintWords Go.Proofs.Ytdoefkloanpliaa.Base Go.Proofs.Ytdoefkloanpliaa.Print

theorem l29Path_ex (l : List Int) (p r : Int) (h : St l p) : ∃ ys p' r', spec_l29Path.fv l p r = some (ys, p', r') ∧ St l p' ∧ FewB ys := by
  rw [spec_l29Path.fv_eq]
  obtain ⟨ys, p1, r1, e1, h1, hy, _⟩ := l19Path_ex l p r h
  rw [e1]
  simp only [Option.bind_some]
  by_cases h0 : (ys.length : Int) > 0
  · rw [if_pos h0]
    obtain ⟨b, p2, r2, e2, h2⟩ := l1Once_ex l p1 r1 3 h1 (by decide)
    rw [e2]
    simp only [Option.bind_some]
    cases b with
    | false =>
      rw [if_neg (by simp)]
      exact ⟨_, _, _, rfl, h2, hy⟩
    | true =>
      rw [if_pos rfl]
      obtain ⟨c, p3, r3, e3, h3, _⟩ := l1Int_ex l p2 r2 [10, 26, 250, 11] h2 (by simp)
      rw [e3]
      simp only [Option.bind_some]
      rw [if_pos (by omega)]
      refine ⟨_, _, _, rfl, h3, by rw [List.length_set]; exact hy.1, fun x hx => ?_⟩
      rcases List.mem_or_eq_of_mem_set hx with hx | hx
      · exact hy.2 x hx
      · rw [hx]
        cases ys with
        | nil => simp at h0
        | cons y ys =>
          have := hy.2 y List.mem_cons_self
          simp [rd_T67]
          exact this.2
  · rw [if_neg h0]
    exact ⟨_, _, _, rfl, h1, hy⟩
theorem drawGL_ex (l : List Int) (hl : l.length ≤ 1000000000000) : ∃ p v s, spec_DrawGreaseLost.fv l = some (p, v, s) ∧ FewB p ∧ v.length ≤ 5 := by
  obtain ⟨r, en, hn⟩ := l1New_ex l hl
  obtain ⟨p, p1, r1, e1, h1, hp⟩ := l29Path_ex l 0 r hn
  obtain ⟨v, p2, r2, e2, h2, hv⟩ := l12Any_ex l p1 r1 h1
  obtain ⟨c, p3, r3, e3, h3, _, _⟩ := l1Below_ex l p2 r2 60 h2 (by decide)
  refine ⟨p, v, c, ?_, hp, hv⟩
  rw [spec_DrawGreaseLost.fv_eq]
  simp only [en, e1, e2, e3, Option.bind_some]
theorem drawHard_ex (l : List Int) (hl : l.length ≤ 1000000000000) : ∃ p v, spec_DrawHardnessOf.fv l = some (p, v) ∧ FewB p ∧ v.length ≤ 5 := by
  obtain ⟨p, v, s, e, hp, hv⟩ := drawGL_ex l hl
  refine ⟨p, v, ?_, hp, hv⟩
  rw [spec_DrawHardnessOf.fv_eq, e]
  rfl
theorem drawSeed_ex (l : List Int) (hl : l.length ≤ 1000000000000) : ∃ p v n, spec_DrawFindSeed.fv l = some (p, v, n) ∧ FewB p ∧ v.length ≤ 5 := by
  obtain ⟨p, v, s, e, hp, hv⟩ := drawGL_ex l hl
  obtain ⟨r, en, hn⟩ := l1New_ex l hl
  obtain ⟨c, p3, r3, e3, h3, _⟩ := l1Int_ex l 0 r [0, 5, 20, 100, 101, (-1)] hn (by simp)
  refine ⟨p, v, c, ?_, hp, hv⟩
  rw [spec_DrawFindSeed.fv_eq, e]
  simp only [en, e3, Option.bind_some]
end Go.Proofs.Ytdoefkloanpliaa.Plain

/- Written by a program of this session (limx.py): the equations of what the printed functions come to. No condition. -/
namespace Go.Proofs.Ytdoefkloanpliaa.Print
open Go.RowKit Go.Proofs.YtdoefkloanpliaaW.PrintWords Go.Proofs.YtdoefkloanpliaaW.PrintLast Go.Proofs.Ytdoefkloanpliaa.Base
set_option linter.unusedVariables false
set_option maxRecDepth 20000
noncomputable def laws_FnHardened.j0v (x0 : List Int) (x3 : List (S67)) (x6 : List Int) (x42 : Bool) : Option (Bool) := Lim fun k => laws_FnHardened.j0 k x0 x3 x6 x42
noncomputable def laws_FnHardened.l0v (x0 : List Int) (x3 : List (S67)) (x6 : List Int) (x7 : Int) : Option (Bool) := Lim fun k => laws_FnHardened.l0 k x0 x3 x6 x7
noncomputable def laws_FnHardened.fv (l0 : List Int) : Option (Bool) := Lim fun k => laws_FnHardened.f k l0
theorem laws_FnHardened.j0_is (x0 : List Int) (x3 : List (S67)) (x6 : List Int) (x42 : Bool) : Is (fun k => laws_FnHardened.j0 k x0 x3 x6 x42) (laws_FnHardened.j0v x0 x3 x6 x42) := ⟨fun k => (laws_FnHardened.mono_l k).1 x0 x3 x6 x42, rfl⟩
theorem laws_FnHardened.l0_is (x0 : List Int) (x3 : List (S67)) (x6 : List Int) (x7 : Int) : Is (fun k => laws_FnHardened.l0 k x0 x3 x6 x7) (laws_FnHardened.l0v x0 x3 x6 x7) := ⟨fun k => (laws_FnHardened.mono_l k).2 x0 x3 x6 x7, rfl⟩
theorem laws_FnHardened.f_is (l0 : List Int) : Is (fun k => laws_FnHardened.f k l0) (laws_FnHardened.fv l0) := ⟨fun k => laws_FnHardened.mono l0 k, rfl⟩
theorem laws_FnHardened.j0v_eq (x0 : List Int) (x3 : List (S67)) (x6 : List Int) (x42 : Bool) : laws_FnHardened.j0v x0 x3 x6 x42 = if x42 = true then (some false) else (laws_FnHardened.l0v x0 x3 x6 0) := by
  refine Is.step (laws_FnHardened.j0_is x0 x3 x6 x42).mo (fun k => by rw [laws_FnHardened.j0]) ?_
  · skip
    repeat' first
    | with_reducible exact laws_FnHardened.l0_is _ _ _ _
    | with_reducible exact Is.now _
    | with_reducible refine Is.ite ?_ ?_
    | with_reducible refine Is.bind ?_ (fun _ => ?_)
theorem laws_FnHardened.l0v_eq (x0 : List Int) (x3 : List (S67)) (x6 : List Int) (x7 : Int) : laws_FnHardened.l0v x0 x3 x6 x7 = if x7 < (x6.length : Int) then (if 0 ≤ x7 then (if 0 ≤ (rd x6 x7) then (if (rd x6 x7) < (x3.length : Int) then ((impl_RefusesGrease.fv ((rd_T67 x3 (rd x6 x7)).f0) ((rd_T67 x3 (rd x6 x7)).f1) ((rd_T67 x3 (rd x6 x7)).f2) ((rd_T67 x3 (rd x6 x7)).f3)).bind fun t581 => (if t581 = true then ((impl_IsClear.f ((rd_T67 x3 (rd x6 x7)).f0) ((rd_T67 x3 (rd x6 x7)).f1) ((rd_T67 x3 (rd x6 x7)).f2) ((rd_T67 x3 (rd x6 x7)).f3)).bind fun t584 => (if t584 = true then (some false) else (laws_FnHardened.l0v x0 x3 x6 (wrap64 (x7 + 1))))) else (some false))) else (none)) else (none)) else (none)) else ((spec_DrawFindSeed.fv x0).bind fun bt585 => ((impl_FindSeed.fv bt585.1 bt585.2.1 bt585.2.2).bind fun t592 => (if t592 = (-1) then (some true) else (if t592 < bt585.2.2 then ((impl_GreaseLost.fv bt585.1 bt585.2.1 t592).bind fun t593 => (if t593 = true then ((impl_HardnessOf.fv bt585.1 bt585.2.1).bind fun t594 => (some (decide (t594 > 0)))) else (some false))) else (some false))))) := by
  refine Is.step (laws_FnHardened.l0_is x0 x3 x6 x7).mo (fun k => by rw [laws_FnHardened.l0]) ?_
  · skip
    repeat' first
    | with_reducible exact impl_FindSeed.f_is _ _ _
    | with_reducible exact impl_GreaseLost.f_is _ _ _
    | with_reducible exact impl_HardnessOf.f_is _ _
    | with_reducible exact impl_RefusesGrease.f_is _ _ _ _
    | with_reducible exact laws_FnHardened.l0_is _ _ _ _
    | with_reducible exact spec_DrawFindSeed.f_is _
    | with_reducible exact Is.now _
    | with_reducible refine Is.ite ?_ ?_
    | with_reducible refine Is.bind ?_ (fun _ => ?_)
theorem laws_FnHardened.fv_eq (l0 : List Int) : laws_FnHardened.fv l0 = (laws_big.f l0).bind fun t567 => (if t567 = true then (some true) else ((spec_DrawHardnessOf.fv l0).bind fun bt568 => ((impl_HardnessOf.fv bt568.1 bt568.2).bind fun t574 => ((impl_HardenedBoxes.fv bt568.1).bind fun t575 => ((impl_IsOpenPath.fv bt568.1 bt568.2).bind fun t578 => (if t578 = true then (if t574 > 0 then (if (t575.length : Int) > 0 then (if t574 < 0 then (laws_FnHardened.j0v l0 bt568.1 t575 true) else (laws_FnHardened.j0v l0 bt568.1 t575 (decide (t574 > 16)))) else (laws_FnHardened.j0v l0 bt568.1 t575 true)) else (if (t575.length : Int) > 0 then (laws_FnHardened.j0v l0 bt568.1 t575 true) else (if t574 < 0 then (laws_FnHardened.j0v l0 bt568.1 t575 true) else (laws_FnHardened.j0v l0 bt568.1 t575 (decide (t574 > 16)))))) else (if t574 < 0 then (laws_FnHardened.j0v l0 bt568.1 t575 true) else (laws_FnHardened.j0v l0 bt568.1 t575 (decide (t574 > 16)))))))))) := by
  refine Is.lim (g := fun k => laws_FnHardened.f k l0) ?_
  · unfold laws_FnHardened.f
    repeat' first
    | with_reducible exact impl_HardenedBoxes.f_is _
    | with_reducible exact impl_HardnessOf.f_is _ _
    | with_reducible exact impl_IsOpenPath.f_is _ _
    | with_reducible exact laws_FnHardened.j0_is _ _ _ _
    | with_reducible exact spec_DrawHardnessOf.f_is _
    | with_reducible exact Is.now _
    | with_reducible refine Is.ite ?_ ?_
    | with_reducible refine Is.bind ?_ (fun _ => ?_)
end Go.Proofs.Ytdoefkloanpliaa.Print

/- FnHardened: whatever the bytes that the law draws from, exactly the paths with a box that refuses what means nothing are found by values in motion. No condition. -/
set_option linter.unusedSimpArgs false
set_option linter.unusedVariables false
namespace Go.Proofs.Ytdoefkloanpliaa.Pure
open Go.RowKit Go.Proofs.YtdoefkloanpliaaW.PrintWords Go.Proofs.YtdoefkloanpliaaW.PrintMore Go.Proofs.Ytdoefkloanpliaa.Base Go.Proofs.Ytdoefkloanpliaa.Print Go.Proofs.Ytdoefkloanpliaa.Plain

theorem h_end (l0 : List Int) (h0 : l0.length ≤ 1000000000000) (p : List S67) (hp : p.length ≤ 1000) (hs : ∀ x ∈ p, okB x) (suf : List Int) : ∀ pre : List Int, (pre ++ suf).length ≤ 1000000000000 → (∀ i ∈ suf, ∃ j : Nat, i = (j : Int) ∧ ∃ b, p[j]? = some b ∧ refuses b = true) →
    laws_FnHardened.l0v l0 p (pre ++ suf) (pre.length : Int) = some true := by
  induction suf with
  | nil =>
    intro pre _ _
    obtain ⟨q, v, n, e, hq, hv⟩ := drawSeed_ex l0 h0
    obtain ⟨q1, q2⟩ := fewB_ok hq
    have hv1 : v.length ≤ 1000000000000 := by omega
    obtain ⟨r, e2, hr⟩ := implSeed_ex q v q1 q2 hv1 n
    rw [laws_FnHardened.l0v_eq, if_neg (nlt_end pre), e]
    simp only [Option.bind_some, e2]
    by_cases h1 : r = -1
    · rw [if_pos h1]
    · rw [if_neg h1]
      rcases hr with hr | ⟨hr, e3⟩
      · exact absurd hr h1
      · obtain ⟨g, e4, hg⟩ := implGL_ex q v q1 q2 hv1 r
        rw [e3] at e4
        obtain rfl := Option.some.inj e4
        rw [if_pos hr, e3]
        simp only [Option.bind_some, if_true]
        rw [implHardness_v q v q1 q2 hv1]
        simp [hg rfl]
  | cons i suf ih =>
    intro pre hl hx
    have hn : pre.length < (pre ++ i :: suf).length := by simp
    obtain ⟨j, rfl, b, hb, hr⟩ := hx i List.mem_cons_self
    have hj : j < p.length := by
      rw [List.getElem?_eq_some_iff] at hb
      exact hb.1
    have hrd : rd_T67 p (j : Int) = b := by
      simp [rd_T67, hb]
    have hm : b ∈ p := List.mem_of_getElem? hb
    rw [laws_FnHardened.l0v_eq, if_pos (lt_mid pre suf _), if_pos (by omega), rd_mid, if_pos (by omega), if_pos (by omega), hrd, implRefuses_v b (hs b hm), hr]
    simp only [Option.bind_some, if_true]
    have hc : impl_IsClear.f b.f0 b.f1 b.f2 b.f3 = some false := by
      have hnot := refuses_not hr
      unfold impl_IsClear.f
      by_cases c0 : b.f0 = 0
      · rw [if_pos c0]
        by_cases c1 : (b.f1.length : Int) = 0
        · rw [if_pos c1]
          by_cases c2 : (b.f2.length : Int) = 0
          · rw [if_pos c2]
            have d1 : b.f1 = [] := List.length_eq_zero_iff.mp (by omega)
            have d2 : b.f2 = [] := List.length_eq_zero_iff.mp (by omega)
            cases h3 : b.f3 with
            | true => rfl
            | false => exact absurd ⟨d1, d2, h3⟩ hnot
          · rw [if_neg c2]
        · rw [if_neg c1]
      · rw [if_neg c0]
    rw [hc]
    simp only [Option.bind_some, Bool.false_eq_true, if_false]
    rw [up_mid pre _ hn hl]
    rw [mid_snoc pre suf _] at hl ⊢
    exact ih (pre ++ [(j : Int)]) hl (fun y hy => hx y (List.mem_cons_of_mem _ hy))
theorem FnHardened : laws_FnHardened.Pure := by
  intro l0 _ _ _
  refine ends (g := fun k => laws_FnHardened.f k l0) ?_
  show laws_FnHardened.fv l0 = some true
  rw [laws_FnHardened.fv_eq]
  unfold laws_big.f
  simp only [Option.bind_some, decide_eq_true_eq]
  split
  · rfl
  · have h0 : l0.length ≤ 1000000000000 := by omega
    obtain ⟨p, v, e, hp, hv⟩ := drawHard_ex l0 h0
    obtain ⟨p1, p2⟩ := fewB_ok hp
    have hv1 : v.length ≤ 1000000000000 := by omega
    obtain ⟨g0, g1, _⟩ := hard_in p v (greases 0 16)
    have g2 : (greases 0 16).length = 16 := by decide
    obtain ⟨k1, k2, k3⟩ := hards_in p 0
    have hpl := hp.1
    have hj : laws_FnHardened.j0v l0 p (hards 0 p) false = some true := by
      rw [laws_FnHardened.j0v_eq, if_neg (by simp)]
      have h := h_end l0 h0 p hp.1 p2 (hards 0 p) [] (by simp only [List.nil_append]; simp only [Int.natCast_zero] at k3; omega) (fun i hi => by
        obtain ⟨j, hj, b, hb, hr⟩ := k1 i hi
        exact ⟨j, by simpa using hj, b, hb, hr⟩)
      simpa using h
    rw [e]
    simp only [Option.bind_some]
    rw [implHardness_v p v p1 p2 hv1, implBoxes_v p p1 p2, implOpen_v p v p1 p2 hv1]
    simp only [Option.bind_some]
    have n1 : ¬ hard p v (greases 0 16) < 0 := by omega
    have n2 : decide (hard p v (greases 0 16) > 16) = false := by
      simp only [decide_eq_false_iff_not]
      omega
    cases ho : openP p v with
    | false =>
      rw [if_neg (by simp), if_neg n1, n2]
      exact hj
    | true =>
      have hi := hard_iff ho
      have k2' : (hards 0 p).length > 0 ↔ ∃ b ∈ p, refuses b = true := by simpa using k2
      have hq : (hard p v (greases 0 16) > 0) ↔ (((hards 0 p).length : Int) > 0) := by
        rw [hi, ← k2']
        omega
      rw [if_pos rfl]
      by_cases hh : hard p v (greases 0 16) > 0
      · rw [if_pos hh, if_pos (hq.mp hh), if_neg n1, n2]
        exact hj
      · rw [if_neg hh, if_neg (fun h => hh (hq.mpr h)), if_neg n1, n2]
        exact hj
end Go.Proofs.Ytdoefkloanpliaa.Pure
