/- FnExactFindSeed: whatever the path, the versions and how many seeds there are, the program and the reference return the same and leave the arguments as they were. No condition. -/
import Derived.Test.YtpoandlbmaljhaaWWords
import Derived.Test.YtpoandlbmaljhaaPrint0
import Derived.Test.YtpoandlbmaljhaaPrint1
import Derived.Test.YtpoandlbmaljhaaPrint7
import Derived.Test.YtpoandlbmaljhaaPrint8
import Derived.Test.YtpoandlbmaljhaaPrint9
import Derived.Test.YtpoandlbmaljhaaPrint11
import Derived.Test.YtpoandlbmaljhaaPrint10
import Derived.Test.YtpoandlbmaljhaaPrint12
import Derived.Test.YtpoandlbmaljhaaPrint13
import Derived.Test.YtpoandlbmaljhaaPrint15
import Derived.Test.YtpoandlbmaljhaaPrint14
import Derived.Test.YtpoandlbmaljhaaPrint6
import Derived.Test.YtpoandlbmaljhaaPrint5
import Derived.Test.YtpoandlbmaljhaaPrint2
import Derived.Test.YtpoandlbmaljhaaPrint3
import Derived.Test.YtpoandlbmaljhaaPrint4
import Derived.Test.YtpoandlbmaljhaaPrint18
/- What a function with rounds comes to when it has rounds enough, as an option: its equations hold without rounds. No condition. -/
namespace Go.Proofs.Ytpoandlbmaljhaa.Base
open Go.RowKit Go.Proofs.YtpoandlbmaljhaaW.PrintWords

/-- More rounds tell the same. -/
def Mo {α : Type} (g : Nat → Option α) : Prop := ∀ k, LeO (g k) (g (k + 1))
theorem mo_le {α : Type} {g : Nat → Option α} (h : Mo g) {k k' : Nat} (hk : k ≤ k') {r : α} (hr : g k = some r) : g k' = some r := at_rounds h hk hr
open Classical in
/-- What it comes to at last: nothing, or one answer. -/
noncomputable def Lim {α : Type} (g : Nat → Option α) : Option α := if h : ∃ r, ∃ k, g k = some r then some (Classical.choose h) else none
theorem lim_some {α : Type} {g : Nat → Option α} (h : Mo g) {k : Nat} {r : α} (hr : g k = some r) : Lim g = some r := by
  have hx : ∃ r, ∃ k, g k = some r := ⟨r, k, hr⟩
  unfold Lim
  rw [dif_pos hx]
  obtain ⟨k', hk'⟩ := Classical.choose_spec hx
  have h1 := mo_le h (Nat.le_max_left k k') hr
  have h2 := mo_le h (Nat.le_max_right k k') hk'
  rw [h1] at h2
  exact h2.symm
theorem of_lim {α : Type} {g : Nat → Option α} {r : α} (h : Lim g = some r) : ∃ k, g k = some r := by
  unfold Lim at h
  split at h
  · rename_i hx
    obtain rfl := Option.some.inj h
    exact Classical.choose_spec hx
  · cases h
theorem lim_none {α : Type} {g : Nat → Option α} (h : Lim g = none) (k : Nat) : g k = none := by
  cases hk : g k with
  | none => rfl
  | some r =>
    unfold Lim at h
    rw [dif_pos ⟨r, k, hk⟩] at h
    cases h
theorem none_lim {α : Type} {g : Nat → Option α} (h : ∀ k, g k = none) : Lim g = none := by
  unfold Lim
  rw [dif_neg]
  rintro ⟨r, k, hk⟩
  rw [h k] at hk
  cases hk
structure Is {α : Type} (g : Nat → Option α) (v : Option α) : Prop where
  mo : Mo g
  lim : Lim g = v
theorem Is.now {α : Type} (v : Option α) : Is (fun _ => v) v := by
  refine ⟨fun _ => LeO.refl _, ?_⟩
  cases v with
  | none => exact none_lim fun _ => rfl
  | some r => exact lim_some (g := fun _ => some r) (fun _ => LeO.refl _) (k := 0) rfl
theorem Is.ite {α : Type} {c : Prop} [Decidable c] {g h : Nat → Option α} {a b : Option α} (hg : Is g a) (hh : Is h b) : Is (fun k => if c then g k else h k) (if c then a else b) := by
  by_cases hc : c
  · simp only [if_pos hc]
    exact hg
  · simp only [if_neg hc]
    exact hh
theorem Is.bind {α β : Type} {g : Nat → Option α} {f : Nat → α → Option β} {a : Option α} {b : α → Option β} (hg : Is g a) (hf : ∀ x, Is (fun k => f k x) (b x)) : Is (fun k => (g k).bind (f k)) (a.bind b) := by
  have hm : Mo (fun k => (g k).bind (f k)) := fun k => LeO.bind (hg.mo k) (fun x => (hf x).mo k)
  refine ⟨hm, ?_⟩
  cases ha : a with
  | none =>
    refine none_lim fun k => ?_
    rw [lim_none (hg.lim.trans ha) k]
    rfl
  | some x =>
    obtain ⟨k, hk⟩ := of_lim (hg.lim.trans ha)
    show _ = b x
    cases hb : b x with
    | none =>
      refine none_lim fun k' => ?_
      cases hx : (g k').bind (f k') with
      | none => rfl
      | some r =>
        have h1 := mo_le hm (Nat.le_max_left k' k) hx
        have h2 := mo_le hg.mo (Nat.le_max_right k' k) hk
        simp only [h2, Option.bind_some] at h1
        rw [lim_none ((hf x).lim.trans hb)] at h1
        cases h1
    | some r =>
      obtain ⟨k', hk'⟩ := of_lim ((hf x).lim.trans hb)
      refine lim_some hm (k := max k k') ?_
      simp only [mo_le hg.mo (Nat.le_max_left k k') hk, Option.bind_some]
      exact mo_le (hf x).mo (Nat.le_max_right k k') hk'
theorem Is.step {α : Type} {g b : Nat → Option α} {v : Option α} (hg : Mo g) (h : ∀ k, g (k + 1) = b k) (hb : Is b v) : Lim g = v := by
  rw [← hb.lim]
  cases hx : Lim g with
  | none =>
    symm
    refine none_lim fun k => ?_
    rw [← h k]
    exact lim_none hx _
  | some r =>
    obtain ⟨k, hk⟩ := of_lim hx
    symm
    refine lim_some hb.mo (k := k) ?_
    rw [← h k]
    exact mo_le hg (Nat.le_succ k) hk
theorem ends {α : Type} {g : Nat → Option α} {r : α} (h : Lim g = some r) : ∃ k, g k = some r := of_lim h
end Go.Proofs.Ytpoandlbmaljhaa.Base

/- Lists read by a whole number's index, and whole numbers that fit. No condition. -/
set_option linter.unusedSimpArgs false
set_option linter.unusedVariables false
namespace Go.Proofs.Ytpoandlbmaljhaa.Plain
open Go.RowKit Go.Proofs.YtpoandlbmaljhaaW.PrintWords

theorem w64 {x : Int} (h0 : -9223372036854775808 ≤ x) (h1 : x ≤ 9223372036854775807) : wrap64 x = x := by
  unfold wrap64
  omega
theorem rd_mid (pre suf : List Int) (x : Int) : rd (pre ++ x :: suf) (pre.length : Int) = x := by simp [rd]
theorem lt_mid {α : Type} (pre suf : List α) (x : α) : (pre.length : Int) < ((pre ++ x :: suf).length : Int) := by
  simp
  omega
theorem nlt_end {α : Type} (pre : List α) : ¬ (pre.length : Int) < ((pre ++ []).length : Int) := by simp
theorem up_mid {α : Type} (pre : List α) (x : α) {n : Nat} (h : pre.length < n) (hn : n ≤ 1000000000000) : wrap64 ((pre.length : Int) + 1) = ((pre ++ [x]).length : Int) := by
  rw [w64 (by omega) (by omega)]
  simp
theorem set_mid {α : Type} (pre suf : List α) (x y : α) : (pre ++ x :: suf).set (pre.length : Int).toNat y = (pre ++ [y]) ++ suf := by
  rw [Int.toNat_natCast, List.set_append_right _ _ (Nat.le_refl _), Nat.sub_self]
  simp
theorem mid_snoc {α : Type} (pre suf : List α) (x : α) : pre ++ x :: suf = (pre ++ [x]) ++ suf := by simp
theorem beq_ints (a b : List Int) : (a == b) = decide (a = b) := by
  by_cases h : a = b <;> simp [h]
end Go.Proofs.Ytpoandlbmaljhaa.Plain

/- When two boxes, and two paths, are the same. No program. No condition. -/
set_option linter.unusedSimpArgs false
set_option linter.unusedVariables false
namespace Go.Proofs.Ytpoandlbmaljhaa.Plain
open Go.RowKit Go.Proofs.YtpoandlbmaljhaaW.PrintWords Go.Proofs.Ytpoandlbmaljhaa.Base Go.Proofs.Ytpoandlbmaljhaa.Print

theorem rdBox_mid (pre suf : List S50) (x : S50) : rd_T50 (pre ++ x :: suf) (pre.length : Int) = x := by simp [rd_T50]
/-- Its rows are not too long. -/
def okB (b : S50) : Prop := b.f1.length ≤ 1000000000000 ∧ b.f2.length ≤ 1000000000000
def eqB (a b : S50) : Bool := decide (a.f0 = b.f0) && (decide (a.f1 = b.f1) && (decide (a.f2 = b.f2) && (a.f3 == b.f3)))
def eqBs : List S50 → List S50 → Bool
  | [], [] => true
  | a :: l, b :: m => eqB a b && eqBs l m
  | _, _ => false
theorem eqBs_len {l m : List S50} : l.length ≠ m.length → eqBs l m = false := by
  induction l generalizing m with
  | nil =>
    intro h
    cases m with
    | nil => exact absurd rfl h
    | cons b m => rfl
  | cons a l ih =>
    intro h
    cases m with
    | nil => rfl
    | cons b m =>
      simp only [eqBs]
      rw [ih (by simpa using h), Bool.and_false]
end Go.Proofs.Ytpoandlbmaljhaa.Plain

/- Ranges, of the program and of the reference. No condition. -/
set_option linter.unusedSimpArgs false
set_option linter.unusedVariables false
namespace Go.Proofs.Ytpoandlbmaljhaa.Plain
open Go.RowKit Go.Proofs.YtpoandlbmaljhaaW.PrintWords Go.Proofs.Ytpoandlbmaljhaa.Base Go.Proofs.Ytpoandlbmaljhaa.Print

/-- lo ≤ n ≤ hi -/
def inR (lo hi n : Int) : Bool := decide (lo ≤ n) && decide (n ≤ hi)
theorem inR_true {lo hi n : Int} : inR lo hi n = true ↔ lo ≤ n ∧ n ≤ hi := by simp [inR]
theorem inR_false {lo hi n : Int} : inR lo hi n = false ↔ n < lo ∨ hi < n := by
  simp only [inR, Bool.and_eq_false_iff, decide_eq_false_iff_not]
  omega
theorem inRange_f (n lo hi : Int) : impl_InRange.f n lo hi = some (inR lo hi n) := by
  unfold impl_InRange.f inR
  by_cases h : lo ≤ n <;> simp [h]
theorem l1In_f (n lo hi : Int) : spec_l1In.f n lo hi = some (inR lo hi n) := by
  unfold spec_l1In.f inR
  by_cases h : lo ≤ n <;> simp [h]
end Go.Proofs.Ytpoandlbmaljhaa.Plain

/- Lists of versions: ascending, from 1 to 9; membership; what two lists share. No program. No condition. -/
set_option linter.unusedSimpArgs false
set_option linter.unusedVariables false
namespace Go.Proofs.Ytpoandlbmaljhaa.Plain
open Go.RowKit Go.Proofs.YtpoandlbmaljhaaW.PrintWords Go.Proofs.Ytpoandlbmaljhaa.Base Go.Proofs.Ytpoandlbmaljhaa.Print

/-- Versions that grow, all above p. -/
def vers : Int → List Int → Bool
  | _, [] => true
  | p, x :: l => inR 1 9 x && (decide (p < x) && vers x l)
/-- A list of versions, and not empty. -/
def areV (l : List Int) : Bool := vers 0 l && decide (0 < l.length)
/-- Is x in the list? -/
def mem (l : List Int) (x : Int) : Bool := decide (x ∈ l)
/-- What two lists share. -/
def com (a b : List Int) : List Int := a.filter (mem b)
/-- The best version that two lists share. -/
def best (a b : List Int) : Int := if areV a && areV b then (com a b).getLastD 0 else 0
theorem mem_cons (x y : Int) (l : List Int) : mem (y :: l) x = (decide (y = x) || mem l x) := by
  by_cases h : y = x
  · simp [mem, h]
  · have h' : ¬ x = y := fun e => h e.symm
    simp [mem, h, h']
theorem mem_nil (x : Int) : mem [] x = false := by simp [mem]
theorem vers_le {p q : Int} {l : List Int} (h : vers p l = true) (hq : q ≤ p) : vers q l = true := by
  cases l with
  | nil => rfl
  | cons x l =>
    simp only [vers, Bool.and_eq_true, decide_eq_true_eq] at h ⊢
    exact ⟨h.1, by omega, h.2.2⟩
theorem vers_filter (f : Int → Bool) {l : List Int} : ∀ {p : Int}, vers p l = true → vers p (l.filter f) = true := by
  induction l with
  | nil =>
    intro p h
    rfl
  | cons x l ih =>
    intro p h
    simp only [vers, Bool.and_eq_true, decide_eq_true_eq] at h
    cases hf : f x with
    | true =>
      rw [List.filter_cons_of_pos hf]
      simp only [vers, Bool.and_eq_true, decide_eq_true_eq]
      exact ⟨h.1, h.2.1, ih h.2.2⟩
    | false =>
      rw [List.filter_cons_of_neg (by simp [hf])]
      exact vers_le (ih h.2.2) (by omega)
theorem vers_len {l : List Int} : ∀ {p : Int}, vers p l = true → p ≤ 9 → (l.length : Int) ≤ 9 - p := by
  induction l with
  | nil =>
    intro p _ hp
    simp
    omega
  | cons x l ih =>
    intro p h hp
    simp only [vers, Bool.and_eq_true, decide_eq_true_eq, inR_true] at h
    have := ih h.2.2 (by omega)
    simp only [List.length_cons]
    omega
theorem areV_len {l : List Int} (h : areV l = true) : l.length ≤ 9 := by
  simp only [areV, Bool.and_eq_true] at h
  have := vers_len h.1 (by omega)
  omega
theorem vers_mem {l : List Int} : ∀ {p : Int}, vers p l = true → ∀ x ∈ l, 1 ≤ x ∧ x ≤ 9 ∧ p < x := by
  induction l with
  | nil =>
    intro p _ x hx
    cases hx
  | cons y l ih =>
    intro p h x hx
    simp only [vers, Bool.and_eq_true, decide_eq_true_eq, inR_true] at h
    cases hx with
    | head => omega
    | tail _ hx =>
      have := ih h.2.2 x hx
      omega
theorem areV_mem {l : List Int} (h : areV l = true) : ∀ x ∈ l, 1 ≤ x ∧ x ≤ 9 := by
  simp only [areV, Bool.and_eq_true] at h
  intro x hx
  have := vers_mem h.1 x hx
  omega
theorem com_len (a b : List Int) : (com a b).length ≤ a.length := List.length_filter_le _ _
theorem lastD_cons (x : Int) (l : List Int) (d : Int) : (x :: l).getLastD d = l.getLastD x := by
  cases l <;> rfl
theorem rd_lastD (pre suf : List Int) (h : pre ≠ []) : rd (pre ++ suf) ((pre.length : Int) - 1) = pre.getLastD 0 := by
  have hl : 0 < pre.length := List.length_pos_iff.mpr h
  have e : ((pre.length : Int) - 1).toNat = pre.length - 1 := by omega
  have h1 : pre.length - 1 < pre.length := by omega
  simp [rd, e, List.getD_eq_getElem?_getD, List.getElem?_append_left h1, List.getLastD_eq_getLast?, List.getLast?_eq_getElem?]
theorem lastD_mem (l : List Int) (h : l ≠ []) (d : Int) : l.getLastD d ∈ l := by
  cases l with
  | nil => exact absurd rfl h
  | cons x l => exact List.getLast_mem _
end Go.Proofs.Ytpoandlbmaljhaa.Plain

/- When a box, a list of tags and an endpoint are in form. No program. No condition. -/
set_option linter.unusedSimpArgs false
set_option linter.unusedVariables false
namespace Go.Proofs.Ytpoandlbmaljhaa.Plain
open Go.RowKit Go.Proofs.YtpoandlbmaljhaaW.PrintWords Go.Proofs.Ytpoandlbmaljhaa.Base Go.Proofs.Ytpoandlbmaljhaa.Print

def isB (b : S50) : Bool := inR 0 9 b.f0 && (decide (b.f1.length ≤ 6) && (decide (b.f2.length ≤ 6) && (b.f1.all (inR 0 255) && b.f2.all (inR 0 255))))
/-- Is a tag one of those that mean nothing? -/
def res (x : Int) : Bool := inR 0 255 x && (Int.tmod x 16 == 10)
/-- Is x above the one before it? -/
def above : Option Int → Int → Bool
  | none, _ => true
  | some p, x => decide (p < x)
def asc : Option Int → List Int → Bool
  | _, [] => true
  | o, x :: l => above o x && asc (some x) l
/-- The same with all that the reference asks of a tag. -/
def tagsS : Option Int → List Int → Bool
  | _, [] => true
  | o, x :: l => inR 0 255 x && (!res x && (above o x && tagsS (some x) l))
theorem tagsS_eq (l : List Int) : ∀ o, tagsS o l = ((asc o l && l.all (inR 0 255)) && !(l.any res)) := by
  induction l with
  | nil =>
    intro o
    rfl
  | cons x l ih =>
    intro o
    simp only [tagsS, asc, List.all_cons, List.any_cons, ih]
    cases inR 0 255 x <;> cases res x <;> cases above o x <;> cases asc (some x) l <;> cases l.all (inR 0 255) <;> cases l.any res <;> rfl
/-- Is an endpoint in form? -/
def isE (v t : List Int) (p : List S50) (c : Int) : Bool :=
  areV v && (decide (t.length ≤ 5) && ((asc none t && t.all (inR 0 255)) && (!(t.any res) && (decide (p.length ≤ 4) && (p.all isB && inR 0 5 c)))))
theorem lastO (pre suf : List Int) (h : pre ≠ []) : pre.getLast? = some (rd (pre ++ suf) ((pre.length : Int) - 1)) := by
  rw [rd_lastD pre suf h, List.getLast?_eq_some_getLast h]
  cases pre with
  | nil => exact absurd rfl h
  | cons x l => rfl
end Go.Proofs.Ytpoandlbmaljhaa.Plain

/- Extensions and hellos in form, and what a box does to a hello. No program. No condition. -/
set_option linter.unusedSimpArgs false
set_option linter.unusedVariables false
namespace Go.Proofs.Ytpoandlbmaljhaa.Plain
open Go.RowKit Go.Proofs.YtpoandlbmaljhaaW.PrintWords Go.Proofs.Ytpoandlbmaljhaa.Base Go.Proofs.Ytpoandlbmaljhaa.Print

theorem rdExt_mid (pre suf : List S69) (x : S69) : rd_T69 (pre ++ x :: suf) (pre.length : Int) = x := by simp [rd_T69]
def hasT (l : List S69) (t : Int) : Bool := l.any (fun y => decide (y.f0 = t))
/-- Are these extensions in form, behind others? -/
def areX : List S69 → List S69 → Bool
  | _, [] => true
  | pre, x :: l => inR 0 255 x.f0 && (!hasT pre x.f0 && (decide (x.f1.length ≤ 4) && (x.f1.all (inR 0 255) && areX (pre ++ [x]) l)))
def isX (l : List S69) : Bool := areX [] l && decide (l.length ≤ 6)
def isH (v : List Int) (l : List S69) : Bool := areV v && isX l
/-- Its bodies are not too long. -/
def okXs (l : List S69) : Prop := ∀ x ∈ l, x.f1.length ≤ 1000000000000
/-- Does a box drop what has this tag? -/
def drops (b : S50) (t : Int) : Bool := mem b.f1 t || (b.f3 && (!mem b.f2 t && !inR 1 3 t))
/-- Does a box lose a hello? -/
def lose (b : S50) (v : List Int) (l : List S69) : Bool := (!decide (b.f0 = 0) && decide (v.getLastD 0 > b.f0)) || l.any (fun x => drops b x.f0)
/-- What a box leaves of the extensions. -/
def kept (b : S50) (l : List S69) : List S69 := l.filter (fun x => !mem b.f2 x.f0)
def pass (b : S50) (v : List Int) (l : List S69) : List Int × List S69 × Bool :=
  if isB b && (isH v l && !lose b v l) then (v, kept b l, true) else ([], [], false)
theorem areX_body {l : List S69} : ∀ {pre}, areX pre l = true → ∀ x ∈ l, x.f1.length ≤ 4 := by
  induction l with
  | nil =>
    intro pre _ x hx
    cases hx
  | cons y l ih =>
    intro pre h x hx
    simp only [areX, Bool.and_eq_true, decide_eq_true_eq] at h
    cases hx with
    | head => exact h.2.2.1
    | tail _ hx => exact ih h.2.2.2.2 x hx
end Go.Proofs.Ytpoandlbmaljhaa.Plain

/- What a path does to a hello, and what it loses. No program. No condition. -/
set_option linter.unusedSimpArgs false
set_option linter.unusedVariables false
namespace Go.Proofs.Ytpoandlbmaljhaa.Plain
open Go.RowKit Go.Proofs.YtpoandlbmaljhaaW.PrintWords Go.Proofs.Ytpoandlbmaljhaa.Base Go.Proofs.Ytpoandlbmaljhaa.Print

def goP : List S50 → Bool → List Int → List S69 → List Int × List S69 × Bool
  | [], o, v, l => (v, l, o)
  | b :: p, o, v, l => if o then goP p (pass b v l).2.2 (pass b v l).1 (pass b v l).2.1 else (v, l, o)
def passP (p : List S50) (v : List Int) (l : List S69) : List Int × List S69 × Bool := if isH v l && decide (p.length ≤ 4) then goP p true v l else ([], [], false)
def openP (p : List S50) (v : List Int) : Bool := areV v && (passP p (v.take 1) []).2.2
def eqX (a b : S69) : Bool := decide (a.f0 = b.f0) && decide (a.f1 = b.f1)
def eqXs : List S69 → List S69 → Bool
  | [], [] => true
  | a :: l, b :: m => eqX a b && eqXs l m
  | _, _ => false
def whole (v : List Int) (l : List S69) (p : List S50) : Bool := (passP p v l).2.2 && (decide ((passP p v l).1 = v) && eqXs (passP p v l).2.1 l)
/-- The tags that a path loses. -/
def lostT (p : List S50) (v : List Int) (l : List S69) : List Int := if openP p v && isX l then (l.filter (fun x => !whole (v.take 1) [x] p)).map (·.f0) else []
theorem eqXs_len {l m : List S69} : l.length ≠ m.length → eqXs l m = false := by
  induction l generalizing m with
  | nil =>
    intro h
    cases m with
    | nil => exact absurd rfl h
    | cons b m => rfl
  | cons a l ih =>
    intro h
    cases m with
    | nil => rfl
    | cons b m =>
      simp only [eqXs]
      rw [ih (by simpa using h), Bool.and_false]
theorem kept_len (b : S50) (l : List S69) : (kept b l).length ≤ l.length := List.length_filter_le _ _
theorem kept_ok {b : S50} {l : List S69} (h : okXs l) : okXs (kept b l) := fun x hx => h x (List.mem_filter.mp hx).1
theorem pass_ok (b : S50) (v : List Int) (l : List S69) (h : okXs l) : (pass b v l).1.length ≤ v.length ∧ (pass b v l).2.1.length ≤ l.length ∧ okXs (pass b v l).2.1 := by
  unfold pass
  split
  · exact ⟨Nat.le_refl _, kept_len b l, kept_ok h⟩
  · exact ⟨Nat.zero_le _, Nat.zero_le _, fun x hx => by cases hx⟩
theorem goP_ok (p : List S50) : ∀ (o : Bool) (v : List Int) (l : List S69), okXs l → (goP p o v l).1.length ≤ v.length ∧ (goP p o v l).2.1.length ≤ l.length ∧ okXs (goP p o v l).2.1 := by
  induction p with
  | nil =>
    intro o v l h
    exact ⟨Nat.le_refl _, Nat.le_refl _, h⟩
  | cons b p ih =>
    intro o v l h
    unfold goP
    split
    · obtain ⟨a1, a2, a3⟩ := pass_ok b v l h
      obtain ⟨b1, b2, b3⟩ := ih (pass b v l).2.2 (pass b v l).1 (pass b v l).2.1 a3
      exact ⟨Nat.le_trans b1 a1, Nat.le_trans b2 a2, b3⟩
    · exact ⟨Nat.le_refl _, Nat.le_refl _, h⟩
theorem passP_ok (p : List S50) (v : List Int) (l : List S69) (h : okXs l) : (passP p v l).1.length ≤ v.length ∧ (passP p v l).2.1.length ≤ l.length ∧ okXs (passP p v l).2.1 := by
  unfold passP
  split
  · exact goP_ok p true v l h
  · exact ⟨Nat.zero_le _, Nat.zero_le _, fun x hx => by cases hx⟩
end Go.Proofs.Ytpoandlbmaljhaa.Plain

/- The tags that mean nothing, and when a box refuses one of them. No program. No condition. -/
set_option linter.unusedSimpArgs false
set_option linter.unusedVariables false
namespace Go.Proofs.Ytpoandlbmaljhaa.Plain
open Go.RowKit Go.Proofs.YtpoandlbmaljhaaW.PrintWords Go.Proofs.Ytpoandlbmaljhaa.Base Go.Proofs.Ytpoandlbmaljhaa.Print

/-- So many of the tags that mean nothing, from the n-th on. -/
def greases (n : Nat) : Nat → List Int
  | 0 => []
  | m + 1 => (10 + 16 * (n : Int)) :: greases (n + 1) m
def one (t : Int) : S69 := ⟨t, []⟩
/-- Does a box refuse a hello with this tag alone? -/
def refuse (b : S50) (t : Int) : Bool := !(pass b [1] [one t]).2.2 || decide ((pass b [1] [one t]).2.1.length = 0)
def refuses (b : S50) : Bool := isB b && (greases 0 16).any (refuse b)
end Go.Proofs.Ytpoandlbmaljhaa.Plain

/- On an open path a tag that means nothing is lost if and only if some box refuses it. No program. No condition. -/
set_option linter.unusedSimpArgs false
set_option linter.unusedVariables false
namespace Go.Proofs.Ytpoandlbmaljhaa.Plain
open Go.RowKit Go.Proofs.YtpoandlbmaljhaaW.PrintWords Go.Proofs.Ytpoandlbmaljhaa.Base Go.Proofs.Ytpoandlbmaljhaa.Print

/-- A box drops or strips a tag. -/
def touch (b : S50) (t : Int) : Bool := drops b t || mem b.f2 t
theorem greases_in {t : Int} (m : Nat) : ∀ n, t ∈ greases n m ↔ ∃ i : Nat, n ≤ i ∧ i < n + m ∧ t = 10 + 16 * (i : Int) := by
  induction m with
  | zero =>
    intro n
    simp only [greases, List.not_mem_nil, false_iff]
    rintro ⟨i, h1, h2, _⟩
    omega
  | succ m ih =>
    intro n
    simp only [greases, List.mem_cons, ih]
    constructor
    · rintro (h | ⟨i, h1, h2, h3⟩)
      · exact ⟨n, by omega, by omega, h⟩
      · exact ⟨i, by omega, by omega, h3⟩
    · rintro ⟨i, h1, h2, h3⟩
      by_cases h : i = n
      · exact .inl (by rw [h3, h])
      · exact .inr ⟨i, by omega, by omega, h3⟩
theorem grease_in {t : Int} (h : t ∈ greases 0 16) : 0 ≤ t ∧ t ≤ 255 := by
  obtain ⟨i, _, h2, h3⟩ := (greases_in 16 0).mp h
  omega
theorem isX_one {t : Int} (h0 : 0 ≤ t) (h1 : t ≤ 255) : isX [one t] = true := by
  have : inR 0 255 t = true := inR_true.mpr ⟨h0, h1⟩
  simp [isX, areX, one, hasT, this]
theorem kept_one (b : S50) (t : Int) : kept b [one t] = if mem b.f2 t then [] else [one t] := by
  cases h : mem b.f2 t <;> simp [kept, one, h]
theorem refuse_eq {b : S50} {t : Int} (hb : isB b = true) (h0 : 0 ≤ t) (h1 : t ≤ 255) : refuse b t = touch b t := by
  have hh : isH [1] [one t] = true := by
    rw [isH, isX_one h0 h1]
    decide
  have hl : lose b [1] [one t] = drops b t := by
    simp only [isB, Bool.and_eq_true, inR_true] at hb
    have : (!decide (b.f0 = 0) && decide (([1] : List Int).getLastD 0 > b.f0)) = false := by
      by_cases h : b.f0 = 0
      · simp [h]
      · have : ¬ (1 : Int) > b.f0 := by omega
        simp [this]
    rw [lose, this]
    simp [one]
  unfold refuse pass touch
  rw [hb, hh, hl, kept_one]
  cases drops b t with
  | true => simp
  | false => cases mem b.f2 t <;> simp [one]
/-- A box that a hello without extensions passes. -/
def clearB (b : S50) (x : Int) : Bool := isB b && !(!decide (b.f0 = 0) && decide (x > b.f0))
theorem pass_none (b : S50) (x : Int) (hx : areV [x] = true) : pass b [x] [] = if clearB b x then ([x], [], true) else ([], [], false) := by
  have hh : isH [x] [] = true := by
    rw [isH, hx]
    decide
  unfold pass clearB
  rw [hh]
  simp [lose, kept]
theorem goP_none (x : Int) (hx : areV [x] = true) (p : List S50) : (goP p true [x] []).2.2 = p.all (fun b => clearB b x) ∧ (p.all (fun b => clearB b x) = true → goP p true [x] [] = ([x], [], true)) := by
  induction p with
  | nil => exact ⟨rfl, fun _ => rfl⟩
  | cons b p ih =>
    simp only [goP, if_true, pass_none b x hx, List.all_cons]
    cases hc : clearB b x with
    | true =>
      simp only [if_true, Bool.true_and]
      exact ih
    | false =>
      simp only [Bool.false_eq_true, if_false, Bool.false_and, false_imp_iff, and_true]
      cases p <;> simp [goP]
theorem pass_one (b : S50) (x t : Int) (hx : areV [x] = true) (h0 : 0 ≤ t) (h1 : t ≤ 255) (hc : clearB b x = true) : pass b [x] [one t] = if drops b t then ([], [], false) else ([x], if mem b.f2 t then [] else [one t], true) := by
  have hh : isH [x] [one t] = true := by
    rw [isH, hx, isX_one h0 h1]
    rfl
  simp only [clearB, Bool.and_eq_true, Bool.not_eq_true'] at hc
  unfold pass
  have hl : lose b [x] [one t] = drops b t := by
    unfold lose
    rw [show ([x] : List Int).getLastD 0 = x from rfl, hc.2]
    simp [one]
  rw [hc.1, hh, hl, kept_one]
  cases drops b t <;> simp
theorem goP_off (p : List S50) : goP p false [] [] = ([], [], false) := by
  cases p <;> simp [goP]
theorem goP_one (x t : Int) (hx : areV [x] = true) (h0 : 0 ≤ t) (h1 : t ≤ 255) (p : List S50) : p.all (fun b => clearB b x) = true →
    ((goP p true [x] [one t]).2.2 && (decide ((goP p true [x] [one t]).1 = [x]) && eqXs (goP p true [x] [one t]).2.1 [one t])) = !(p.any (fun b => touch b t)) := by
  induction p with
  | nil =>
    intro _
    simp [goP, eqXs, eqX]
  | cons b p ih =>
    intro ha
    simp only [List.all_cons, Bool.and_eq_true] at ha
    simp only [goP, if_true, pass_one b x t hx h0 h1 ha.1, List.any_cons, touch]
    cases drops b t with
    | true => simp [goP_off]
    | false =>
      cases mem b.f2 t with
      | true =>
        have := (goP_none x hx p).2 ha.2
        simp [this, eqXs]
      | false =>
        have := ih ha.2
        simpa [touch] using this
/-- An open path. -/
theorem open_eq {p : List S50} {v : List Int} (h : openP p v = true) : ∃ x, v.take 1 = [x] ∧ areV [x] = true ∧ p.length ≤ 4 ∧ p.all (fun b => clearB b x) = true := by
  simp only [openP, Bool.and_eq_true] at h
  obtain ⟨h1, h2⟩ := h
  match v, h1, h2 with
  | [], h1, _ => simp [areV] at h1
  | x :: v, h1, h2 =>
    have hx : areV [x] = true := by
      simp only [areV, vers, Bool.and_eq_true, decide_eq_true_eq] at h1 ⊢
      exact ⟨⟨h1.1.1, h1.1.2.1, trivial⟩, by simp⟩
    refine ⟨x, rfl, hx, ?_⟩
    have h2 : (passP p [x] []).2.2 = true := h2
    unfold passP at h2
    by_cases hc : (isH [x] [] && decide (p.length ≤ 4)) = true
    · rw [if_pos hc] at h2
      simp only [Bool.and_eq_true, decide_eq_true_eq] at hc
      exact ⟨hc.2, by rw [← (goP_none x hx p).1]; exact h2⟩
    · rw [if_neg hc] at h2
      cases h2
/-- Does a path lose a tag? -/
def isLo (p : List S50) (v : List Int) (t : Int) : Bool := decide ((lostT p v [one t]).length > 0)
theorem isLo_open {p : List S50} {v : List Int} {t : Int} (h : openP p v = true) (h0 : 0 ≤ t) (h1 : t ≤ 255) : isLo p v t = p.any (fun b => touch b t) := by
  obtain ⟨x, hv, hx, hp, ha⟩ := open_eq h
  have hh : isH [x] [one t] = true := by
    rw [isH, hx, isX_one h0 h1]
    rfl
  have hw : whole (v.take 1) [one t] p = !(p.any (fun b => touch b t)) := by
    rw [whole, hv, passP, hh]
    simp only [Bool.true_and, hp, decide_true, if_true]
    exact goP_one x t hx h0 h1 p ha
  unfold isLo lostT
  rw [h, isX_one h0 h1]
  simp only [Bool.and_self, if_true, List.filter_cons, List.filter_nil, hw, Bool.not_not]
  cases p.any (fun b => touch b t) <;> simp
theorem isLo_shut {p : List S50} {v : List Int} {t : Int} (h : openP p v = false) : isLo p v t = false := by
  unfold isLo lostT
  rw [h]
  simp
/-- How many of these tags a path loses. -/
def hard (p : List S50) (v : List Int) : List Int → Int
  | [] => 0
  | t :: l => (if isLo p v t then 1 else 0) + hard p v l
theorem hard_in (p : List S50) (v : List Int) (l : List Int) : 0 ≤ hard p v l ∧ hard p v l ≤ l.length ∧ (hard p v l > 0 ↔ l.any (isLo p v) = true) := by
  induction l with
  | nil => simp [hard]
  | cons t l ih =>
    obtain ⟨h0, h1, h2⟩ := ih
    simp only [hard, List.length_cons, List.any_cons]
    cases ht : isLo p v t with
    | true =>
      rw [if_pos rfl]
      refine ⟨by omega, by omega, ?_⟩
      rw [Bool.true_or]
      exact ⟨fun _ => rfl, fun _ => by omega⟩
    | false =>
      rw [if_neg (by simp), Int.zero_add, Bool.false_or]
      exact ⟨h0, by omega, h2⟩
/-- Some tag is lost if and only if some box refuses one. -/
theorem hard_iff {p : List S50} {v : List Int} (h : openP p v = true) : hard p v (greases 0 16) > 0 ↔ ∃ b ∈ p, refuses b = true := by
  obtain ⟨x, hv, hx, hp, ha⟩ := open_eq h
  rw [(hard_in p v _).2.2, List.any_eq_true]
  simp only [List.all_eq_true] at ha
  constructor
  · rintro ⟨t, ht, hl⟩
    have hb := grease_in ht
    rw [isLo_open h hb.1 hb.2, List.any_eq_true] at hl
    obtain ⟨b, hm, hb2⟩ := hl
    have hc := ha b hm
    simp only [clearB, Bool.and_eq_true] at hc
    refine ⟨b, hm, ?_⟩
    rw [refuses, hc.1, Bool.true_and, List.any_eq_true]
    exact ⟨t, ht, by rw [refuse_eq hc.1 hb.1 hb.2]; exact hb2⟩
  · rintro ⟨b, hm, hr⟩
    simp only [refuses, Bool.and_eq_true, List.any_eq_true] at hr
    obtain ⟨hi, t, ht, hf⟩ := hr
    have hb := grease_in ht
    rw [refuse_eq hi hb.1 hb.2] at hf
    exact ⟨t, ht, by rw [isLo_open h hb.1 hb.2, List.any_eq_true]; exact ⟨b, hm, hf⟩⟩
/-- A box that refuses is not clear. -/
theorem refuses_not {b : S50} (h : refuses b = true) : ¬ (b.f1 = [] ∧ b.f2 = [] ∧ b.f3 = false) := by
  rintro ⟨h1, h2, h3⟩
  simp only [refuses, Bool.and_eq_true, List.any_eq_true] at h
  obtain ⟨hi, t, ht, hf⟩ := h
  have hb := grease_in ht
  rw [refuse_eq hi hb.1 hb.2] at hf
  simp [touch, drops, h1, h2, h3, mem] at hf
end Go.Proofs.Ytpoandlbmaljhaa.Plain

/- Written by a program of this session (limx.py): the equations of what the printed functions come to. No condition. -/
namespace Go.Proofs.Ytpoandlbmaljhaa.Print
open Go.RowKit Go.Proofs.YtpoandlbmaljhaaW.PrintWords Go.Proofs.YtpoandlbmaljhaaW.PrintLast Go.Proofs.Ytpoandlbmaljhaa.Base
set_option linter.unusedVariables false
set_option maxRecDepth 20000
noncomputable def laws_toIntS.l0v (x0 : List Int) (x3 : List Int) (x4 : Int) : Option (List Int) := Lim fun k => laws_toIntS.l0 k x0 x3 x4
noncomputable def laws_toIntS.fv (l0 : List Int) : Option (List Int) := Lim fun k => laws_toIntS.f k l0
theorem laws_toIntS.l0_is (x0 : List Int) (x3 : List Int) (x4 : Int) : Is (fun k => laws_toIntS.l0 k x0 x3 x4) (laws_toIntS.l0v x0 x3 x4) := ⟨fun k => (laws_toIntS.mono_l k) x0 x3 x4, rfl⟩
theorem laws_toIntS.f_is (l0 : List Int) : Is (fun k => laws_toIntS.f k l0) (laws_toIntS.fv l0) := ⟨fun k => laws_toIntS.mono l0 k, rfl⟩
theorem laws_toIntS.l0v_eq (x0 : List Int) (x3 : List Int) (x4 : Int) : laws_toIntS.l0v x0 x3 x4 = if x4 < (x0.length : Int) then (if 0 ≤ x4 then (if x4 < (x3.length : Int) then (laws_toIntS.l0v x0 (x3.set (x4 : Int).toNat (rd x0 x4)) (wrap64 (x4 + 1))) else (none)) else (none)) else (some x3) := by
  refine Is.step (laws_toIntS.l0_is x0 x3 x4).mo (fun k => by rw [laws_toIntS.l0]) ?_
  · skip
    repeat' first
    | with_reducible exact laws_toIntS.l0_is _ _ _
    | with_reducible exact Is.now _
    | with_reducible refine Is.ite ?_ ?_
    | with_reducible refine Is.bind ?_ (fun _ => ?_)
theorem laws_toIntS.fv_eq (l0 : List Int) : laws_toIntS.fv l0 = if 0 ≤ (l0.length : Int) then (if ((l0.length : Int) : Int).toNat ≤ 35184372088832 then (laws_toIntS.l0v l0 (List.replicate ((l0.length : Int) : Int).toNat 0) 0) else (none)) else (none) := by
  refine Is.lim (g := fun k => laws_toIntS.f k l0) ?_
  · unfold laws_toIntS.f
    repeat' first
    | with_reducible exact laws_toIntS.l0_is _ _ _
    | with_reducible exact Is.now _
    | with_reducible refine Is.ite ?_ ?_
    | with_reducible refine Is.bind ?_ (fun _ => ?_)
noncomputable def laws_toBox.fv (a0_0 : Int) (l0_1 : List Int) (l0_2 : List Int) (a0_3 : Bool) : Option (Int × List Int × List Int × Bool) := Lim fun k => laws_toBox.f k a0_0 l0_1 l0_2 a0_3
theorem laws_toBox.f_is (a0_0 : Int) (l0_1 : List Int) (l0_2 : List Int) (a0_3 : Bool) : Is (fun k => laws_toBox.f k a0_0 l0_1 l0_2 a0_3) (laws_toBox.fv a0_0 l0_1 l0_2 a0_3) := ⟨fun k => laws_toBox.mono a0_0 l0_1 l0_2 a0_3 k, rfl⟩
theorem laws_toBox.fv_eq (a0_0 : Int) (l0_1 : List Int) (l0_2 : List Int) (a0_3 : Bool) : laws_toBox.fv a0_0 l0_1 l0_2 a0_3 = (laws_toIntS.fv l0_1).bind fun t295 => ((laws_toIntS.fv l0_2).bind fun t298 => (some (a0_0, t295, t298, a0_3))) := by
  refine Is.lim (g := fun k => laws_toBox.f k a0_0 l0_1 l0_2 a0_3) ?_
  · unfold laws_toBox.f
    repeat' first
    | with_reducible exact laws_toIntS.f_is _
    | with_reducible exact Is.now _
    | with_reducible refine Is.ite ?_ ?_
    | with_reducible refine Is.bind ?_ (fun _ => ?_)
noncomputable def laws_toBoxS.l0v (x0 : List (S46)) (x3 : List (S50)) (x4 : Int) : Option ((List (S50))) := Lim fun k => laws_toBoxS.l0 k x0 x3 x4
noncomputable def laws_toBoxS.fv (l0 : List (S46)) : Option ((List (S50))) := Lim fun k => laws_toBoxS.f k l0
theorem laws_toBoxS.l0_is (x0 : List (S46)) (x3 : List (S50)) (x4 : Int) : Is (fun k => laws_toBoxS.l0 k x0 x3 x4) (laws_toBoxS.l0v x0 x3 x4) := ⟨fun k => (laws_toBoxS.mono_l k) x0 x3 x4, rfl⟩
theorem laws_toBoxS.f_is (l0 : List (S46)) : Is (fun k => laws_toBoxS.f k l0) (laws_toBoxS.fv l0) := ⟨fun k => laws_toBoxS.mono l0 k, rfl⟩
theorem laws_toBoxS.l0v_eq (x0 : List (S46)) (x3 : List (S50)) (x4 : Int) : laws_toBoxS.l0v x0 x3 x4 = if x4 < (x0.length : Int) then (if 0 ≤ x4 then ((laws_toBox.fv ((rd_T46 x0 x4).f0) ((rd_T46 x0 x4).f1) ((rd_T46 x0 x4).f2) ((rd_T46 x0 x4).f3)).bind fun bt305 => (if x4 < (x3.length : Int) then (laws_toBoxS.l0v x0 (x3.set (x4 : Int).toNat (⟨bt305.1, bt305.2.1, bt305.2.2.1, bt305.2.2.2⟩ : S50)) (wrap64 (x4 + 1))) else (none))) else (none)) else (some x3) := by
  refine Is.step (laws_toBoxS.l0_is x0 x3 x4).mo (fun k => by rw [laws_toBoxS.l0]) ?_
  · skip
    repeat' first
    | with_reducible exact laws_toBox.f_is _ _ _ _
    | with_reducible exact laws_toBoxS.l0_is _ _ _
    | with_reducible exact Is.now _
    | with_reducible refine Is.ite ?_ ?_
    | with_reducible refine Is.bind ?_ (fun _ => ?_)
theorem laws_toBoxS.fv_eq (l0 : List (S46)) : laws_toBoxS.fv l0 = if 0 ≤ (l0.length : Int) then (if ((l0.length : Int) : Int).toNat ≤ 4398046511104 then (laws_toBoxS.l0v l0 (List.replicate ((l0.length : Int) : Int).toNat z50) 0) else (none)) else (none) := by
  refine Is.lim (g := fun k => laws_toBoxS.f k l0) ?_
  · unfold laws_toBoxS.f
    repeat' first
    | with_reducible exact laws_toBoxS.l0_is _ _ _
    | with_reducible exact Is.now _
    | with_reducible refine Is.ite ?_ ?_
    | with_reducible refine Is.bind ?_ (fun _ => ?_)
noncomputable def impl_reservedTags.l0v (x1 : List Int) (x2 : Int) : Option (List Int) := Lim fun k => impl_reservedTags.l0 k x1 x2
noncomputable def impl_reservedTags.fv : Option (List Int) := Lim fun k => impl_reservedTags.f k
theorem impl_reservedTags.l0_is (x1 : List Int) (x2 : Int) : Is (fun k => impl_reservedTags.l0 k x1 x2) (impl_reservedTags.l0v x1 x2) := ⟨fun k => (impl_reservedTags.mono_l k) x1 x2, rfl⟩
theorem impl_reservedTags.f_is : Is (fun k => impl_reservedTags.f k) (impl_reservedTags.fv) := ⟨fun k => impl_reservedTags.mono k, rfl⟩
theorem impl_reservedTags.l0v_eq (x1 : List Int) (x2 : Int) : impl_reservedTags.l0v x1 x2 = if x2 < 256 then (if x1.length < 17592186044416 then (impl_reservedTags.l0v (x1 ++ [x2]) (wrap64 (x2 + 16))) else (none)) else (some x1) := by
  refine Is.step (impl_reservedTags.l0_is x1 x2).mo (fun k => by rw [impl_reservedTags.l0]) ?_
  · skip
    repeat' first
    | with_reducible exact impl_reservedTags.l0_is _ _
    | with_reducible exact Is.now _
    | with_reducible refine Is.ite ?_ ?_
    | with_reducible refine Is.bind ?_ (fun _ => ?_)
theorem impl_reservedTags.fv_eq : impl_reservedTags.fv = impl_reservedTags.l0v (([] : List Int)) 10 := by
  refine Is.lim (g := fun k => impl_reservedTags.f k) ?_
  · unfold impl_reservedTags.f
    repeat' first
    | with_reducible exact impl_reservedTags.l0_is _ _
    | with_reducible exact Is.now _
    | with_reducible refine Is.ite ?_ ?_
    | with_reducible refine Is.bind ?_ (fun _ => ?_)
noncomputable def impl_AreVersions.l0v (x0 : List Int) (x5 : List Int) (x6 : Int) (x7 : Int) : Option (Bool) := Lim fun k => impl_AreVersions.l0 k x0 x5 x6 x7
noncomputable def impl_AreVersions.fv (l0 : List Int) : Option (Bool) := Lim fun k => impl_AreVersions.f k l0
theorem impl_AreVersions.l0_is (x0 : List Int) (x5 : List Int) (x6 : Int) (x7 : Int) : Is (fun k => impl_AreVersions.l0 k x0 x5 x6 x7) (impl_AreVersions.l0v x0 x5 x6 x7) := ⟨fun k => (impl_AreVersions.mono_l k) x0 x5 x6 x7, rfl⟩
theorem impl_AreVersions.f_is (l0 : List Int) : Is (fun k => impl_AreVersions.f k l0) (impl_AreVersions.fv l0) := ⟨fun k => impl_AreVersions.mono l0 k, rfl⟩
theorem impl_AreVersions.l0v_eq (x0 : List Int) (x5 : List Int) (x6 : Int) (x7 : Int) : impl_AreVersions.l0v x0 x5 x6 x7 = if x7 < x6 then (if 0 ≤ x7 then (if x7 < (x5.length : Int) then ((impl_InRange.f (rd x5 x7) 1 9).bind fun t321 => (if t321 = true then (if x7 > 0 then (if 0 ≤ (wrap64 (x7 - 1)) then (if (wrap64 (x7 - 1)) < (x0.length : Int) then (if (rd x0 (wrap64 (x7 - 1))) ≥ (rd x5 x7) then (some false) else (impl_AreVersions.l0v x0 x5 x6 (wrap64 (x7 + 1)))) else (none)) else (none)) else (impl_AreVersions.l0v x0 x5 x6 (wrap64 (x7 + 1)))) else (some false))) else (none)) else (none)) else (some (decide ((x0.length : Int) > 0))) := by
  refine Is.step (impl_AreVersions.l0_is x0 x5 x6 x7).mo (fun k => by rw [impl_AreVersions.l0]) ?_
  · skip
    repeat' first
    | with_reducible exact impl_AreVersions.l0_is _ _ _ _
    | with_reducible exact Is.now _
    | with_reducible refine Is.ite ?_ ?_
    | with_reducible refine Is.bind ?_ (fun _ => ?_)
theorem impl_AreVersions.fv_eq (l0 : List Int) : impl_AreVersions.fv l0 = impl_AreVersions.l0v l0 l0 (l0.length : Int) 0 := by
  refine Is.lim (g := fun k => impl_AreVersions.f k l0) ?_
  · unfold impl_AreVersions.f
    repeat' first
    | with_reducible exact impl_AreVersions.l0_is _ _ _ _
    | with_reducible exact Is.now _
    | with_reducible refine Is.ite ?_ ?_
    | with_reducible refine Is.bind ?_ (fun _ => ?_)
noncomputable def slices_IndexFunc_int_int_with_impl_areNumbers_1.l0v (x0 : List Int) (x7 : Int) (x8 : Int) (x2000 : Int) (x3000 : Int) : Option (Int) := Lim fun k => slices_IndexFunc_int_int_with_impl_areNumbers_1.l0 k x0 x7 x8 x2000 x3000
noncomputable def slices_IndexFunc_int_int_with_impl_areNumbers_1.fv (l0 : List Int) (a1_0 : Int) (a2_0 : Int) : Option (Int) := Lim fun k => slices_IndexFunc_int_int_with_impl_areNumbers_1.f k l0 a1_0 a2_0
theorem slices_IndexFunc_int_int_with_impl_areNumbers_1.l0_is (x0 : List Int) (x7 : Int) (x8 : Int) (x2000 : Int) (x3000 : Int) : Is (fun k => slices_IndexFunc_int_int_with_impl_areNumbers_1.l0 k x0 x7 x8 x2000 x3000) (slices_IndexFunc_int_int_with_impl_areNumbers_1.l0v x0 x7 x8 x2000 x3000) := ⟨fun k => (slices_IndexFunc_int_int_with_impl_areNumbers_1.mono_l k) x0 x7 x8 x2000 x3000, rfl⟩
theorem slices_IndexFunc_int_int_with_impl_areNumbers_1.f_is (l0 : List Int) (a1_0 : Int) (a2_0 : Int) : Is (fun k => slices_IndexFunc_int_int_with_impl_areNumbers_1.f k l0 a1_0 a2_0) (slices_IndexFunc_int_int_with_impl_areNumbers_1.fv l0 a1_0 a2_0) := ⟨fun k => slices_IndexFunc_int_int_with_impl_areNumbers_1.mono l0 a1_0 a2_0 k, rfl⟩
theorem slices_IndexFunc_int_int_with_impl_areNumbers_1.l0v_eq (x0 : List Int) (x7 : Int) (x8 : Int) (x2000 : Int) (x3000 : Int) : slices_IndexFunc_int_int_with_impl_areNumbers_1.l0v x0 x7 x8 x2000 x3000 = if x8 < x7 then (if 0 ≤ x8 then (if x8 < (x0.length : Int) then ((impl_areNumbers_1.f (rd x0 x8) x2000 x3000).bind fun t325 => (if t325 = true then (some x8) else (slices_IndexFunc_int_int_with_impl_areNumbers_1.l0v x0 x7 (wrap64 (x8 + 1)) x2000 x3000))) else (none)) else (none)) else (some (-1)) := by
  refine Is.step (slices_IndexFunc_int_int_with_impl_areNumbers_1.l0_is x0 x7 x8 x2000 x3000).mo (fun k => by rw [slices_IndexFunc_int_int_with_impl_areNumbers_1.l0]) ?_
  · skip
    repeat' first
    | with_reducible exact slices_IndexFunc_int_int_with_impl_areNumbers_1.l0_is _ _ _ _ _
    | with_reducible exact Is.now _
    | with_reducible refine Is.ite ?_ ?_
    | with_reducible refine Is.bind ?_ (fun _ => ?_)
theorem slices_IndexFunc_int_int_with_impl_areNumbers_1.fv_eq (l0 : List Int) (a1_0 : Int) (a2_0 : Int) : slices_IndexFunc_int_int_with_impl_areNumbers_1.fv l0 a1_0 a2_0 = slices_IndexFunc_int_int_with_impl_areNumbers_1.l0v l0 (l0.length : Int) 0 a1_0 a2_0 := by
  refine Is.lim (g := fun k => slices_IndexFunc_int_int_with_impl_areNumbers_1.f k l0 a1_0 a2_0) ?_
  · unfold slices_IndexFunc_int_int_with_impl_areNumbers_1.f
    repeat' first
    | with_reducible exact slices_IndexFunc_int_int_with_impl_areNumbers_1.l0_is _ _ _ _ _
    | with_reducible exact Is.now _
    | with_reducible refine Is.ite ?_ ?_
    | with_reducible refine Is.bind ?_ (fun _ => ?_)
noncomputable def slices_ContainsFunc_int_int_with_impl_areNumbers_1.fv (l0 : List Int) (a1_0 : Int) (a2_0 : Int) : Option (Bool) := Lim fun k => slices_ContainsFunc_int_int_with_impl_areNumbers_1.f k l0 a1_0 a2_0
theorem slices_ContainsFunc_int_int_with_impl_areNumbers_1.f_is (l0 : List Int) (a1_0 : Int) (a2_0 : Int) : Is (fun k => slices_ContainsFunc_int_int_with_impl_areNumbers_1.f k l0 a1_0 a2_0) (slices_ContainsFunc_int_int_with_impl_areNumbers_1.fv l0 a1_0 a2_0) := ⟨fun k => slices_ContainsFunc_int_int_with_impl_areNumbers_1.mono l0 a1_0 a2_0 k, rfl⟩
theorem slices_ContainsFunc_int_int_with_impl_areNumbers_1.fv_eq (l0 : List Int) (a1_0 : Int) (a2_0 : Int) : slices_ContainsFunc_int_int_with_impl_areNumbers_1.fv l0 a1_0 a2_0 = (slices_IndexFunc_int_int_with_impl_areNumbers_1.fv l0 a1_0 a2_0).bind fun t326 => (some (decide (t326 ≥ 0))) := by
  refine Is.lim (g := fun k => slices_ContainsFunc_int_int_with_impl_areNumbers_1.f k l0 a1_0 a2_0) ?_
  · unfold slices_ContainsFunc_int_int_with_impl_areNumbers_1.f
    repeat' first
    | with_reducible exact slices_IndexFunc_int_int_with_impl_areNumbers_1.f_is _ _ _
    | with_reducible exact Is.now _
    | with_reducible refine Is.ite ?_ ?_
    | with_reducible refine Is.bind ?_ (fun _ => ?_)
noncomputable def impl_areNumbers.fv (l0 : List Int) (a1 : Int) (a2 : Int) : Option (Bool) := Lim fun k => impl_areNumbers.f k l0 a1 a2
theorem impl_areNumbers.f_is (l0 : List Int) (a1 : Int) (a2 : Int) : Is (fun k => impl_areNumbers.f k l0 a1 a2) (impl_areNumbers.fv l0 a1 a2) := ⟨fun k => impl_areNumbers.mono l0 a1 a2 k, rfl⟩
theorem impl_areNumbers.fv_eq (l0 : List Int) (a1 : Int) (a2 : Int) : impl_areNumbers.fv l0 a1 a2 = (slices_ContainsFunc_int_int_with_impl_areNumbers_1.fv l0 a1 a2).bind fun t329 => (some (!t329)) := by
  refine Is.lim (g := fun k => impl_areNumbers.f k l0 a1 a2) ?_
  · unfold impl_areNumbers.f
    repeat' first
    | with_reducible exact slices_ContainsFunc_int_int_with_impl_areNumbers_1.f_is _ _ _
    | with_reducible exact Is.now _
    | with_reducible refine Is.ite ?_ ?_
    | with_reducible refine Is.bind ?_ (fun _ => ?_)
end Go.Proofs.Ytpoandlbmaljhaa.Print

/- AreVersions, of the program. Condition: at most 10 to the 12 numbers. -/
set_option linter.unusedSimpArgs false
set_option linter.unusedVariables false
namespace Go.Proofs.Ytpoandlbmaljhaa.Plain
open Go.RowKit Go.Proofs.YtpoandlbmaljhaaW.PrintWords Go.Proofs.Ytpoandlbmaljhaa.Base Go.Proofs.Ytpoandlbmaljhaa.Print

theorem implVers_l0 (suf : List Int) : ∀ pre : List Int, (pre ++ suf).length ≤ 1000000000000 →
    impl_AreVersions.l0v (pre ++ suf) (pre ++ suf) ((pre ++ suf).length : Int) (pre.length : Int) = some (vers (pre.getLastD 0) suf && decide (0 < (pre ++ suf).length)) := by
  induction suf with
  | nil =>
    intro pre hl
    rw [impl_AreVersions.l0v_eq, if_neg (nlt_end pre)]
    by_cases h : 0 < pre.length <;> simp [vers, h]
  | cons x suf ih =>
    intro pre hl
    have hn : pre.length < (pre ++ x :: suf).length := by simp
    rw [impl_AreVersions.l0v_eq, if_pos (lt_mid pre suf x), if_pos (by omega), if_pos (lt_mid pre suf x), rd_mid, inRange_f]
    simp only [Option.bind_some, vers]
    cases hx : inR 1 9 x with
    | false => simp
    | true =>
      rw [if_pos rfl, up_mid pre x hn hl]
      have h1 := ih (pre ++ [x]) (by simpa using hl)
      rw [← mid_snoc pre suf x] at h1
      rw [h1]
      have hr := inR_true.mp hx
      by_cases hp : pre = []
      · subst hp
        rw [if_neg (by simp)]
        have h0 : (0 : Int) < x := by omega
        simp [h0]
      · have hpl : 0 < pre.length := List.length_pos_iff.mpr hp
        rw [if_pos (by omega), w64 (x := (pre.length : Int) - 1) (by omega) (by omega), if_pos (by omega), if_pos (by omega), rd_lastD pre _ hp]
        by_cases hlt : pre.getLastD 0 < x
        · rw [if_neg (by omega)]
          generalize pre.getLastD 0 = q at hlt
          simp [hlt]
        · rw [if_pos (by omega)]
          generalize pre.getLastD 0 = q at hlt
          simp [hlt]
theorem implVers_v (l : List Int) (hl : l.length ≤ 1000000000000) : impl_AreVersions.fv l = some (areV l) := by
  rw [impl_AreVersions.fv_eq]
  simpa [areV] using implVers_l0 l [] (by simpa using hl)
end Go.Proofs.Ytpoandlbmaljhaa.Plain

/- Lists of numbers in a range. Condition: the slice has at most 10 to the 12 numbers. -/
set_option linter.unusedSimpArgs false
set_option linter.unusedVariables false
namespace Go.Proofs.Ytpoandlbmaljhaa.Plain
open Go.RowKit Go.Proofs.YtpoandlbmaljhaaW.PrintWords Go.Proofs.Ytpoandlbmaljhaa.Base Go.Proofs.Ytpoandlbmaljhaa.Print

theorem areNumbers_l0 (lo hi : Int) (suf : List Int) : ∀ (pre : List Int), (pre ++ suf).length ≤ 1000000000000 →
    ∃ r, slices_IndexFunc_int_int_with_impl_areNumbers_1.l0v (pre ++ suf) ((pre ++ suf).length : Int) (pre.length : Int) lo hi = some r ∧ decide (r ≥ 0) = !(suf.all (inR lo hi)) := by
  induction suf with
  | nil =>
    intro pre _
    refine ⟨-1, ?_, by simp⟩
    rw [slices_IndexFunc_int_int_with_impl_areNumbers_1.l0v_eq, if_neg (nlt_end pre)]
  | cons x suf ih =>
    intro pre hl
    have hn : pre.length < (pre ++ x :: suf).length := by simp
    rw [slices_IndexFunc_int_int_with_impl_areNumbers_1.l0v_eq, if_pos (lt_mid pre suf x), if_pos (by omega), if_pos (lt_mid pre suf x), rd_mid]
    unfold impl_areNumbers_1.f
    rw [inRange_f]
    simp only [Option.bind_some]
    cases hx : inR lo hi x with
    | false =>
      refine ⟨(pre.length : Int), by simp, ?_⟩
      simp [hx]
    | true =>
      rw [up_mid pre x hn hl]
      simp only [Bool.not_true, Bool.false_eq_true, if_false]
      rw [mid_snoc pre suf x] at hl ⊢
      obtain ⟨r, h1, h2⟩ := ih (pre ++ [x]) hl
      exact ⟨r, h1, by rw [h2]; simp [hx]⟩

theorem areNumbers_v (l : List Int) (lo hi : Int) (hl : l.length ≤ 1000000000000) : impl_areNumbers.fv l lo hi = some (l.all (inR lo hi)) := by
  obtain ⟨r, h1, h2⟩ := areNumbers_l0 lo hi l [] (by simpa using hl)
  rw [impl_areNumbers.fv_eq, slices_ContainsFunc_int_int_with_impl_areNumbers_1.fv_eq, slices_IndexFunc_int_int_with_impl_areNumbers_1.fv_eq]
  simp only [List.nil_append, List.length_nil, Int.natCast_zero] at h1
  rw [h1]
  simp [h2]
end Go.Proofs.Ytpoandlbmaljhaa.Plain

/- Written by a program of this session (limx.py): the equations of what the printed functions come to. No condition. -/
namespace Go.Proofs.Ytpoandlbmaljhaa.Print
open Go.RowKit Go.Proofs.YtpoandlbmaljhaaW.PrintWords Go.Proofs.YtpoandlbmaljhaaW.PrintLast Go.Proofs.Ytpoandlbmaljhaa.Base
set_option linter.unusedVariables false
set_option maxRecDepth 20000
noncomputable def slices_IndexFunc_impl_Ext_impl_Ext_with_impl_ExtOf_1.l0v (x0 : List (S69)) (x7 : Int) (x8 : Int) (x2000 : Int) : Option (Int) := Lim fun k => slices_IndexFunc_impl_Ext_impl_Ext_with_impl_ExtOf_1.l0 k x0 x7 x8 x2000
noncomputable def slices_IndexFunc_impl_Ext_impl_Ext_with_impl_ExtOf_1.fv (l0 : List (S69)) (a1_0 : Int) : Option (Int) := Lim fun k => slices_IndexFunc_impl_Ext_impl_Ext_with_impl_ExtOf_1.f k l0 a1_0
theorem slices_IndexFunc_impl_Ext_impl_Ext_with_impl_ExtOf_1.l0_is (x0 : List (S69)) (x7 : Int) (x8 : Int) (x2000 : Int) : Is (fun k => slices_IndexFunc_impl_Ext_impl_Ext_with_impl_ExtOf_1.l0 k x0 x7 x8 x2000) (slices_IndexFunc_impl_Ext_impl_Ext_with_impl_ExtOf_1.l0v x0 x7 x8 x2000) := ⟨fun k => (slices_IndexFunc_impl_Ext_impl_Ext_with_impl_ExtOf_1.mono_l k) x0 x7 x8 x2000, rfl⟩
theorem slices_IndexFunc_impl_Ext_impl_Ext_with_impl_ExtOf_1.f_is (l0 : List (S69)) (a1_0 : Int) : Is (fun k => slices_IndexFunc_impl_Ext_impl_Ext_with_impl_ExtOf_1.f k l0 a1_0) (slices_IndexFunc_impl_Ext_impl_Ext_with_impl_ExtOf_1.fv l0 a1_0) := ⟨fun k => slices_IndexFunc_impl_Ext_impl_Ext_with_impl_ExtOf_1.mono l0 a1_0 k, rfl⟩
theorem slices_IndexFunc_impl_Ext_impl_Ext_with_impl_ExtOf_1.l0v_eq (x0 : List (S69)) (x7 : Int) (x8 : Int) (x2000 : Int) : slices_IndexFunc_impl_Ext_impl_Ext_with_impl_ExtOf_1.l0v x0 x7 x8 x2000 = if x8 < x7 then (if 0 ≤ x8 then (if x8 < (x0.length : Int) then ((impl_ExtOf_1.f ((rd_T69 x0 x8).f0) ((rd_T69 x0 x8).f1) x2000).bind fun t332 => (if t332 = true then (some x8) else (slices_IndexFunc_impl_Ext_impl_Ext_with_impl_ExtOf_1.l0v x0 x7 (wrap64 (x8 + 1)) x2000))) else (none)) else (none)) else (some (-1)) := by
  refine Is.step (slices_IndexFunc_impl_Ext_impl_Ext_with_impl_ExtOf_1.l0_is x0 x7 x8 x2000).mo (fun k => by rw [slices_IndexFunc_impl_Ext_impl_Ext_with_impl_ExtOf_1.l0]) ?_
  · skip
    repeat' first
    | with_reducible exact slices_IndexFunc_impl_Ext_impl_Ext_with_impl_ExtOf_1.l0_is _ _ _ _
    | with_reducible exact Is.now _
    | with_reducible refine Is.ite ?_ ?_
    | with_reducible refine Is.bind ?_ (fun _ => ?_)
theorem slices_IndexFunc_impl_Ext_impl_Ext_with_impl_ExtOf_1.fv_eq (l0 : List (S69)) (a1_0 : Int) : slices_IndexFunc_impl_Ext_impl_Ext_with_impl_ExtOf_1.fv l0 a1_0 = slices_IndexFunc_impl_Ext_impl_Ext_with_impl_ExtOf_1.l0v l0 (l0.length : Int) 0 a1_0 := by
  refine Is.lim (g := fun k => slices_IndexFunc_impl_Ext_impl_Ext_with_impl_ExtOf_1.f k l0 a1_0) ?_
  · unfold slices_IndexFunc_impl_Ext_impl_Ext_with_impl_ExtOf_1.f
    repeat' first
    | with_reducible exact slices_IndexFunc_impl_Ext_impl_Ext_with_impl_ExtOf_1.l0_is _ _ _ _
    | with_reducible exact Is.now _
    | with_reducible refine Is.ite ?_ ?_
    | with_reducible refine Is.bind ?_ (fun _ => ?_)
noncomputable def impl_ExtOf.fv (l0 : List (S69)) (a1 : Int) : Option (Int) := Lim fun k => impl_ExtOf.f k l0 a1
theorem impl_ExtOf.f_is (l0 : List (S69)) (a1 : Int) : Is (fun k => impl_ExtOf.f k l0 a1) (impl_ExtOf.fv l0 a1) := ⟨fun k => impl_ExtOf.mono l0 a1 k, rfl⟩
theorem impl_ExtOf.fv_eq (l0 : List (S69)) (a1 : Int) : impl_ExtOf.fv l0 a1 = (slices_IndexFunc_impl_Ext_impl_Ext_with_impl_ExtOf_1.fv l0 a1).bind fun t334 => (some t334) := by
  refine Is.lim (g := fun k => impl_ExtOf.f k l0 a1) ?_
  · unfold impl_ExtOf.f
    repeat' first
    | with_reducible exact slices_IndexFunc_impl_Ext_impl_Ext_with_impl_ExtOf_1.f_is _ _
    | with_reducible exact Is.now _
    | with_reducible refine Is.ite ?_ ?_
    | with_reducible refine Is.bind ?_ (fun _ => ?_)
noncomputable def impl_AreExts.l0v (x0 : List (S69)) (x5 : List (S69)) (x6 : Int) (x7 : Int) : Option (Bool) := Lim fun k => impl_AreExts.l0 k x0 x5 x6 x7
noncomputable def impl_AreExts.fv (l0 : List (S69)) : Option (Bool) := Lim fun k => impl_AreExts.f k l0
theorem impl_AreExts.l0_is (x0 : List (S69)) (x5 : List (S69)) (x6 : Int) (x7 : Int) : Is (fun k => impl_AreExts.l0 k x0 x5 x6 x7) (impl_AreExts.l0v x0 x5 x6 x7) := ⟨fun k => (impl_AreExts.mono_l k) x0 x5 x6 x7, rfl⟩
theorem impl_AreExts.f_is (l0 : List (S69)) : Is (fun k => impl_AreExts.f k l0) (impl_AreExts.fv l0) := ⟨fun k => impl_AreExts.mono l0 k, rfl⟩
theorem impl_AreExts.l0v_eq (x0 : List (S69)) (x5 : List (S69)) (x6 : Int) (x7 : Int) : impl_AreExts.l0v x0 x5 x6 x7 = if x7 < x6 then (if 0 ≤ x7 then (if x7 < (x5.length : Int) then ((impl_InRange.f ((rd_T69 x5 x7).f0) 0 255).bind fun t337 => (if t337 = true then (if x7 ≤ (x0.length : Int) then ((impl_ExtOf.fv (x0.take (x7 : Int).toNat) ((rd_T69 x5 x7).f0)).bind fun t342 => (if t342 ≥ 0 then (some false) else (if (((rd_T69 x5 x7).f1).length : Int) > 4 then (some false) else ((impl_areNumbers.fv ((rd_T69 x5 x7).f1) 0 255).bind fun t343 => (if t343 = true then (impl_AreExts.l0v x0 x5 x6 (wrap64 (x7 + 1))) else (some false)))))) else (none)) else (some false))) else (none)) else (none)) else (some (decide ((x0.length : Int) ≤ 6))) := by
  refine Is.step (impl_AreExts.l0_is x0 x5 x6 x7).mo (fun k => by rw [impl_AreExts.l0]) ?_
  · skip
    repeat' first
    | with_reducible exact impl_AreExts.l0_is _ _ _ _
    | with_reducible exact impl_ExtOf.f_is _ _
    | with_reducible exact impl_areNumbers.f_is _ _ _
    | with_reducible exact Is.now _
    | with_reducible refine Is.ite ?_ ?_
    | with_reducible refine Is.bind ?_ (fun _ => ?_)
theorem impl_AreExts.fv_eq (l0 : List (S69)) : impl_AreExts.fv l0 = impl_AreExts.l0v l0 l0 (l0.length : Int) 0 := by
  refine Is.lim (g := fun k => impl_AreExts.f k l0) ?_
  · unfold impl_AreExts.f
    repeat' first
    | with_reducible exact impl_AreExts.l0_is _ _ _ _
    | with_reducible exact Is.now _
    | with_reducible refine Is.ite ?_ ?_
    | with_reducible refine Is.bind ?_ (fun _ => ?_)
noncomputable def impl_IsHello.fv (l0_0 : List Int) (l0_1 : List (S69)) : Option (Bool) := Lim fun k => impl_IsHello.f k l0_0 l0_1
theorem impl_IsHello.f_is (l0_0 : List Int) (l0_1 : List (S69)) : Is (fun k => impl_IsHello.f k l0_0 l0_1) (impl_IsHello.fv l0_0 l0_1) := ⟨fun k => impl_IsHello.mono l0_0 l0_1 k, rfl⟩
theorem impl_IsHello.fv_eq (l0_0 : List Int) (l0_1 : List (S69)) : impl_IsHello.fv l0_0 l0_1 = (impl_AreVersions.fv l0_0).bind fun t345 => (if t345 = true then ((impl_AreExts.fv l0_1).bind fun t346 => (some t346)) else (some false)) := by
  refine Is.lim (g := fun k => impl_IsHello.f k l0_0 l0_1) ?_
  · unfold impl_IsHello.f
    repeat' first
    | with_reducible exact impl_AreExts.f_is _
    | with_reducible exact impl_AreVersions.f_is _
    | with_reducible exact Is.now _
    | with_reducible refine Is.ite ?_ ?_
    | with_reducible refine Is.bind ?_ (fun _ => ?_)
end Go.Proofs.Ytpoandlbmaljhaa.Print

/- ExtOf, AreExts and IsHello, of the program. Condition: at most 10 to the 12 of each. -/
set_option linter.unusedSimpArgs false
set_option linter.unusedVariables false
namespace Go.Proofs.Ytpoandlbmaljhaa.Plain
open Go.RowKit Go.Proofs.YtpoandlbmaljhaaW.PrintWords Go.Proofs.Ytpoandlbmaljhaa.Base Go.Proofs.Ytpoandlbmaljhaa.Print

theorem implExtOf_l0 (t : Int) (suf : List S69) : ∀ (pre : List S69), (pre ++ suf).length ≤ 1000000000000 →
    ∃ r, slices_IndexFunc_impl_Ext_impl_Ext_with_impl_ExtOf_1.l0v (pre ++ suf) ((pre ++ suf).length : Int) (pre.length : Int) t = some r ∧ decide (r ≥ 0) = hasT suf t := by
  induction suf with
  | nil =>
    intro pre _
    refine ⟨-1, ?_, by simp [hasT]⟩
    rw [slices_IndexFunc_impl_Ext_impl_Ext_with_impl_ExtOf_1.l0v_eq, if_neg (nlt_end pre)]
  | cons x suf ih =>
    intro pre hl
    have hn : pre.length < (pre ++ x :: suf).length := by simp
    rw [slices_IndexFunc_impl_Ext_impl_Ext_with_impl_ExtOf_1.l0v_eq, if_pos (lt_mid pre suf x), if_pos (by omega), if_pos (lt_mid pre suf x), rdExt_mid]
    unfold impl_ExtOf_1.f
    simp only [Option.bind_some, beq_iff_eq]
    by_cases hx : x.f0 = t
    · rw [if_pos hx]
      exact ⟨(pre.length : Int), rfl, by simp [hasT, hx]⟩
    · rw [if_neg hx, up_mid pre x hn hl]
      rw [mid_snoc pre suf x] at hl ⊢
      obtain ⟨r, h1, h2⟩ := ih (pre ++ [x]) hl
      exact ⟨r, h1, by rw [h2]; simp [hasT, hx]⟩
theorem implExtOf_ex (l : List S69) (t : Int) (hl : l.length ≤ 1000000000000) : ∃ r, impl_ExtOf.fv l t = some r ∧ decide (r ≥ 0) = hasT l t := by
  obtain ⟨r, h1, h2⟩ := implExtOf_l0 t l [] (by simpa using hl)
  refine ⟨r, ?_, h2⟩
  rw [impl_ExtOf.fv_eq, slices_IndexFunc_impl_Ext_impl_Ext_with_impl_ExtOf_1.fv_eq]
  simp only [List.nil_append, List.length_nil, Int.natCast_zero] at h1
  rw [h1]
  rfl
theorem implExts_l0 (suf : List S69) : ∀ (pre : List S69), (pre ++ suf).length ≤ 1000000000000 → okXs suf →
    impl_AreExts.l0v (pre ++ suf) (pre ++ suf) ((pre ++ suf).length : Int) (pre.length : Int) = some (areX pre suf && decide ((pre ++ suf).length ≤ 6)) := by
  induction suf with
  | nil =>
    intro pre _ _
    rw [impl_AreExts.l0v_eq, if_neg (nlt_end pre)]
    simp only [areX, Bool.true_and, show (((pre ++ []).length : Int) ≤ 6) ↔ ((pre ++ []).length ≤ 6) from by omega]
  | cons x suf ih =>
    intro pre hl hs
    have hn : pre.length < (pre ++ x :: suf).length := by simp
    have ht : (pre ++ x :: suf).take ((pre.length : Int)).toNat = pre := by simp
    obtain ⟨r, e1, e2⟩ := implExtOf_ex pre x.f0 (by omega)
    have h1 := ih (pre ++ [x]) (by simpa using hl) (fun y hy => hs y (List.mem_cons_of_mem _ hy))
    rw [← mid_snoc pre suf x] at h1
    rw [impl_AreExts.l0v_eq, if_pos (lt_mid pre suf x), if_pos (by omega), if_pos (lt_mid pre suf x), rdExt_mid, inRange_f, ht, e1, areNumbers_v _ _ _ (hs x List.mem_cons_self), up_mid pre x hn hl, h1]
    simp only [Option.bind_some, areX]
    rw [← e2]
    generalize areX (pre ++ [x]) suf = z
    generalize decide ((pre ++ x :: suf).length ≤ 6) = q
    generalize x.f1.all (inR 0 255) = y
    cases inR 0 255 x.f0 with
    | false => simp
    | true =>
      rw [if_pos rfl, if_pos (by omega)]
      by_cases h2 : r ≥ 0
      · simp [h2]
      · by_cases h3 : x.f1.length ≤ 4
        · rw [if_neg h2, if_neg (by omega)]
          cases y <;> simp [h2, h3]
        · rw [if_neg h2, if_pos (by omega)]
          simp [h3]
theorem implExts_v (l : List S69) (hl : l.length ≤ 1000000000000) (hs : okXs l) : impl_AreExts.fv l = some (isX l) := by
  rw [impl_AreExts.fv_eq]
  simpa [isX] using implExts_l0 l [] (by simpa using hl) hs
theorem implHello_v (v : List Int) (l : List S69) (hv : v.length ≤ 1000000000000) (hl : l.length ≤ 1000000000000) (hs : okXs l) : impl_IsHello.fv v l = some (isH v l) := by
  rw [impl_IsHello.fv_eq, implVers_v v hv, implExts_v l hl hs]
  simp only [Option.bind_some, isH]
  cases areV v <;> simp
end Go.Proofs.Ytpoandlbmaljhaa.Plain

/- Written by a program of this session (limx.py): the equations of what the printed functions come to. No condition. -/
namespace Go.Proofs.Ytpoandlbmaljhaa.Print
open Go.RowKit Go.Proofs.YtpoandlbmaljhaaW.PrintWords Go.Proofs.YtpoandlbmaljhaaW.PrintLast Go.Proofs.Ytpoandlbmaljhaa.Base
set_option linter.unusedVariables false
set_option maxRecDepth 20000
noncomputable def impl_keptExts_with_impl_copyExts_1.l0v (x5 : List (S69)) (x9 : List (S69)) (x10 : Int) (x11 : Int) : Option ((List (S69))) := Lim fun k => impl_keptExts_with_impl_copyExts_1.l0 k x5 x9 x10 x11
noncomputable def impl_keptExts_with_impl_copyExts_1.fv (l0 : List (S69)) : Option ((List (S69))) := Lim fun k => impl_keptExts_with_impl_copyExts_1.f k l0
theorem impl_keptExts_with_impl_copyExts_1.l0_is (x5 : List (S69)) (x9 : List (S69)) (x10 : Int) (x11 : Int) : Is (fun k => impl_keptExts_with_impl_copyExts_1.l0 k x5 x9 x10 x11) (impl_keptExts_with_impl_copyExts_1.l0v x5 x9 x10 x11) := ⟨fun k => (impl_keptExts_with_impl_copyExts_1.mono_l k) x5 x9 x10 x11, rfl⟩
theorem impl_keptExts_with_impl_copyExts_1.f_is (l0 : List (S69)) : Is (fun k => impl_keptExts_with_impl_copyExts_1.f k l0) (impl_keptExts_with_impl_copyExts_1.fv l0) := ⟨fun k => impl_keptExts_with_impl_copyExts_1.mono l0 k, rfl⟩
theorem impl_keptExts_with_impl_copyExts_1.l0v_eq (x5 : List (S69)) (x9 : List (S69)) (x10 : Int) (x11 : Int) : impl_keptExts_with_impl_copyExts_1.l0v x5 x9 x10 x11 = if x11 < x10 then (if 0 ≤ x11 then (if x11 < (x9.length : Int) then ((impl_copyExts_1.f ((rd_T69 x9 x11).f0)).bind fun t352 => (if t352 = true then ((some (([] : List Int) : List Int)).bind fun y353 => (if y353.length + ((rd_T69 x9 x11).f1).length < 17592186044416 then (if x5.length < 4398046511104 then (impl_keptExts_with_impl_copyExts_1.l0v (x5 ++ [(⟨(rd_T69 x9 x11).f0, (y353 ++ ((rd_T69 x9 x11).f1))⟩ : S69)]) x9 x10 (wrap64 (x11 + 1))) else (none)) else (none))) else (impl_keptExts_with_impl_copyExts_1.l0v x5 x9 x10 (wrap64 (x11 + 1))))) else (none)) else (none)) else (some x5) := by
  refine Is.step (impl_keptExts_with_impl_copyExts_1.l0_is x5 x9 x10 x11).mo (fun k => by rw [impl_keptExts_with_impl_copyExts_1.l0]) ?_
  · skip
    repeat' first
    | with_reducible exact impl_keptExts_with_impl_copyExts_1.l0_is _ _ _ _
    | with_reducible exact Is.now _
    | with_reducible refine Is.ite ?_ ?_
    | with_reducible refine Is.bind ?_ (fun _ => ?_)
theorem impl_keptExts_with_impl_copyExts_1.fv_eq (l0 : List (S69)) : impl_keptExts_with_impl_copyExts_1.fv l0 = impl_keptExts_with_impl_copyExts_1.l0v (([] : List (S69))) l0 (l0.length : Int) 0 := by
  refine Is.lim (g := fun k => impl_keptExts_with_impl_copyExts_1.f k l0) ?_
  · unfold impl_keptExts_with_impl_copyExts_1.f
    repeat' first
    | with_reducible exact impl_keptExts_with_impl_copyExts_1.l0_is _ _ _ _
    | with_reducible exact Is.now _
    | with_reducible refine Is.ite ?_ ?_
    | with_reducible refine Is.bind ?_ (fun _ => ?_)
noncomputable def impl_copyExts.fv (l0 : List (S69)) : Option ((List (S69))) := Lim fun k => impl_copyExts.f k l0
theorem impl_copyExts.f_is (l0 : List (S69)) : Is (fun k => impl_copyExts.f k l0) (impl_copyExts.fv l0) := ⟨fun k => impl_copyExts.mono l0 k, rfl⟩
theorem impl_copyExts.fv_eq (l0 : List (S69)) : impl_copyExts.fv l0 = (impl_keptExts_with_impl_copyExts_1.fv l0).bind fun t362 => (some t362) := by
  refine Is.lim (g := fun k => impl_copyExts.f k l0) ?_
  · unfold impl_copyExts.f
    repeat' first
    | with_reducible exact impl_keptExts_with_impl_copyExts_1.f_is _
    | with_reducible exact Is.now _
    | with_reducible refine Is.ite ?_ ?_
    | with_reducible refine Is.bind ?_ (fun _ => ?_)
noncomputable def impl_copyHello.fv (l0_0 : List Int) (l0_1 : List (S69)) : Option (List Int × (List (S69))) := Lim fun k => impl_copyHello.f k l0_0 l0_1
theorem impl_copyHello.f_is (l0_0 : List Int) (l0_1 : List (S69)) : Is (fun k => impl_copyHello.f k l0_0 l0_1) (impl_copyHello.fv l0_0 l0_1) := ⟨fun k => impl_copyHello.mono l0_0 l0_1 k, rfl⟩
theorem impl_copyHello.fv_eq (l0_0 : List Int) (l0_1 : List (S69)) : impl_copyHello.fv l0_0 l0_1 = (some (([] : List Int) : List Int)).bind fun y367 => (if y367.length + l0_0.length < 17592186044416 then ((impl_copyExts.fv l0_1).bind fun t373 => (some ((y367 ++ l0_0), t373))) else (none)) := by
  refine Is.lim (g := fun k => impl_copyHello.f k l0_0 l0_1) ?_
  · unfold impl_copyHello.f
    repeat' first
    | with_reducible exact impl_copyExts.f_is _
    | with_reducible exact Is.now _
    | with_reducible refine Is.ite ?_ ?_
    | with_reducible refine Is.bind ?_ (fun _ => ?_)
noncomputable def impl_IsBox.fv (a0_0 : Int) (l0_1 : List Int) (l0_2 : List Int) (a0_3 : Bool) : Option (Bool) := Lim fun k => impl_IsBox.f k a0_0 l0_1 l0_2 a0_3
theorem impl_IsBox.f_is (a0_0 : Int) (l0_1 : List Int) (l0_2 : List Int) (a0_3 : Bool) : Is (fun k => impl_IsBox.f k a0_0 l0_1 l0_2 a0_3) (impl_IsBox.fv a0_0 l0_1 l0_2 a0_3) := ⟨fun k => impl_IsBox.mono a0_0 l0_1 l0_2 a0_3 k, rfl⟩
theorem impl_IsBox.fv_eq (a0_0 : Int) (l0_1 : List Int) (l0_2 : List Int) (a0_3 : Bool) : impl_IsBox.fv a0_0 l0_1 l0_2 a0_3 = (impl_InRange.f a0_0 0 9).bind fun t377 => (if t377 = true then (if (l0_1.length : Int) ≤ 6 then (if (l0_2.length : Int) ≤ 6 then ((impl_areNumbers.fv l0_1 0 255).bind fun t378 => (if t378 = true then ((impl_areNumbers.fv l0_2 0 255).bind fun t379 => (some t379)) else (some false))) else (some false)) else (some false)) else (some false)) := by
  refine Is.lim (g := fun k => impl_IsBox.f k a0_0 l0_1 l0_2 a0_3) ?_
  · unfold impl_IsBox.f
    repeat' first
    | with_reducible exact impl_areNumbers.f_is _ _ _
    | with_reducible exact Is.now _
    | with_reducible refine Is.ite ?_ ?_
    | with_reducible refine Is.bind ?_ (fun _ => ?_)
noncomputable def slices_Max_int_int.l0v (x0 : List Int) (x3 : Int) (x4 : Int) : Option (Int) := Lim fun k => slices_Max_int_int.l0 k x0 x3 x4
noncomputable def slices_Max_int_int.fv (l0 : List Int) : Option (Int) := Lim fun k => slices_Max_int_int.f k l0
theorem slices_Max_int_int.l0_is (x0 : List Int) (x3 : Int) (x4 : Int) : Is (fun k => slices_Max_int_int.l0 k x0 x3 x4) (slices_Max_int_int.l0v x0 x3 x4) := ⟨fun k => (slices_Max_int_int.mono_l k) x0 x3 x4, rfl⟩
theorem slices_Max_int_int.f_is (l0 : List Int) : Is (fun k => slices_Max_int_int.f k l0) (slices_Max_int_int.fv l0) := ⟨fun k => slices_Max_int_int.mono l0 k, rfl⟩
theorem slices_Max_int_int.l0v_eq (x0 : List Int) (x3 : Int) (x4 : Int) : slices_Max_int_int.l0v x0 x3 x4 = if x4 < (x0.length : Int) then (if 0 ≤ x4 then (slices_Max_int_int.l0v x0 (mx x3 (rd x0 x4)) (wrap64 (x4 + 1))) else (none)) else (some x3) := by
  refine Is.step (slices_Max_int_int.l0_is x0 x3 x4).mo (fun k => by rw [slices_Max_int_int.l0]) ?_
  · skip
    repeat' first
    | with_reducible exact slices_Max_int_int.l0_is _ _ _
    | with_reducible exact Is.now _
    | with_reducible refine Is.ite ?_ ?_
    | with_reducible refine Is.bind ?_ (fun _ => ?_)
theorem slices_Max_int_int.fv_eq (l0 : List Int) : slices_Max_int_int.fv l0 = if (l0.length : Int) < 1 then (none) else (if 0 < (l0.length : Int) then (slices_Max_int_int.l0v l0 (rd l0 0) 1) else (none)) := by
  refine Is.lim (g := fun k => slices_Max_int_int.f k l0) ?_
  · unfold slices_Max_int_int.f
    repeat' first
    | with_reducible exact slices_Max_int_int.l0_is _ _ _
    | with_reducible exact Is.now _
    | with_reducible refine Is.ite ?_ ?_
    | with_reducible refine Is.bind ?_ (fun _ => ?_)
noncomputable def slices_Index_int_int.l0v (x0 : List Int) (x1 : Int) (x7 : Int) (x8 : Int) : Option (Int) := Lim fun k => slices_Index_int_int.l0 k x0 x1 x7 x8
noncomputable def slices_Index_int_int.fv (l0 : List Int) (a1 : Int) : Option (Int) := Lim fun k => slices_Index_int_int.f k l0 a1
theorem slices_Index_int_int.l0_is (x0 : List Int) (x1 : Int) (x7 : Int) (x8 : Int) : Is (fun k => slices_Index_int_int.l0 k x0 x1 x7 x8) (slices_Index_int_int.l0v x0 x1 x7 x8) := ⟨fun k => (slices_Index_int_int.mono_l k) x0 x1 x7 x8, rfl⟩
theorem slices_Index_int_int.f_is (l0 : List Int) (a1 : Int) : Is (fun k => slices_Index_int_int.f k l0 a1) (slices_Index_int_int.fv l0 a1) := ⟨fun k => slices_Index_int_int.mono l0 a1 k, rfl⟩
theorem slices_Index_int_int.l0v_eq (x0 : List Int) (x1 : Int) (x7 : Int) (x8 : Int) : slices_Index_int_int.l0v x0 x1 x7 x8 = if x8 < x7 then (if 0 ≤ x8 then (if x8 < (x0.length : Int) then (if x1 = (rd x0 x8) then (some x8) else (slices_Index_int_int.l0v x0 x1 x7 (wrap64 (x8 + 1)))) else (none)) else (none)) else (some (-1)) := by
  refine Is.step (slices_Index_int_int.l0_is x0 x1 x7 x8).mo (fun k => by rw [slices_Index_int_int.l0]) ?_
  · skip
    repeat' first
    | with_reducible exact slices_Index_int_int.l0_is _ _ _ _
    | with_reducible exact Is.now _
    | with_reducible refine Is.ite ?_ ?_
    | with_reducible refine Is.bind ?_ (fun _ => ?_)
theorem slices_Index_int_int.fv_eq (l0 : List Int) (a1 : Int) : slices_Index_int_int.fv l0 a1 = slices_Index_int_int.l0v l0 a1 (l0.length : Int) 0 := by
  refine Is.lim (g := fun k => slices_Index_int_int.f k l0 a1) ?_
  · unfold slices_Index_int_int.f
    repeat' first
    | with_reducible exact slices_Index_int_int.l0_is _ _ _ _
    | with_reducible exact Is.now _
    | with_reducible refine Is.ite ?_ ?_
    | with_reducible refine Is.bind ?_ (fun _ => ?_)
noncomputable def slices_Contains_int_int.fv (l0 : List Int) (a1 : Int) : Option (Bool) := Lim fun k => slices_Contains_int_int.f k l0 a1
theorem slices_Contains_int_int.f_is (l0 : List Int) (a1 : Int) : Is (fun k => slices_Contains_int_int.f k l0 a1) (slices_Contains_int_int.fv l0 a1) := ⟨fun k => slices_Contains_int_int.mono l0 a1 k, rfl⟩
theorem slices_Contains_int_int.fv_eq (l0 : List Int) (a1 : Int) : slices_Contains_int_int.fv l0 a1 = (slices_Index_int_int.fv l0 a1).bind fun t383 => (some (decide (t383 ≥ 0))) := by
  refine Is.lim (g := fun k => slices_Contains_int_int.f k l0 a1) ?_
  · unfold slices_Contains_int_int.f
    repeat' first
    | with_reducible exact slices_Index_int_int.f_is _ _
    | with_reducible exact Is.now _
    | with_reducible refine Is.ite ?_ ?_
    | with_reducible refine Is.bind ?_ (fun _ => ?_)
end Go.Proofs.Ytpoandlbmaljhaa.Print

/- IsBox, of the program. Condition: at most 10 to the 12 of each. -/
set_option linter.unusedSimpArgs false
set_option linter.unusedVariables false
namespace Go.Proofs.Ytpoandlbmaljhaa.Plain
open Go.RowKit Go.Proofs.YtpoandlbmaljhaaW.PrintWords Go.Proofs.Ytpoandlbmaljhaa.Base Go.Proofs.Ytpoandlbmaljhaa.Print

theorem implIsB_v (b : S50) (h : okB b) : impl_IsBox.fv b.f0 b.f1 b.f2 b.f3 = some (isB b) := by
  rw [impl_IsBox.fv_eq, inRange_f, areNumbers_v _ _ _ h.1, areNumbers_v _ _ _ h.2]
  simp only [Option.bind_some, isB]
  simp only [show ((b.f1.length : Int) ≤ 6) ↔ (b.f1.length ≤ 6) from by omega, show ((b.f2.length : Int) ≤ 6) ↔ (b.f2.length ≤ 6) from by omega]
  generalize inR 0 9 b.f0 = x
  generalize b.f1.all (inR 0 255) = y
  generalize b.f2.all (inR 0 255) = z
  by_cases h1 : b.f1.length ≤ 6 <;> by_cases h2 : b.f2.length ≤ 6 <;> cases x <;> cases y <;> cases z <;> simp [h1, h2]
end Go.Proofs.Ytpoandlbmaljhaa.Plain

/- slices.Contains on whole numbers. Condition: at most 10 to the 12 numbers. -/
set_option linter.unusedSimpArgs false
set_option linter.unusedVariables false
namespace Go.Proofs.Ytpoandlbmaljhaa.Plain
open Go.RowKit Go.Proofs.YtpoandlbmaljhaaW.PrintWords Go.Proofs.Ytpoandlbmaljhaa.Base Go.Proofs.Ytpoandlbmaljhaa.Print

theorem slIndex_l0 (x : Int) (suf : List Int) : ∀ (pre : List Int), (pre ++ suf).length ≤ 1000000000000 →
    ∃ r, slices_Index_int_int.l0v (pre ++ suf) x ((pre ++ suf).length : Int) (pre.length : Int) = some r ∧ decide (r ≥ 0) = mem suf x := by
  induction suf with
  | nil =>
    intro pre _
    refine ⟨-1, ?_, by simp [mem]⟩
    rw [slices_Index_int_int.l0v_eq, if_neg (nlt_end pre)]
  | cons y suf ih =>
    intro pre hl
    have hn : pre.length < (pre ++ y :: suf).length := by simp
    rw [slices_Index_int_int.l0v_eq, if_pos (lt_mid pre suf y), if_pos (by omega), if_pos (lt_mid pre suf y), rd_mid]
    by_cases hxy : x = y
    · rw [if_pos hxy]
      refine ⟨(pre.length : Int), rfl, ?_⟩
      rw [mem_cons, hxy]
      simp
    · rw [if_neg hxy, up_mid pre y hn hl]
      rw [mid_snoc pre suf y] at hl ⊢
      obtain ⟨r, h1, h2⟩ := ih (pre ++ [y]) hl
      refine ⟨r, h1, ?_⟩
      rw [h2, mem_cons]
      simp [show ¬ y = x from fun e => hxy e.symm]
theorem slHas_v (l : List Int) (x : Int) (hl : l.length ≤ 1000000000000) : slices_Contains_int_int.fv l x = some (mem l x) := by
  obtain ⟨r, h1, h2⟩ := slIndex_l0 x l [] (by simpa using hl)
  rw [slices_Contains_int_int.fv_eq, slices_Index_int_int.fv_eq]
  simp only [List.nil_append, List.length_nil, Int.natCast_zero] at h1
  rw [h1]
  simp [h2]
end Go.Proofs.Ytpoandlbmaljhaa.Plain

/- Written by a program of this session (limx.py): the equations of what the printed functions come to. No condition. -/
namespace Go.Proofs.Ytpoandlbmaljhaa.Print
open Go.RowKit Go.Proofs.YtpoandlbmaljhaaW.PrintWords Go.Proofs.YtpoandlbmaljhaaW.PrintLast Go.Proofs.Ytpoandlbmaljhaa.Base
set_option linter.unusedVariables false
set_option maxRecDepth 20000
noncomputable def impl_loses_1.fv (a0_0 : Int) (l0_1 : List Int) (a1_0 : Int) (l1_1 : List Int) (l1_2 : List Int) (a1_3 : Bool) : Option (Bool) := Lim fun k => impl_loses_1.f k a0_0 l0_1 a1_0 l1_1 l1_2 a1_3
theorem impl_loses_1.f_is (a0_0 : Int) (l0_1 : List Int) (a1_0 : Int) (l1_1 : List Int) (l1_2 : List Int) (a1_3 : Bool) : Is (fun k => impl_loses_1.f k a0_0 l0_1 a1_0 l1_1 l1_2 a1_3) (impl_loses_1.fv a0_0 l0_1 a1_0 l1_1 l1_2 a1_3) := ⟨fun k => impl_loses_1.mono a0_0 l0_1 a1_0 l1_1 l1_2 a1_3 k, rfl⟩
theorem impl_loses_1.fv_eq (a0_0 : Int) (l0_1 : List Int) (a1_0 : Int) (l1_1 : List Int) (l1_2 : List Int) (a1_3 : Bool) : impl_loses_1.fv a0_0 l0_1 a1_0 l1_1 l1_2 a1_3 = (slices_Contains_int_int.fv l1_1 a0_0).bind fun t385 => (if t385 = true then (some true) else (if a1_3 = true then ((slices_Contains_int_int.fv l1_2 a0_0).bind fun t386 => (if t386 = true then (some false) else ((impl_InRange.f a0_0 1 3).bind fun t387 => (some (!t387))))) else (some false))) := by
  refine Is.lim (g := fun k => impl_loses_1.f k a0_0 l0_1 a1_0 l1_1 l1_2 a1_3) ?_
  · unfold impl_loses_1.f
    repeat' first
    | with_reducible exact slices_Contains_int_int.f_is _ _
    | with_reducible exact Is.now _
    | with_reducible refine Is.ite ?_ ?_
    | with_reducible refine Is.bind ?_ (fun _ => ?_)
noncomputable def slices_IndexFunc_impl_Ext_impl_Ext_with_impl_loses_1.l0v (x0 : List (S69)) (x7 : Int) (x8 : Int) (x2000 : Int) (x2001 : List Int) (x2002 : List Int) (x2003 : Bool) : Option (Int) := Lim fun k => slices_IndexFunc_impl_Ext_impl_Ext_with_impl_loses_1.l0 k x0 x7 x8 x2000 x2001 x2002 x2003
noncomputable def slices_IndexFunc_impl_Ext_impl_Ext_with_impl_loses_1.fv (l0 : List (S69)) (a1_0 : Int) (l1_1 : List Int) (l1_2 : List Int) (a1_3 : Bool) : Option (Int) := Lim fun k => slices_IndexFunc_impl_Ext_impl_Ext_with_impl_loses_1.f k l0 a1_0 l1_1 l1_2 a1_3
theorem slices_IndexFunc_impl_Ext_impl_Ext_with_impl_loses_1.l0_is (x0 : List (S69)) (x7 : Int) (x8 : Int) (x2000 : Int) (x2001 : List Int) (x2002 : List Int) (x2003 : Bool) : Is (fun k => slices_IndexFunc_impl_Ext_impl_Ext_with_impl_loses_1.l0 k x0 x7 x8 x2000 x2001 x2002 x2003) (slices_IndexFunc_impl_Ext_impl_Ext_with_impl_loses_1.l0v x0 x7 x8 x2000 x2001 x2002 x2003) := ⟨fun k => (slices_IndexFunc_impl_Ext_impl_Ext_with_impl_loses_1.mono_l k) x0 x7 x8 x2000 x2001 x2002 x2003, rfl⟩
theorem slices_IndexFunc_impl_Ext_impl_Ext_with_impl_loses_1.f_is (l0 : List (S69)) (a1_0 : Int) (l1_1 : List Int) (l1_2 : List Int) (a1_3 : Bool) : Is (fun k => slices_IndexFunc_impl_Ext_impl_Ext_with_impl_loses_1.f k l0 a1_0 l1_1 l1_2 a1_3) (slices_IndexFunc_impl_Ext_impl_Ext_with_impl_loses_1.fv l0 a1_0 l1_1 l1_2 a1_3) := ⟨fun k => slices_IndexFunc_impl_Ext_impl_Ext_with_impl_loses_1.mono l0 a1_0 l1_1 l1_2 a1_3 k, rfl⟩
theorem slices_IndexFunc_impl_Ext_impl_Ext_with_impl_loses_1.l0v_eq (x0 : List (S69)) (x7 : Int) (x8 : Int) (x2000 : Int) (x2001 : List Int) (x2002 : List Int) (x2003 : Bool) : slices_IndexFunc_impl_Ext_impl_Ext_with_impl_loses_1.l0v x0 x7 x8 x2000 x2001 x2002 x2003 = if x8 < x7 then (if 0 ≤ x8 then (if x8 < (x0.length : Int) then ((impl_loses_1.fv ((rd_T69 x0 x8).f0) ((rd_T69 x0 x8).f1) x2000 x2001 x2002 x2003).bind fun t389 => (if t389 = true then (some x8) else (slices_IndexFunc_impl_Ext_impl_Ext_with_impl_loses_1.l0v x0 x7 (wrap64 (x8 + 1)) x2000 x2001 x2002 x2003))) else (none)) else (none)) else (some (-1)) := by
  refine Is.step (slices_IndexFunc_impl_Ext_impl_Ext_with_impl_loses_1.l0_is x0 x7 x8 x2000 x2001 x2002 x2003).mo (fun k => by rw [slices_IndexFunc_impl_Ext_impl_Ext_with_impl_loses_1.l0]) ?_
  · skip
    repeat' first
    | with_reducible exact impl_loses_1.f_is _ _ _ _ _ _
    | with_reducible exact slices_IndexFunc_impl_Ext_impl_Ext_with_impl_loses_1.l0_is _ _ _ _ _ _ _
    | with_reducible exact Is.now _
    | with_reducible refine Is.ite ?_ ?_
    | with_reducible refine Is.bind ?_ (fun _ => ?_)
theorem slices_IndexFunc_impl_Ext_impl_Ext_with_impl_loses_1.fv_eq (l0 : List (S69)) (a1_0 : Int) (l1_1 : List Int) (l1_2 : List Int) (a1_3 : Bool) : slices_IndexFunc_impl_Ext_impl_Ext_with_impl_loses_1.fv l0 a1_0 l1_1 l1_2 a1_3 = slices_IndexFunc_impl_Ext_impl_Ext_with_impl_loses_1.l0v l0 (l0.length : Int) 0 a1_0 l1_1 l1_2 a1_3 := by
  refine Is.lim (g := fun k => slices_IndexFunc_impl_Ext_impl_Ext_with_impl_loses_1.f k l0 a1_0 l1_1 l1_2 a1_3) ?_
  · unfold slices_IndexFunc_impl_Ext_impl_Ext_with_impl_loses_1.f
    repeat' first
    | with_reducible exact slices_IndexFunc_impl_Ext_impl_Ext_with_impl_loses_1.l0_is _ _ _ _ _ _ _
    | with_reducible exact Is.now _
    | with_reducible refine Is.ite ?_ ?_
    | with_reducible refine Is.bind ?_ (fun _ => ?_)
noncomputable def slices_ContainsFunc_impl_Ext_impl_Ext_with_impl_loses_1.fv (l0 : List (S69)) (a1_0 : Int) (l1_1 : List Int) (l1_2 : List Int) (a1_3 : Bool) : Option (Bool) := Lim fun k => slices_ContainsFunc_impl_Ext_impl_Ext_with_impl_loses_1.f k l0 a1_0 l1_1 l1_2 a1_3
theorem slices_ContainsFunc_impl_Ext_impl_Ext_with_impl_loses_1.f_is (l0 : List (S69)) (a1_0 : Int) (l1_1 : List Int) (l1_2 : List Int) (a1_3 : Bool) : Is (fun k => slices_ContainsFunc_impl_Ext_impl_Ext_with_impl_loses_1.f k l0 a1_0 l1_1 l1_2 a1_3) (slices_ContainsFunc_impl_Ext_impl_Ext_with_impl_loses_1.fv l0 a1_0 l1_1 l1_2 a1_3) := ⟨fun k => slices_ContainsFunc_impl_Ext_impl_Ext_with_impl_loses_1.mono l0 a1_0 l1_1 l1_2 a1_3 k, rfl⟩
theorem slices_ContainsFunc_impl_Ext_impl_Ext_with_impl_loses_1.fv_eq (l0 : List (S69)) (a1_0 : Int) (l1_1 : List Int) (l1_2 : List Int) (a1_3 : Bool) : slices_ContainsFunc_impl_Ext_impl_Ext_with_impl_loses_1.fv l0 a1_0 l1_1 l1_2 a1_3 = (slices_IndexFunc_impl_Ext_impl_Ext_with_impl_loses_1.fv l0 a1_0 l1_1 l1_2 a1_3).bind fun t390 => (some (decide (t390 ≥ 0))) := by
  refine Is.lim (g := fun k => slices_ContainsFunc_impl_Ext_impl_Ext_with_impl_loses_1.f k l0 a1_0 l1_1 l1_2 a1_3) ?_
  · unfold slices_ContainsFunc_impl_Ext_impl_Ext_with_impl_loses_1.f
    repeat' first
    | with_reducible exact slices_IndexFunc_impl_Ext_impl_Ext_with_impl_loses_1.f_is _ _ _ _ _
    | with_reducible exact Is.now _
    | with_reducible refine Is.ite ?_ ?_
    | with_reducible refine Is.bind ?_ (fun _ => ?_)
noncomputable def impl_loses.fv (a0_0 : Int) (l0_1 : List Int) (l0_2 : List Int) (a0_3 : Bool) (l1_0 : List Int) (l1_1 : List (S69)) : Option (Bool) := Lim fun k => impl_loses.f k a0_0 l0_1 l0_2 a0_3 l1_0 l1_1
theorem impl_loses.f_is (a0_0 : Int) (l0_1 : List Int) (l0_2 : List Int) (a0_3 : Bool) (l1_0 : List Int) (l1_1 : List (S69)) : Is (fun k => impl_loses.f k a0_0 l0_1 l0_2 a0_3 l1_0 l1_1) (impl_loses.fv a0_0 l0_1 l0_2 a0_3 l1_0 l1_1) := ⟨fun k => impl_loses.mono a0_0 l0_1 l0_2 a0_3 l1_0 l1_1 k, rfl⟩
theorem impl_loses.fv_eq (a0_0 : Int) (l0_1 : List Int) (l0_2 : List Int) (a0_3 : Bool) (l1_0 : List Int) (l1_1 : List (S69)) : impl_loses.fv a0_0 l0_1 l0_2 a0_3 l1_0 l1_1 = if a0_0 = 0 then ((slices_ContainsFunc_impl_Ext_impl_Ext_with_impl_loses_1.fv l1_1 a0_0 l0_1 l0_2 a0_3).bind fun t393 => (some t393)) else ((slices_Max_int_int.fv l1_0).bind fun t394 => (if t394 > a0_0 then (some true) else ((slices_ContainsFunc_impl_Ext_impl_Ext_with_impl_loses_1.fv l1_1 a0_0 l0_1 l0_2 a0_3).bind fun t395 => (some t395)))) := by
  refine Is.lim (g := fun k => impl_loses.f k a0_0 l0_1 l0_2 a0_3 l1_0 l1_1) ?_
  · unfold impl_loses.f
    repeat' first
    | with_reducible exact slices_ContainsFunc_impl_Ext_impl_Ext_with_impl_loses_1.f_is _ _ _ _ _
    | with_reducible exact slices_Max_int_int.f_is _
    | with_reducible exact Is.now _
    | with_reducible refine Is.ite ?_ ?_
    | with_reducible refine Is.bind ?_ (fun _ => ?_)
noncomputable def impl_PassBox_1.fv (a0 : Int) (a1_0 : Int) (l1_1 : List Int) (l1_2 : List Int) (a1_3 : Bool) : Option (Bool) := Lim fun k => impl_PassBox_1.f k a0 a1_0 l1_1 l1_2 a1_3
theorem impl_PassBox_1.f_is (a0 : Int) (a1_0 : Int) (l1_1 : List Int) (l1_2 : List Int) (a1_3 : Bool) : Is (fun k => impl_PassBox_1.f k a0 a1_0 l1_1 l1_2 a1_3) (impl_PassBox_1.fv a0 a1_0 l1_1 l1_2 a1_3) := ⟨fun k => impl_PassBox_1.mono a0 a1_0 l1_1 l1_2 a1_3 k, rfl⟩
theorem impl_PassBox_1.fv_eq (a0 : Int) (a1_0 : Int) (l1_1 : List Int) (l1_2 : List Int) (a1_3 : Bool) : impl_PassBox_1.fv a0 a1_0 l1_1 l1_2 a1_3 = (slices_Contains_int_int.fv l1_2 a0).bind fun t402 => (some (!t402)) := by
  refine Is.lim (g := fun k => impl_PassBox_1.f k a0 a1_0 l1_1 l1_2 a1_3) ?_
  · unfold impl_PassBox_1.f
    repeat' first
    | with_reducible exact slices_Contains_int_int.f_is _ _
    | with_reducible exact Is.now _
    | with_reducible refine Is.ite ?_ ?_
    | with_reducible refine Is.bind ?_ (fun _ => ?_)
noncomputable def impl_keptExts_with_impl_PassBox_1.l0v (x5 : List (S69)) (x9 : List (S69)) (x10 : Int) (x11 : Int) (x2000 : Int) (x2001 : List Int) (x2002 : List Int) (x2003 : Bool) : Option ((List (S69))) := Lim fun k => impl_keptExts_with_impl_PassBox_1.l0 k x5 x9 x10 x11 x2000 x2001 x2002 x2003
noncomputable def impl_keptExts_with_impl_PassBox_1.fv (l0 : List (S69)) (a1_0 : Int) (l1_1 : List Int) (l1_2 : List Int) (a1_3 : Bool) : Option ((List (S69))) := Lim fun k => impl_keptExts_with_impl_PassBox_1.f k l0 a1_0 l1_1 l1_2 a1_3
theorem impl_keptExts_with_impl_PassBox_1.l0_is (x5 : List (S69)) (x9 : List (S69)) (x10 : Int) (x11 : Int) (x2000 : Int) (x2001 : List Int) (x2002 : List Int) (x2003 : Bool) : Is (fun k => impl_keptExts_with_impl_PassBox_1.l0 k x5 x9 x10 x11 x2000 x2001 x2002 x2003) (impl_keptExts_with_impl_PassBox_1.l0v x5 x9 x10 x11 x2000 x2001 x2002 x2003) := ⟨fun k => (impl_keptExts_with_impl_PassBox_1.mono_l k) x5 x9 x10 x11 x2000 x2001 x2002 x2003, rfl⟩
theorem impl_keptExts_with_impl_PassBox_1.f_is (l0 : List (S69)) (a1_0 : Int) (l1_1 : List Int) (l1_2 : List Int) (a1_3 : Bool) : Is (fun k => impl_keptExts_with_impl_PassBox_1.f k l0 a1_0 l1_1 l1_2 a1_3) (impl_keptExts_with_impl_PassBox_1.fv l0 a1_0 l1_1 l1_2 a1_3) := ⟨fun k => impl_keptExts_with_impl_PassBox_1.mono l0 a1_0 l1_1 l1_2 a1_3 k, rfl⟩
theorem impl_keptExts_with_impl_PassBox_1.l0v_eq (x5 : List (S69)) (x9 : List (S69)) (x10 : Int) (x11 : Int) (x2000 : Int) (x2001 : List Int) (x2002 : List Int) (x2003 : Bool) : impl_keptExts_with_impl_PassBox_1.l0v x5 x9 x10 x11 x2000 x2001 x2002 x2003 = if x11 < x10 then (if 0 ≤ x11 then (if x11 < (x9.length : Int) then ((impl_PassBox_1.fv ((rd_T69 x9 x11).f0) x2000 x2001 x2002 x2003).bind fun t408 => (if t408 = true then ((some (([] : List Int) : List Int)).bind fun y409 => (if y409.length + ((rd_T69 x9 x11).f1).length < 17592186044416 then (if x5.length < 4398046511104 then (impl_keptExts_with_impl_PassBox_1.l0v (x5 ++ [(⟨(rd_T69 x9 x11).f0, (y409 ++ ((rd_T69 x9 x11).f1))⟩ : S69)]) x9 x10 (wrap64 (x11 + 1)) x2000 x2001 x2002 x2003) else (none)) else (none))) else (impl_keptExts_with_impl_PassBox_1.l0v x5 x9 x10 (wrap64 (x11 + 1)) x2000 x2001 x2002 x2003))) else (none)) else (none)) else (some x5) := by
  refine Is.step (impl_keptExts_with_impl_PassBox_1.l0_is x5 x9 x10 x11 x2000 x2001 x2002 x2003).mo (fun k => by rw [impl_keptExts_with_impl_PassBox_1.l0]) ?_
  · skip
    repeat' first
    | with_reducible exact impl_PassBox_1.f_is _ _ _ _ _
    | with_reducible exact impl_keptExts_with_impl_PassBox_1.l0_is _ _ _ _ _ _ _ _
    | with_reducible exact Is.now _
    | with_reducible refine Is.ite ?_ ?_
    | with_reducible refine Is.bind ?_ (fun _ => ?_)
theorem impl_keptExts_with_impl_PassBox_1.fv_eq (l0 : List (S69)) (a1_0 : Int) (l1_1 : List Int) (l1_2 : List Int) (a1_3 : Bool) : impl_keptExts_with_impl_PassBox_1.fv l0 a1_0 l1_1 l1_2 a1_3 = impl_keptExts_with_impl_PassBox_1.l0v (([] : List (S69))) l0 (l0.length : Int) 0 a1_0 l1_1 l1_2 a1_3 := by
  refine Is.lim (g := fun k => impl_keptExts_with_impl_PassBox_1.f k l0 a1_0 l1_1 l1_2 a1_3) ?_
  · unfold impl_keptExts_with_impl_PassBox_1.f
    repeat' first
    | with_reducible exact impl_keptExts_with_impl_PassBox_1.l0_is _ _ _ _ _ _ _ _
    | with_reducible exact Is.now _
    | with_reducible refine Is.ite ?_ ?_
    | with_reducible refine Is.bind ?_ (fun _ => ?_)
end Go.Proofs.Ytpoandlbmaljhaa.Print

/- Written by a program of this session (limx.py): the equations of what the printed functions come to. No condition. -/
namespace Go.Proofs.Ytpoandlbmaljhaa.Print
open Go.RowKit Go.Proofs.YtpoandlbmaljhaaW.PrintWords Go.Proofs.YtpoandlbmaljhaaW.PrintLast Go.Proofs.Ytpoandlbmaljhaa.Base
set_option linter.unusedVariables false
set_option maxRecDepth 20000
noncomputable def impl_PassBox.j0v (x18 : Bool) (x419000 : Int) (x419001 : List Int) (x419002 : List Int) (x419003 : Bool) (x420000 : List Int) (x420001 : List (S69)) : Option (List Int × (List (S69)) × Bool) := Lim fun k => impl_PassBox.j0 k x18 x419000 x419001 x419002 x419003 x420000 x420001
noncomputable def impl_PassBox.fv (a0_0 : Int) (l0_1 : List Int) (l0_2 : List Int) (a0_3 : Bool) (l1_0 : List Int) (l1_1 : List (S69)) : Option (List Int × (List (S69)) × Bool) := Lim fun k => impl_PassBox.f k a0_0 l0_1 l0_2 a0_3 l1_0 l1_1
theorem impl_PassBox.j0_is (x18 : Bool) (x419000 : Int) (x419001 : List Int) (x419002 : List Int) (x419003 : Bool) (x420000 : List Int) (x420001 : List (S69)) : Is (fun k => impl_PassBox.j0 k x18 x419000 x419001 x419002 x419003 x420000 x420001) (impl_PassBox.j0v x18 x419000 x419001 x419002 x419003 x420000 x420001) := ⟨fun k => (impl_PassBox.mono_l k) x18 x419000 x419001 x419002 x419003 x420000 x420001, rfl⟩
theorem impl_PassBox.f_is (a0_0 : Int) (l0_1 : List Int) (l0_2 : List Int) (a0_3 : Bool) (l1_0 : List Int) (l1_1 : List (S69)) : Is (fun k => impl_PassBox.f k a0_0 l0_1 l0_2 a0_3 l1_0 l1_1) (impl_PassBox.fv a0_0 l0_1 l0_2 a0_3 l1_0 l1_1) := ⟨fun k => impl_PassBox.mono a0_0 l0_1 l0_2 a0_3 l1_0 l1_1 k, rfl⟩
theorem impl_PassBox.j0v_eq (x18 : Bool) (x419000 : Int) (x419001 : List Int) (x419002 : List Int) (x419003 : Bool) (x420000 : List Int) (x420001 : List (S69)) : impl_PassBox.j0v x18 x419000 x419001 x419002 x419003 x420000 x420001 = if x18 = true then (some (([] : List Int), ([] : List (S69)), false)) else ((slices_Clone_int_int.f x420000).bind fun t424 => ((impl_keptExts_with_impl_PassBox_1.fv x420001 x419000 x419001 x419002 x419003).bind fun t427 => (some (t424, t427, true)))) := by
  refine Is.step (impl_PassBox.j0_is x18 x419000 x419001 x419002 x419003 x420000 x420001).mo (fun k => by rw [impl_PassBox.j0]) ?_
  · skip
    repeat' first
    | with_reducible exact impl_keptExts_with_impl_PassBox_1.f_is _ _ _ _ _
    | with_reducible exact Is.now _
    | with_reducible refine Is.ite ?_ ?_
    | with_reducible refine Is.bind ?_ (fun _ => ?_)
theorem impl_PassBox.fv_eq (a0_0 : Int) (l0_1 : List Int) (l0_2 : List Int) (a0_3 : Bool) (l1_0 : List Int) (l1_1 : List (S69)) : impl_PassBox.fv a0_0 l0_1 l0_2 a0_3 l1_0 l1_1 = (impl_IsBox.fv a0_0 l0_1 l0_2 a0_3).bind fun t421 => (if t421 = true then ((impl_IsHello.fv l1_0 l1_1).bind fun t422 => (if t422 = true then ((impl_loses.fv a0_0 l0_1 l0_2 a0_3 l1_0 l1_1).bind fun t423 => (impl_PassBox.j0v t423 a0_0 l0_1 l0_2 a0_3 l1_0 l1_1)) else (impl_PassBox.j0v true a0_0 l0_1 l0_2 a0_3 l1_0 l1_1))) else (impl_PassBox.j0v true a0_0 l0_1 l0_2 a0_3 l1_0 l1_1)) := by
  refine Is.lim (g := fun k => impl_PassBox.f k a0_0 l0_1 l0_2 a0_3 l1_0 l1_1) ?_
  · unfold impl_PassBox.f
    repeat' first
    | with_reducible exact impl_IsBox.f_is _ _ _ _
    | with_reducible exact impl_IsHello.f_is _ _
    | with_reducible exact impl_PassBox.j0_is _ _ _ _ _ _ _
    | with_reducible exact impl_loses.f_is _ _ _ _ _ _
    | with_reducible exact Is.now _
    | with_reducible refine Is.ite ?_ ?_
    | with_reducible refine Is.bind ?_ (fun _ => ?_)
noncomputable def impl_PassPath.j0v (x0 : List (S50)) (x16 : Bool) (x431000 : List Int) (x431001 : List (S69)) : Option (List Int × (List (S69)) × Bool) := Lim fun k => impl_PassPath.j0 k x0 x16 x431000 x431001
noncomputable def impl_PassPath.l0v (x0 : List (S50)) (x7 : Bool) (x8 : Int) (x440000 : List Int) (x440001 : List (S69)) : Option (List Int × (List (S69)) × Bool) := Lim fun k => impl_PassPath.l0 k x0 x7 x8 x440000 x440001
noncomputable def impl_PassPath.fv (l0 : List (S50)) (l1_0 : List Int) (l1_1 : List (S69)) : Option (List Int × (List (S69)) × Bool) := Lim fun k => impl_PassPath.f k l0 l1_0 l1_1
theorem impl_PassPath.j0_is (x0 : List (S50)) (x16 : Bool) (x431000 : List Int) (x431001 : List (S69)) : Is (fun k => impl_PassPath.j0 k x0 x16 x431000 x431001) (impl_PassPath.j0v x0 x16 x431000 x431001) := ⟨fun k => (impl_PassPath.mono_l k).1 x0 x16 x431000 x431001, rfl⟩
theorem impl_PassPath.l0_is (x0 : List (S50)) (x7 : Bool) (x8 : Int) (x440000 : List Int) (x440001 : List (S69)) : Is (fun k => impl_PassPath.l0 k x0 x7 x8 x440000 x440001) (impl_PassPath.l0v x0 x7 x8 x440000 x440001) := ⟨fun k => (impl_PassPath.mono_l k).2 x0 x7 x8 x440000 x440001, rfl⟩
theorem impl_PassPath.f_is (l0 : List (S50)) (l1_0 : List Int) (l1_1 : List (S69)) : Is (fun k => impl_PassPath.f k l0 l1_0 l1_1) (impl_PassPath.fv l0 l1_0 l1_1) := ⟨fun k => impl_PassPath.mono l0 l1_0 l1_1 k, rfl⟩
theorem impl_PassPath.j0v_eq (x0 : List (S50)) (x16 : Bool) (x431000 : List Int) (x431001 : List (S69)) : impl_PassPath.j0v x0 x16 x431000 x431001 = if x16 = true then (some (([] : List Int), ([] : List (S69)), false)) else ((impl_copyHello.fv x431000 x431001).bind fun bt433 => (impl_PassPath.l0v x0 true 0 bt433.1 bt433.2)) := by
  refine Is.step (impl_PassPath.j0_is x0 x16 x431000 x431001).mo (fun k => by rw [impl_PassPath.j0]) ?_
  · skip
    repeat' first
    | with_reducible exact impl_PassPath.l0_is _ _ _ _ _
    | with_reducible exact impl_copyHello.f_is _ _
    | with_reducible exact Is.now _
    | with_reducible refine Is.ite ?_ ?_
    | with_reducible refine Is.bind ?_ (fun _ => ?_)
theorem impl_PassPath.l0v_eq (x0 : List (S50)) (x7 : Bool) (x8 : Int) (x440000 : List Int) (x440001 : List (S69)) : impl_PassPath.l0v x0 x7 x8 x440000 x440001 = if x8 < (x0.length : Int) then (if x7 = true then (if 0 ≤ x8 then ((impl_PassBox.fv ((rd_T50 x0 x8).f0) ((rd_T50 x0 x8).f1) ((rd_T50 x0 x8).f2) ((rd_T50 x0 x8).f3) x440000 x440001).bind fun bt441 => (impl_PassPath.l0v x0 bt441.2.2 (wrap64 (x8 + 1)) bt441.1 bt441.2.1)) else (none)) else (some (x440000, x440001, x7))) else (some (x440000, x440001, x7)) := by
  refine Is.step (impl_PassPath.l0_is x0 x7 x8 x440000 x440001).mo (fun k => by rw [impl_PassPath.l0]) ?_
  · skip
    repeat' first
    | with_reducible exact impl_PassBox.f_is _ _ _ _ _ _
    | with_reducible exact impl_PassPath.l0_is _ _ _ _ _
    | with_reducible exact Is.now _
    | with_reducible refine Is.ite ?_ ?_
    | with_reducible refine Is.bind ?_ (fun _ => ?_)
theorem impl_PassPath.fv_eq (l0 : List (S50)) (l1_0 : List Int) (l1_1 : List (S69)) : impl_PassPath.fv l0 l1_0 l1_1 = (impl_IsHello.fv l1_0 l1_1).bind fun t432 => (if t432 = true then (impl_PassPath.j0v l0 (decide ((l0.length : Int) > 4)) l1_0 l1_1) else (impl_PassPath.j0v l0 true l1_0 l1_1)) := by
  refine Is.lim (g := fun k => impl_PassPath.f k l0 l1_0 l1_1) ?_
  · unfold impl_PassPath.f
    repeat' first
    | with_reducible exact impl_IsHello.f_is _ _
    | with_reducible exact impl_PassPath.j0_is _ _ _ _
    | with_reducible exact Is.now _
    | with_reducible refine Is.ite ?_ ?_
    | with_reducible refine Is.bind ?_ (fun _ => ?_)
noncomputable def impl_IsOpenPath.fv (l0 : List (S50)) (l1 : List Int) : Option (Bool) := Lim fun k => impl_IsOpenPath.f k l0 l1
theorem impl_IsOpenPath.f_is (l0 : List (S50)) (l1 : List Int) : Is (fun k => impl_IsOpenPath.f k l0 l1) (impl_IsOpenPath.fv l0 l1) := ⟨fun k => impl_IsOpenPath.mono l0 l1 k, rfl⟩
theorem impl_IsOpenPath.fv_eq (l0 : List (S50)) (l1 : List Int) : impl_IsOpenPath.fv l0 l1 = (impl_AreVersions.fv l1).bind fun t455 => (if t455 = true then (if 1 ≤ (l1.length : Int) then ((impl_PlainHello.f (l1.take 1)).bind fun bt457 => ((impl_PassPath.fv l0 bt457.1 bt457.2).bind fun bt463 => (some bt463.2.2))) else (none)) else (some false)) := by
  refine Is.lim (g := fun k => impl_IsOpenPath.f k l0 l1) ?_
  · unfold impl_IsOpenPath.f
    repeat' first
    | with_reducible exact impl_AreVersions.f_is _
    | with_reducible exact impl_PassPath.f_is _ _ _
    | with_reducible exact Is.now _
    | with_reducible refine Is.ite ?_ ?_
    | with_reducible refine Is.bind ?_ (fun _ => ?_)
end Go.Proofs.Ytpoandlbmaljhaa.Print

/- PassBox, of the program. Condition: at most 10 to the 12 of each. -/
set_option linter.unusedSimpArgs false
set_option linter.unusedVariables false
namespace Go.Proofs.Ytpoandlbmaljhaa.Plain
open Go.RowKit Go.Proofs.YtpoandlbmaljhaaW.PrintWords Go.Proofs.Ytpoandlbmaljhaa.Base Go.Proofs.Ytpoandlbmaljhaa.Print

theorem slMax_l0 (suf : List Int) : ∀ (pre : List Int) (m : Int), (pre ++ suf).length ≤ 1000000000000 → vers m suf = true → slices_Max_int_int.l0v (pre ++ suf) m (pre.length : Int) = some (suf.getLastD m) := by
  induction suf with
  | nil =>
    intro pre m _ _
    rw [slices_Max_int_int.l0v_eq, if_neg (nlt_end pre)]
    rfl
  | cons x suf ih =>
    intro pre m hl hv
    have hn : pre.length < (pre ++ x :: suf).length := by simp
    simp only [vers, Bool.and_eq_true, decide_eq_true_eq] at hv
    have hm : mx m x = x := by
      unfold mx
      split <;> omega
    rw [slices_Max_int_int.l0v_eq, if_pos (lt_mid pre suf x), if_pos (by omega), rd_mid, up_mid pre x hn hl, hm]
    rw [mid_snoc pre suf x] at hl ⊢
    rw [ih (pre ++ [x]) x hl hv.2.2, lastD_cons]
theorem slMax_v (l : List Int) (hl : l.length ≤ 1000000000000) (h : areV l = true) : slices_Max_int_int.fv l = some (l.getLastD 0) := by
  cases l with
  | nil => simp [areV] at h
  | cons x l =>
    simp only [areV, vers, Bool.and_eq_true] at h
    have h1 := slMax_l0 l [x] x (by simpa using hl) h.1.2.2
    have h0 : rd (x :: l) 0 = x := by simp [rd]
    rw [slices_Max_int_int.fv_eq, if_neg (by simp only [List.length_cons]; omega), if_pos (by simp only [List.length_cons]; omega), h0, lastD_cons]
    simpa using h1
theorem slClone_f (l : List Int) (hl : l.length ≤ 1000000000000) : slices_Clone_int_int.f l = some l := by
  unfold slices_Clone_int_int.f
  simp only [Option.bind_some, List.nil_append, List.length_nil, Nat.zero_add]
  rw [if_pos (by omega)]
theorem implLose1_v (b : S50) (t : Int) (l : List Int) (h : okB b) : impl_loses_1.fv t l b.f0 b.f1 b.f2 b.f3 = some (drops b t) := by
  rw [impl_loses_1.fv_eq, slHas_v _ _ h.1, slHas_v _ _ h.2, inRange_f]
  simp only [Option.bind_some, drops]
  generalize mem b.f1 t = x
  generalize mem b.f2 t = y
  generalize inR 1 3 t = z
  generalize b.f3 = u
  cases x <;> cases y <;> cases z <;> cases u <;> rfl
theorem implLose_l0 (b : S50) (h : okB b) (suf : List S69) : ∀ (pre : List S69), (pre ++ suf).length ≤ 1000000000000 →
    ∃ r, slices_IndexFunc_impl_Ext_impl_Ext_with_impl_loses_1.l0v (pre ++ suf) ((pre ++ suf).length : Int) (pre.length : Int) b.f0 b.f1 b.f2 b.f3 = some r ∧ decide (r ≥ 0) = suf.any (fun x => drops b x.f0) := by
  induction suf with
  | nil =>
    intro pre _
    refine ⟨-1, ?_, by simp⟩
    rw [slices_IndexFunc_impl_Ext_impl_Ext_with_impl_loses_1.l0v_eq, if_neg (nlt_end pre)]
  | cons x suf ih =>
    intro pre hl
    have hn : pre.length < (pre ++ x :: suf).length := by simp
    rw [slices_IndexFunc_impl_Ext_impl_Ext_with_impl_loses_1.l0v_eq, if_pos (lt_mid pre suf x), if_pos (by omega), if_pos (lt_mid pre suf x), rdExt_mid, implLose1_v b _ _ h]
    simp only [Option.bind_some, List.any_cons]
    cases hx : drops b x.f0 with
    | true =>
      rw [if_pos rfl]
      exact ⟨(pre.length : Int), rfl, by simp⟩
    | false =>
      rw [if_neg (by simp), up_mid pre x hn hl]
      rw [mid_snoc pre suf x] at hl ⊢
      obtain ⟨r, h1, h2⟩ := ih (pre ++ [x]) hl
      exact ⟨r, h1, by rw [h2]; rfl⟩
theorem implLoseX_v (b : S50) (h : okB b) (l : List S69) (hl : l.length ≤ 1000000000000) : slices_ContainsFunc_impl_Ext_impl_Ext_with_impl_loses_1.fv l b.f0 b.f1 b.f2 b.f3 = some (l.any (fun x => drops b x.f0)) := by
  obtain ⟨r, h1, h2⟩ := implLose_l0 b h l [] (by simpa using hl)
  rw [slices_ContainsFunc_impl_Ext_impl_Ext_with_impl_loses_1.fv_eq, slices_IndexFunc_impl_Ext_impl_Ext_with_impl_loses_1.fv_eq]
  simp only [List.nil_append, List.length_nil, Int.natCast_zero] at h1
  rw [h1]
  simp only [Option.bind_some, h2]
theorem implLose_v (b : S50) (v : List Int) (l : List S69) (h : okB b) (hv : v.length ≤ 1000000000000) (hl : l.length ≤ 1000000000000) (ha : areV v = true) : impl_loses.fv b.f0 b.f1 b.f2 b.f3 v l = some (lose b v l) := by
  rw [impl_loses.fv_eq, implLoseX_v b h l hl, slMax_v v hv ha]
  simp only [Option.bind_some, lose]
  by_cases h0 : b.f0 = 0
  · simp [h0]
  · by_cases h1 : v.getLastD 0 > b.f0
    · rw [if_neg h0, if_pos h1]
      simp only [h0, h1, decide_true, decide_false, Bool.not_false, Bool.and_self, Bool.true_or]
    · rw [if_neg h0, if_neg h1]
      simp only [h1, decide_false, Bool.and_false, Bool.false_or]
theorem implKept_l0 (b : S50) (h : okB b) (suf : List S69) : ∀ (pre out : List S69), (pre ++ suf).length ≤ 1000000000000 → out.length ≤ pre.length → okXs suf →
    impl_keptExts_with_impl_PassBox_1.l0v out (pre ++ suf) ((pre ++ suf).length : Int) (pre.length : Int) b.f0 b.f1 b.f2 b.f3 = some (out ++ kept b suf) := by
  induction suf with
  | nil =>
    intro pre out _ _ _
    rw [impl_keptExts_with_impl_PassBox_1.l0v_eq, if_neg (nlt_end pre)]
    simp [kept]
  | cons x suf ih =>
    intro pre out hl ho hs
    have hn : pre.length < (pre ++ x :: suf).length := by simp
    have hp : pre.length < 1000000000000 := by omega
    have hx := hs x List.mem_cons_self
    have hs' : okXs suf := fun y hy => hs y (List.mem_cons_of_mem _ hy)
    rw [impl_keptExts_with_impl_PassBox_1.l0v_eq, if_pos (lt_mid pre suf x), if_pos (by omega), if_pos (lt_mid pre suf x), rdExt_mid, impl_PassBox_1.fv_eq, slHas_v _ _ h.2, up_mid pre x hn hl]
    simp only [Option.bind_some, List.nil_append, List.length_nil, Nat.zero_add]
    rw [mid_snoc pre suf x] at hl ⊢
    cases hm : mem b.f2 x.f0 with
    | true =>
      rw [if_neg (by simp), ih (pre ++ [x]) out hl (by simp; omega) hs']
      simp [kept, hm]
    | false =>
      rw [if_pos (show (!false) = true from rfl), if_pos (by omega), if_pos (by omega), ih (pre ++ [x]) _ hl (by simp; omega) hs']
      simp [kept, hm]
theorem implKept_v (b : S50) (h : okB b) (l : List S69) (hl : l.length ≤ 1000000000000) (hs : okXs l) : impl_keptExts_with_impl_PassBox_1.fv l b.f0 b.f1 b.f2 b.f3 = some (kept b l) := by
  rw [impl_keptExts_with_impl_PassBox_1.fv_eq]
  simpa using implKept_l0 b h l [] [] (by simpa using hl) (by simp) hs
theorem implPass_v (b : S50) (v : List Int) (l : List S69) (h : okB b) (hv : v.length ≤ 1000000000000) (hl : l.length ≤ 1000000000000) (hs : okXs l) : impl_PassBox.fv b.f0 b.f1 b.f2 b.f3 v l = some (pass b v l) := by
  rw [impl_PassBox.fv_eq, implIsB_v b h, implHello_v v l hv hl hs]
  simp only [Option.bind_some, impl_PassBox.j0v_eq, slClone_f v hv, implKept_v b h l hl hs, pass]
  cases isB b with
  | false => simp
  | true =>
    cases hh : isH v l with
    | false => simp
    | true =>
      have ha : areV v = true := by
        simp only [isH, Bool.and_eq_true] at hh
        exact hh.1
      rw [if_pos rfl, if_pos rfl, implLose_v b v l h hv hl ha]
      simp only [Option.bind_some]
      cases lose b v l <;> simp
end Go.Proofs.Ytpoandlbmaljhaa.Plain

/- PassPath, of the program. Condition: at most 10 to the 12 of each. -/
set_option linter.unusedSimpArgs false
set_option linter.unusedVariables false
namespace Go.Proofs.Ytpoandlbmaljhaa.Plain
open Go.RowKit Go.Proofs.YtpoandlbmaljhaaW.PrintWords Go.Proofs.Ytpoandlbmaljhaa.Base Go.Proofs.Ytpoandlbmaljhaa.Print

theorem implCopy_l0 (suf : List S69) : ∀ (pre out : List S69), (pre ++ suf).length ≤ 1000000000000 → out.length ≤ pre.length → okXs suf →
    impl_keptExts_with_impl_copyExts_1.l0v out (pre ++ suf) ((pre ++ suf).length : Int) (pre.length : Int) = some (out ++ suf) := by
  induction suf with
  | nil =>
    intro pre out _ _ _
    rw [impl_keptExts_with_impl_copyExts_1.l0v_eq, if_neg (nlt_end pre)]
    simp
  | cons x suf ih =>
    intro pre out hl ho hs
    have hn : pre.length < (pre ++ x :: suf).length := by simp
    have hp : pre.length < 1000000000000 := by omega
    have hx := hs x List.mem_cons_self
    have hs' : okXs suf := fun y hy => hs y (List.mem_cons_of_mem _ hy)
    rw [impl_keptExts_with_impl_copyExts_1.l0v_eq, if_pos (lt_mid pre suf x), if_pos (by omega), if_pos (lt_mid pre suf x), rdExt_mid, up_mid pre x hn hl]
    unfold impl_copyExts_1.f
    simp only [Option.bind_some, List.nil_append, List.length_nil, Nat.zero_add, if_true]
    rw [mid_snoc pre suf x] at hl ⊢
    rw [if_pos (by omega), if_pos (by omega), ih (pre ++ [x]) _ hl (by simp; omega) hs']
    simp
theorem implCopyH_v (v : List Int) (l : List S69) (hv : v.length ≤ 1000000000000) (hl : l.length ≤ 1000000000000) (hs : okXs l) : impl_copyHello.fv v l = some (v, l) := by
  have h := implCopy_l0 l [] [] (by simpa using hl) (by simp) hs
  simp only [List.nil_append, List.length_nil, Int.natCast_zero] at h
  rw [impl_copyHello.fv_eq, impl_copyExts.fv_eq, impl_keptExts_with_impl_copyExts_1.fv_eq]
  simp only [Option.bind_some, List.nil_append, List.length_nil, Nat.zero_add, h, show v.length < 17592186044416 by omega, if_true]
theorem implGoP_l0 (suf : List S50) : ∀ (pre : List S50) (o : Bool) (v : List Int) (l : List S69), (pre ++ suf).length ≤ 1000000000000 → (∀ x ∈ suf, okB x) → v.length ≤ 1000000000000 → l.length ≤ 1000000000000 → okXs l →
    impl_PassPath.l0v (pre ++ suf) o (pre.length : Int) v l = some (goP suf o v l) := by
  induction suf with
  | nil =>
    intro pre o v l _ _ _ _ _
    rw [impl_PassPath.l0v_eq, if_neg (nlt_end pre)]
    rfl
  | cons b suf ih =>
    intro pre o v l hp hs hv hl hx
    have hn : pre.length < (pre ++ b :: suf).length := by simp
    rw [impl_PassPath.l0v_eq, if_pos (lt_mid pre suf b)]
    cases o with
    | false =>
      rw [if_neg (by simp)]
      rfl
    | true =>
      obtain ⟨a1, a2, a3⟩ := pass_ok b v l hx
      rw [if_pos rfl, if_pos (by omega), rdBox_mid, implPass_v b v l (hs b List.mem_cons_self) hv hl hx, up_mid pre b hn hp]
      simp only [Option.bind_some]
      rw [mid_snoc pre suf b] at hp ⊢
      rw [ih (pre ++ [b]) _ _ _ hp (fun y hy => hs y (List.mem_cons_of_mem _ hy)) (by omega) (by omega) a3]
      rfl
theorem implPassP_v (p : List S50) (v : List Int) (l : List S69) (hp : p.length ≤ 1000000000000) (hs : ∀ x ∈ p, okB x) (hv : v.length ≤ 1000000000000) (hl : l.length ≤ 1000000000000) (hx : okXs l) : impl_PassPath.fv p v l = some (passP p v l) := by
  have h := implGoP_l0 p [] true v l (by simpa using hp) hs hv hl hx
  simp only [List.nil_append, List.length_nil, Int.natCast_zero] at h
  rw [impl_PassPath.fv_eq, implHello_v v l hv hl hx]
  simp only [Option.bind_some, impl_PassPath.j0v_eq, implCopyH_v v l hv hl hx, h, passP]
  cases isH v l with
  | false => simp
  | true =>
    by_cases h4 : p.length ≤ 4
    · rw [if_pos rfl, if_neg (by simp; omega)]
      simp [h4]
    · rw [if_pos rfl, if_pos (by simp; omega)]
      simp [h4]
end Go.Proofs.Ytpoandlbmaljhaa.Plain

/- Written by a program of this session (limx.py): the equations of what the printed functions come to. No condition. -/
namespace Go.Proofs.Ytpoandlbmaljhaa.Print
open Go.RowKit Go.Proofs.YtpoandlbmaljhaaW.PrintWords Go.Proofs.YtpoandlbmaljhaaW.PrintLast Go.Proofs.Ytpoandlbmaljhaa.Base
set_option linter.unusedVariables false
set_option maxRecDepth 20000
noncomputable def slices_Equal_int_int.l0v (x0 : List Int) (x1 : List Int) (x12 : Int) (x13 : Int) : Option (Bool) := Lim fun k => slices_Equal_int_int.l0 k x0 x1 x12 x13
noncomputable def slices_Equal_int_int.fv (l0 : List Int) (l1 : List Int) : Option (Bool) := Lim fun k => slices_Equal_int_int.f k l0 l1
theorem slices_Equal_int_int.l0_is (x0 : List Int) (x1 : List Int) (x12 : Int) (x13 : Int) : Is (fun k => slices_Equal_int_int.l0 k x0 x1 x12 x13) (slices_Equal_int_int.l0v x0 x1 x12 x13) := ⟨fun k => (slices_Equal_int_int.mono_l k) x0 x1 x12 x13, rfl⟩
theorem slices_Equal_int_int.f_is (l0 : List Int) (l1 : List Int) : Is (fun k => slices_Equal_int_int.f k l0 l1) (slices_Equal_int_int.fv l0 l1) := ⟨fun k => slices_Equal_int_int.mono l0 l1 k, rfl⟩
theorem slices_Equal_int_int.l0v_eq (x0 : List Int) (x1 : List Int) (x12 : Int) (x13 : Int) : slices_Equal_int_int.l0v x0 x1 x12 x13 = if x13 < x12 then (if 0 ≤ x13 then (if x13 < (x0.length : Int) then (if x13 < (x1.length : Int) then (if (rd x0 x13) = (rd x1 x13) then (slices_Equal_int_int.l0v x0 x1 x12 (wrap64 (x13 + 1))) else (some false)) else (none)) else (none)) else (none)) else (some true) := by
  refine Is.step (slices_Equal_int_int.l0_is x0 x1 x12 x13).mo (fun k => by rw [slices_Equal_int_int.l0]) ?_
  · skip
    repeat' first
    | with_reducible exact slices_Equal_int_int.l0_is _ _ _ _
    | with_reducible exact Is.now _
    | with_reducible refine Is.ite ?_ ?_
    | with_reducible refine Is.bind ?_ (fun _ => ?_)
theorem slices_Equal_int_int.fv_eq (l0 : List Int) (l1 : List Int) : slices_Equal_int_int.fv l0 l1 = if (l0.length : Int) = (l1.length : Int) then (slices_Equal_int_int.l0v l0 l1 (l0.length : Int) 0) else (some false) := by
  refine Is.lim (g := fun k => slices_Equal_int_int.f k l0 l1) ?_
  · unfold slices_Equal_int_int.f
    repeat' first
    | with_reducible exact slices_Equal_int_int.l0_is _ _ _ _
    | with_reducible exact Is.now _
    | with_reducible refine Is.ite ?_ ?_
    | with_reducible refine Is.bind ?_ (fun _ => ?_)
noncomputable def impl_equalExt.fv (a0_0 : Int) (l0_1 : List Int) (a1_0 : Int) (l1_1 : List Int) : Option (Bool) := Lim fun k => impl_equalExt.f k a0_0 l0_1 a1_0 l1_1
theorem impl_equalExt.f_is (a0_0 : Int) (l0_1 : List Int) (a1_0 : Int) (l1_1 : List Int) : Is (fun k => impl_equalExt.f k a0_0 l0_1 a1_0 l1_1) (impl_equalExt.fv a0_0 l0_1 a1_0 l1_1) := ⟨fun k => impl_equalExt.mono a0_0 l0_1 a1_0 l1_1 k, rfl⟩
theorem impl_equalExt.fv_eq (a0_0 : Int) (l0_1 : List Int) (a1_0 : Int) (l1_1 : List Int) : impl_equalExt.fv a0_0 l0_1 a1_0 l1_1 = if a0_0 = a1_0 then ((slices_Equal_int_int.fv l0_1 l1_1).bind fun t475 => (some t475)) else (some false) := by
  refine Is.lim (g := fun k => impl_equalExt.f k a0_0 l0_1 a1_0 l1_1) ?_
  · unfold impl_equalExt.f
    repeat' first
    | with_reducible exact slices_Equal_int_int.f_is _ _
    | with_reducible exact Is.now _
    | with_reducible refine Is.ite ?_ ?_
    | with_reducible refine Is.bind ?_ (fun _ => ?_)
noncomputable def slices_EqualFunc_impl_Ext_impl_Ext_impl_Ext_impl_Ext_with_impl_equalExt.l0v (x1 : List (S69)) (x15 : List (S69)) (x16 : Int) (x17 : Int) : Option (Bool) := Lim fun k => slices_EqualFunc_impl_Ext_impl_Ext_impl_Ext_impl_Ext_with_impl_equalExt.l0 k x1 x15 x16 x17
noncomputable def slices_EqualFunc_impl_Ext_impl_Ext_impl_Ext_impl_Ext_with_impl_equalExt.fv (l0 : List (S69)) (l1 : List (S69)) : Option (Bool) := Lim fun k => slices_EqualFunc_impl_Ext_impl_Ext_impl_Ext_impl_Ext_with_impl_equalExt.f k l0 l1
theorem slices_EqualFunc_impl_Ext_impl_Ext_impl_Ext_impl_Ext_with_impl_equalExt.l0_is (x1 : List (S69)) (x15 : List (S69)) (x16 : Int) (x17 : Int) : Is (fun k => slices_EqualFunc_impl_Ext_impl_Ext_impl_Ext_impl_Ext_with_impl_equalExt.l0 k x1 x15 x16 x17) (slices_EqualFunc_impl_Ext_impl_Ext_impl_Ext_impl_Ext_with_impl_equalExt.l0v x1 x15 x16 x17) := ⟨fun k => (slices_EqualFunc_impl_Ext_impl_Ext_impl_Ext_impl_Ext_with_impl_equalExt.mono_l k) x1 x15 x16 x17, rfl⟩
theorem slices_EqualFunc_impl_Ext_impl_Ext_impl_Ext_impl_Ext_with_impl_equalExt.f_is (l0 : List (S69)) (l1 : List (S69)) : Is (fun k => slices_EqualFunc_impl_Ext_impl_Ext_impl_Ext_impl_Ext_with_impl_equalExt.f k l0 l1) (slices_EqualFunc_impl_Ext_impl_Ext_impl_Ext_impl_Ext_with_impl_equalExt.fv l0 l1) := ⟨fun k => slices_EqualFunc_impl_Ext_impl_Ext_impl_Ext_impl_Ext_with_impl_equalExt.mono l0 l1 k, rfl⟩
theorem slices_EqualFunc_impl_Ext_impl_Ext_impl_Ext_impl_Ext_with_impl_equalExt.l0v_eq (x1 : List (S69)) (x15 : List (S69)) (x16 : Int) (x17 : Int) : slices_EqualFunc_impl_Ext_impl_Ext_impl_Ext_impl_Ext_with_impl_equalExt.l0v x1 x15 x16 x17 = if x17 < x16 then (if 0 ≤ x17 then (if x17 < (x15.length : Int) then (if x17 < (x1.length : Int) then ((impl_equalExt.fv ((rd_T69 x15 x17).f0) ((rd_T69 x15 x17).f1) ((rd_T69 x1 x17).f0) ((rd_T69 x1 x17).f1)).bind fun t480 => (if t480 = true then (slices_EqualFunc_impl_Ext_impl_Ext_impl_Ext_impl_Ext_with_impl_equalExt.l0v x1 x15 x16 (wrap64 (x17 + 1))) else (some false))) else (none)) else (none)) else (none)) else (some true) := by
  refine Is.step (slices_EqualFunc_impl_Ext_impl_Ext_impl_Ext_impl_Ext_with_impl_equalExt.l0_is x1 x15 x16 x17).mo (fun k => by rw [slices_EqualFunc_impl_Ext_impl_Ext_impl_Ext_impl_Ext_with_impl_equalExt.l0]) ?_
  · skip
    repeat' first
    | with_reducible exact impl_equalExt.f_is _ _ _ _
    | with_reducible exact slices_EqualFunc_impl_Ext_impl_Ext_impl_Ext_impl_Ext_with_impl_equalExt.l0_is _ _ _ _
    | with_reducible exact Is.now _
    | with_reducible refine Is.ite ?_ ?_
    | with_reducible refine Is.bind ?_ (fun _ => ?_)
theorem slices_EqualFunc_impl_Ext_impl_Ext_impl_Ext_impl_Ext_with_impl_equalExt.fv_eq (l0 : List (S69)) (l1 : List (S69)) : slices_EqualFunc_impl_Ext_impl_Ext_impl_Ext_impl_Ext_with_impl_equalExt.fv l0 l1 = if (l0.length : Int) = (l1.length : Int) then (slices_EqualFunc_impl_Ext_impl_Ext_impl_Ext_impl_Ext_with_impl_equalExt.l0v l1 l0 (l0.length : Int) 0) else (some false) := by
  refine Is.lim (g := fun k => slices_EqualFunc_impl_Ext_impl_Ext_impl_Ext_impl_Ext_with_impl_equalExt.f k l0 l1) ?_
  · unfold slices_EqualFunc_impl_Ext_impl_Ext_impl_Ext_impl_Ext_with_impl_equalExt.f
    repeat' first
    | with_reducible exact slices_EqualFunc_impl_Ext_impl_Ext_impl_Ext_impl_Ext_with_impl_equalExt.l0_is _ _ _ _
    | with_reducible exact Is.now _
    | with_reducible refine Is.ite ?_ ?_
    | with_reducible refine Is.bind ?_ (fun _ => ?_)
noncomputable def impl_EqualExts.fv (l0 : List (S69)) (l1 : List (S69)) : Option (Bool) := Lim fun k => impl_EqualExts.f k l0 l1
theorem impl_EqualExts.f_is (l0 : List (S69)) (l1 : List (S69)) : Is (fun k => impl_EqualExts.f k l0 l1) (impl_EqualExts.fv l0 l1) := ⟨fun k => impl_EqualExts.mono l0 l1 k, rfl⟩
theorem impl_EqualExts.fv_eq (l0 : List (S69)) (l1 : List (S69)) : impl_EqualExts.fv l0 l1 = (slices_EqualFunc_impl_Ext_impl_Ext_impl_Ext_impl_Ext_with_impl_equalExt.fv l0 l1).bind fun t481 => (some t481) := by
  refine Is.lim (g := fun k => impl_EqualExts.f k l0 l1) ?_
  · unfold impl_EqualExts.f
    repeat' first
    | with_reducible exact slices_EqualFunc_impl_Ext_impl_Ext_impl_Ext_impl_Ext_with_impl_equalExt.f_is _ _
    | with_reducible exact Is.now _
    | with_reducible refine Is.ite ?_ ?_
    | with_reducible refine Is.bind ?_ (fun _ => ?_)
noncomputable def impl_EqualHellos.fv (l0_0 : List Int) (l0_1 : List (S69)) (l1_0 : List Int) (l1_1 : List (S69)) : Option (Bool) := Lim fun k => impl_EqualHellos.f k l0_0 l0_1 l1_0 l1_1
theorem impl_EqualHellos.f_is (l0_0 : List Int) (l0_1 : List (S69)) (l1_0 : List Int) (l1_1 : List (S69)) : Is (fun k => impl_EqualHellos.f k l0_0 l0_1 l1_0 l1_1) (impl_EqualHellos.fv l0_0 l0_1 l1_0 l1_1) := ⟨fun k => impl_EqualHellos.mono l0_0 l0_1 l1_0 l1_1 k, rfl⟩
theorem impl_EqualHellos.fv_eq (l0_0 : List Int) (l0_1 : List (S69)) (l1_0 : List Int) (l1_1 : List (S69)) : impl_EqualHellos.fv l0_0 l0_1 l1_0 l1_1 = (slices_Equal_int_int.fv l0_0 l1_0).bind fun t484 => (if t484 = true then ((impl_EqualExts.fv l0_1 l1_1).bind fun t485 => (some t485)) else (some false)) := by
  refine Is.lim (g := fun k => impl_EqualHellos.f k l0_0 l0_1 l1_0 l1_1) ?_
  · unfold impl_EqualHellos.f
    repeat' first
    | with_reducible exact impl_EqualExts.f_is _ _
    | with_reducible exact slices_Equal_int_int.f_is _ _
    | with_reducible exact Is.now _
    | with_reducible refine Is.ite ?_ ?_
    | with_reducible refine Is.bind ?_ (fun _ => ?_)
noncomputable def impl_PassesWhole.fv (l0_0 : List Int) (l0_1 : List (S69)) (l1 : List (S50)) : Option (Bool) := Lim fun k => impl_PassesWhole.f k l0_0 l0_1 l1
theorem impl_PassesWhole.f_is (l0_0 : List Int) (l0_1 : List (S69)) (l1 : List (S50)) : Is (fun k => impl_PassesWhole.f k l0_0 l0_1 l1) (impl_PassesWhole.fv l0_0 l0_1 l1) := ⟨fun k => impl_PassesWhole.mono l0_0 l0_1 l1 k, rfl⟩
theorem impl_PassesWhole.fv_eq (l0_0 : List Int) (l0_1 : List (S69)) (l1 : List (S50)) : impl_PassesWhole.fv l0_0 l0_1 l1 = (impl_PassPath.fv l1 l0_0 l0_1).bind fun bt487 => (if bt487.2.2 = true then ((impl_EqualHellos.fv bt487.1 bt487.2.1 l0_0 l0_1).bind fun t495 => (some t495)) else (some false)) := by
  refine Is.lim (g := fun k => impl_PassesWhole.f k l0_0 l0_1 l1) ?_
  · unfold impl_PassesWhole.f
    repeat' first
    | with_reducible exact impl_EqualHellos.f_is _ _ _ _
    | with_reducible exact impl_PassPath.f_is _ _ _
    | with_reducible exact Is.now _
    | with_reducible refine Is.ite ?_ ?_
    | with_reducible refine Is.bind ?_ (fun _ => ?_)
end Go.Proofs.Ytpoandlbmaljhaa.Print

/- slices.Equal on whole numbers. Condition: at most 10 to the 12 numbers. -/
set_option linter.unusedSimpArgs false
set_option linter.unusedVariables false
namespace Go.Proofs.Ytpoandlbmaljhaa.Plain
open Go.RowKit Go.Proofs.YtpoandlbmaljhaaW.PrintWords Go.Proofs.Ytpoandlbmaljhaa.Base Go.Proofs.Ytpoandlbmaljhaa.Print

theorem slicesEqual_l0 (sa : List Int) : ∀ (pre sb : List Int), sb.length = sa.length → (pre ++ sa).length ≤ 1000000000000 → slices_Equal_int_int.l0v (pre ++ sa) (pre ++ sb) ((pre ++ sa).length : Int) (pre.length : Int) = some (decide (sa = sb)) := by
  induction sa with
  | nil =>
    intro pre sb hr _
    rw [slices_Equal_int_int.l0v_eq, if_neg (nlt_end pre)]
    simp at hr
    simp [hr]
  | cons x sa ih =>
    intro pre sb hr hl
    cases sb with
    | nil => simp at hr
    | cons y sb =>
      have hn : pre.length < (pre ++ x :: sa).length := by simp
      rw [slices_Equal_int_int.l0v_eq, if_pos (lt_mid pre sa x), if_pos (by omega), if_pos (lt_mid pre sa x), if_pos (lt_mid pre sb y), rd_mid, rd_mid, up_mid pre x hn hl]
      by_cases hxy : x = y
      · subst hxy
        rw [if_pos rfl]
        rw [mid_snoc pre sa x] at hl ⊢
        rw [mid_snoc pre sb x]
        rw [ih (pre ++ [x]) sb (by simpa using hr) hl]
        simp
      · rw [if_neg hxy]
        simp [hxy]
theorem slicesEqual_v (a b : List Int) (hl : a.length ≤ 1000000000000) : slices_Equal_int_int.fv a b = some (decide (a = b)) := by
  rw [slices_Equal_int_int.fv_eq]
  by_cases h : a.length = b.length
  · rw [if_pos (by omega)]
    have h1 := slicesEqual_l0 a [] b h.symm (by simpa using hl)
    simpa using h1
  · rw [if_neg (by omega)]
    have : a ≠ b := fun e => h (by rw [e])
    simp [this]
end Go.Proofs.Ytpoandlbmaljhaa.Plain

/- Written by a program of this session (limx.py): the equations of what the printed functions come to. No condition. -/
namespace Go.Proofs.Ytpoandlbmaljhaa.Print
open Go.RowKit Go.Proofs.YtpoandlbmaljhaaW.PrintWords Go.Proofs.YtpoandlbmaljhaaW.PrintLast Go.Proofs.Ytpoandlbmaljhaa.Base
set_option linter.unusedVariables false
set_option maxRecDepth 20000
noncomputable def impl_LostTags.j0v (x0 : List (S50)) (x1 : List Int) (x2 : List (S69)) (x7 : List Int) (x19 : Bool) : Option (List Int) := Lim fun k => impl_LostTags.j0 k x0 x1 x2 x7 x19
noncomputable def impl_LostTags.l0v (x0 : List (S50)) (x1 : List Int) (x7 : List Int) (x21 : List (S69)) (x22 : Int) (x23 : Int) : Option (List Int) := Lim fun k => impl_LostTags.l0 k x0 x1 x7 x21 x22 x23
noncomputable def impl_LostTags.fv (l0 : List (S50)) (l1 : List Int) (l2 : List (S69)) : Option (List Int) := Lim fun k => impl_LostTags.f k l0 l1 l2
theorem impl_LostTags.j0_is (x0 : List (S50)) (x1 : List Int) (x2 : List (S69)) (x7 : List Int) (x19 : Bool) : Is (fun k => impl_LostTags.j0 k x0 x1 x2 x7 x19) (impl_LostTags.j0v x0 x1 x2 x7 x19) := ⟨fun k => (impl_LostTags.mono_l k).1 x0 x1 x2 x7 x19, rfl⟩
theorem impl_LostTags.l0_is (x0 : List (S50)) (x1 : List Int) (x7 : List Int) (x21 : List (S69)) (x22 : Int) (x23 : Int) : Is (fun k => impl_LostTags.l0 k x0 x1 x7 x21 x22 x23) (impl_LostTags.l0v x0 x1 x7 x21 x22 x23) := ⟨fun k => (impl_LostTags.mono_l k).2 x0 x1 x7 x21 x22 x23, rfl⟩
theorem impl_LostTags.f_is (l0 : List (S50)) (l1 : List Int) (l2 : List (S69)) : Is (fun k => impl_LostTags.f k l0 l1 l2) (impl_LostTags.fv l0 l1 l2) := ⟨fun k => impl_LostTags.mono l0 l1 l2 k, rfl⟩
theorem impl_LostTags.j0v_eq (x0 : List (S50)) (x1 : List Int) (x2 : List (S69)) (x7 : List Int) (x19 : Bool) : impl_LostTags.j0v x0 x1 x2 x7 x19 = if x19 = true then (some x7) else (impl_LostTags.l0v x0 x1 x7 x2 (x2.length : Int) 0) := by
  refine Is.step (impl_LostTags.j0_is x0 x1 x2 x7 x19).mo (fun k => by rw [impl_LostTags.j0]) ?_
  · skip
    repeat' first
    | with_reducible exact impl_LostTags.l0_is _ _ _ _ _ _
    | with_reducible exact Is.now _
    | with_reducible refine Is.ite ?_ ?_
    | with_reducible refine Is.bind ?_ (fun _ => ?_)
theorem impl_LostTags.l0v_eq (x0 : List (S50)) (x1 : List Int) (x7 : List Int) (x21 : List (S69)) (x22 : Int) (x23 : Int) : impl_LostTags.l0v x0 x1 x7 x21 x22 x23 = if x23 < x22 then (if 0 ≤ x23 then (if x23 < (x21.length : Int) then (if 1 ≤ (x1.length : Int) then ((impl_PassesWhole.fv (x1.take 1) (([(⟨(rd_T69 x21 x23).f0, (rd_T69 x21 x23).f1⟩ : S69)] : List (S69))) x0).bind fun t507 => (if t507 = true then (impl_LostTags.l0v x0 x1 x7 x21 x22 (wrap64 (x23 + 1))) else (if x7.length < 17592186044416 then (impl_LostTags.l0v x0 x1 (x7 ++ [(rd_T69 x21 x23).f0]) x21 x22 (wrap64 (x23 + 1))) else (none)))) else (none)) else (none)) else (none)) else (some x7) := by
  refine Is.step (impl_LostTags.l0_is x0 x1 x7 x21 x22 x23).mo (fun k => by rw [impl_LostTags.l0]) ?_
  · skip
    repeat' first
    | with_reducible exact impl_LostTags.l0_is _ _ _ _ _ _
    | with_reducible exact impl_PassesWhole.f_is _ _ _
    | with_reducible exact Is.now _
    | with_reducible refine Is.ite ?_ ?_
    | with_reducible refine Is.bind ?_ (fun _ => ?_)
theorem impl_LostTags.fv_eq (l0 : List (S50)) (l1 : List Int) (l2 : List (S69)) : impl_LostTags.fv l0 l1 l2 = (some (([] : List Int) : List Int)).bind fun y496 => ((impl_IsOpenPath.fv l0 l1).bind fun t499 => (if t499 = true then ((impl_AreExts.fv l2).bind fun t500 => (impl_LostTags.j0v l0 l1 l2 y496 (!t500))) else (impl_LostTags.j0v l0 l1 l2 y496 true))) := by
  refine Is.lim (g := fun k => impl_LostTags.f k l0 l1 l2) ?_
  · unfold impl_LostTags.f
    repeat' first
    | with_reducible exact impl_AreExts.f_is _
    | with_reducible exact impl_IsOpenPath.f_is _ _
    | with_reducible exact impl_LostTags.j0_is _ _ _ _ _
    | with_reducible exact Is.now _
    | with_reducible refine Is.ite ?_ ?_
    | with_reducible refine Is.bind ?_ (fun _ => ?_)
noncomputable def impl_isLost.fv (l0 : List (S50)) (l1 : List Int) (a2 : Int) : Option (Bool) := Lim fun k => impl_isLost.f k l0 l1 a2
theorem impl_isLost.f_is (l0 : List (S50)) (l1 : List Int) (a2 : Int) : Is (fun k => impl_isLost.f k l0 l1 a2) (impl_isLost.fv l0 l1 a2) := ⟨fun k => impl_isLost.mono l0 l1 a2 k, rfl⟩
theorem impl_isLost.fv_eq (l0 : List (S50)) (l1 : List Int) (a2 : Int) : impl_isLost.fv l0 l1 a2 = (impl_LostTags.fv l0 l1 (([(⟨a2, ([] : List Int)⟩ : S69)] : List (S69)))).bind fun t514 => (some (decide ((t514.length : Int) > 0))) := by
  refine Is.lim (g := fun k => impl_isLost.f k l0 l1 a2) ?_
  · unfold impl_isLost.f
    repeat' first
    | with_reducible exact impl_LostTags.f_is _ _ _
    | with_reducible exact Is.now _
    | with_reducible refine Is.ite ?_ ?_
    | with_reducible refine Is.bind ?_ (fun _ => ?_)
noncomputable def impl_HardnessOf.l0v (x0 : List (S50)) (x1 : List Int) (x5 : Int) (x8 : List Int) (x9 : Int) (x10 : Int) : Option (Int) := Lim fun k => impl_HardnessOf.l0 k x0 x1 x5 x8 x9 x10
noncomputable def impl_HardnessOf.fv (l0 : List (S50)) (l1 : List Int) : Option (Int) := Lim fun k => impl_HardnessOf.f k l0 l1
theorem impl_HardnessOf.l0_is (x0 : List (S50)) (x1 : List Int) (x5 : Int) (x8 : List Int) (x9 : Int) (x10 : Int) : Is (fun k => impl_HardnessOf.l0 k x0 x1 x5 x8 x9 x10) (impl_HardnessOf.l0v x0 x1 x5 x8 x9 x10) := ⟨fun k => (impl_HardnessOf.mono_l k) x0 x1 x5 x8 x9 x10, rfl⟩
theorem impl_HardnessOf.f_is (l0 : List (S50)) (l1 : List Int) : Is (fun k => impl_HardnessOf.f k l0 l1) (impl_HardnessOf.fv l0 l1) := ⟨fun k => impl_HardnessOf.mono l0 l1 k, rfl⟩
theorem impl_HardnessOf.l0v_eq (x0 : List (S50)) (x1 : List Int) (x5 : Int) (x8 : List Int) (x9 : Int) (x10 : Int) : impl_HardnessOf.l0v x0 x1 x5 x8 x9 x10 = if x10 < x9 then (if 0 ≤ x10 then (if x10 < (x8.length : Int) then ((impl_isLost.fv x0 x1 (rd x8 x10)).bind fun t521 => (if t521 = true then (impl_HardnessOf.l0v x0 x1 (wrap64 (x5 + 1)) x8 x9 (wrap64 (x10 + 1))) else (impl_HardnessOf.l0v x0 x1 x5 x8 x9 (wrap64 (x10 + 1))))) else (none)) else (none)) else (some x5) := by
  refine Is.step (impl_HardnessOf.l0_is x0 x1 x5 x8 x9 x10).mo (fun k => by rw [impl_HardnessOf.l0]) ?_
  · skip
    repeat' first
    | with_reducible exact impl_HardnessOf.l0_is _ _ _ _ _ _
    | with_reducible exact impl_isLost.f_is _ _ _
    | with_reducible exact Is.now _
    | with_reducible refine Is.ite ?_ ?_
    | with_reducible refine Is.bind ?_ (fun _ => ?_)
theorem impl_HardnessOf.fv_eq (l0 : List (S50)) (l1 : List Int) : impl_HardnessOf.fv l0 l1 = (impl_reservedTags.fv).bind fun t517 => (impl_HardnessOf.l0v l0 l1 0 t517 (t517.length : Int) 0) := by
  refine Is.lim (g := fun k => impl_HardnessOf.f k l0 l1) ?_
  · unfold impl_HardnessOf.f
    repeat' first
    | with_reducible exact impl_HardnessOf.l0_is _ _ _ _ _ _
    | with_reducible exact impl_reservedTags.f_is 
    | with_reducible exact Is.now _
    | with_reducible refine Is.ite ?_ ?_
    | with_reducible refine Is.bind ?_ (fun _ => ?_)
noncomputable def laws_eqIntS.l0v (x0 : List Int) (x1 : List Int) (x5 : Int) : Option (Bool) := Lim fun k => laws_eqIntS.l0 k x0 x1 x5
noncomputable def laws_eqIntS.fv (l0 : List Int) (l1 : List Int) : Option (Bool) := Lim fun k => laws_eqIntS.f k l0 l1
theorem laws_eqIntS.l0_is (x0 : List Int) (x1 : List Int) (x5 : Int) : Is (fun k => laws_eqIntS.l0 k x0 x1 x5) (laws_eqIntS.l0v x0 x1 x5) := ⟨fun k => (laws_eqIntS.mono_l k) x0 x1 x5, rfl⟩
theorem laws_eqIntS.f_is (l0 : List Int) (l1 : List Int) : Is (fun k => laws_eqIntS.f k l0 l1) (laws_eqIntS.fv l0 l1) := ⟨fun k => laws_eqIntS.mono l0 l1 k, rfl⟩
theorem laws_eqIntS.l0v_eq (x0 : List Int) (x1 : List Int) (x5 : Int) : laws_eqIntS.l0v x0 x1 x5 = if x5 < (x0.length : Int) then (if 0 ≤ x5 then (if x5 < (x1.length : Int) then (if (rd x0 x5) = (rd x1 x5) then (laws_eqIntS.l0v x0 x1 (wrap64 (x5 + 1))) else (some false)) else (none)) else (none)) else (some true) := by
  refine Is.step (laws_eqIntS.l0_is x0 x1 x5).mo (fun k => by rw [laws_eqIntS.l0]) ?_
  · skip
    repeat' first
    | with_reducible exact laws_eqIntS.l0_is _ _ _
    | with_reducible exact Is.now _
    | with_reducible refine Is.ite ?_ ?_
    | with_reducible refine Is.bind ?_ (fun _ => ?_)
theorem laws_eqIntS.fv_eq (l0 : List Int) (l1 : List Int) : laws_eqIntS.fv l0 l1 = if (l0.length : Int) = (l1.length : Int) then (laws_eqIntS.l0v l0 l1 0) else (some false) := by
  refine Is.lim (g := fun k => laws_eqIntS.f k l0 l1) ?_
  · unfold laws_eqIntS.f
    repeat' first
    | with_reducible exact laws_eqIntS.l0_is _ _ _
    | with_reducible exact Is.now _
    | with_reducible refine Is.ite ?_ ?_
    | with_reducible refine Is.bind ?_ (fun _ => ?_)
end Go.Proofs.Ytpoandlbmaljhaa.Print

/- IsOpenPath, PassesWhole and LostTags, of the program. Condition: at most 10 to the 12 of each. -/
set_option linter.unusedSimpArgs false
set_option linter.unusedVariables false
namespace Go.Proofs.Ytpoandlbmaljhaa.Plain
open Go.RowKit Go.Proofs.YtpoandlbmaljhaaW.PrintWords Go.Proofs.Ytpoandlbmaljhaa.Base Go.Proofs.Ytpoandlbmaljhaa.Print

theorem implOpen_v (p : List S50) (v : List Int) (hp : p.length ≤ 1000000000000) (hs : ∀ x ∈ p, okB x) (hv : v.length ≤ 1000000000000) : impl_IsOpenPath.fv p v = some (openP p v) := by
  have ht : (v.take 1).length ≤ 1000000000000 := by
    rw [List.length_take]
    omega
  rw [impl_IsOpenPath.fv_eq, implVers_v v hv]
  unfold impl_PlainHello.f
  simp only [Option.bind_some, List.nil_append, List.length_nil, Nat.zero_add, openP]
  cases ha : areV v with
  | false => simp
  | true =>
    have h1 : 0 < v.length := by
      simp only [areV, Bool.and_eq_true, decide_eq_true_eq] at ha
      exact ha.2
    rw [if_pos rfl, if_pos (by omega), if_pos (by omega)]
    simp only [Option.bind_some]
    rw [implPassP_v p _ [] hp hs ht (by simp) (fun x hx => by cases hx)]
    simp
theorem implEqX_v (a b : S69) (h : a.f1.length ≤ 1000000000000) : impl_equalExt.fv a.f0 a.f1 b.f0 b.f1 = some (eqX a b) := by
  rw [impl_equalExt.fv_eq, slicesEqual_v _ _ h]
  simp only [Option.bind_some, eqX]
  by_cases h1 : a.f0 = b.f0 <;> simp [h1]
theorem implEqXs_l0 (sa : List S69) : ∀ (pre q sb : List S69), q.length = pre.length → sb.length = sa.length → (pre ++ sa).length ≤ 1000000000000 → okXs sa →
    slices_EqualFunc_impl_Ext_impl_Ext_impl_Ext_impl_Ext_with_impl_equalExt.l0v (q ++ sb) (pre ++ sa) ((pre ++ sa).length : Int) (pre.length : Int) = some (eqXs sa sb) := by
  induction sa with
  | nil =>
    intro pre q sb _ hr _ _
    rw [slices_EqualFunc_impl_Ext_impl_Ext_impl_Ext_impl_Ext_with_impl_equalExt.l0v_eq, if_neg (nlt_end pre)]
    simp at hr
    simp [hr, eqXs]
  | cons x sa ih =>
    intro pre q sb hq hr hl hs
    cases sb with
    | nil => simp at hr
    | cons y sb =>
      have hn : pre.length < (pre ++ x :: sa).length := by simp
      rw [slices_EqualFunc_impl_Ext_impl_Ext_impl_Ext_impl_Ext_with_impl_equalExt.l0v_eq, if_pos (lt_mid pre sa x), if_pos (by omega), if_pos (lt_mid pre sa x), rdExt_mid, up_mid pre x hn hl, ← hq, if_pos (lt_mid q sb y), rdExt_mid, implEqX_v x y (hs x List.mem_cons_self)]
      simp only [Option.bind_some, eqXs]
      cases eqX x y with
      | false => simp
      | true =>
        rw [if_pos rfl, mid_snoc q sb y]
        rw [mid_snoc pre sa x] at hl ⊢
        rw [ih (pre ++ [x]) (q ++ [y]) sb (by simp [hq]) (by simpa using hr) hl (fun y hy => hs y (List.mem_cons_of_mem _ hy))]
        rfl
theorem implEqXs_v (l m : List S69) (hl : l.length ≤ 1000000000000) (hs : okXs l) : impl_EqualExts.fv l m = some (eqXs l m) := by
  rw [impl_EqualExts.fv_eq, slices_EqualFunc_impl_Ext_impl_Ext_impl_Ext_impl_Ext_with_impl_equalExt.fv_eq]
  by_cases h : l.length = m.length
  · have h1 := implEqXs_l0 l [] [] m rfl h.symm (by simpa using hl) hs
    simp only [List.nil_append, List.length_nil, Int.natCast_zero] at h1
    rw [if_pos (by omega), h1]
    rfl
  · rw [if_neg (by omega), eqXs_len h]
    rfl
theorem implWhole_v (v : List Int) (l : List S69) (p : List S50) (hp : p.length ≤ 1000000000000) (hs : ∀ x ∈ p, okB x) (hv : v.length ≤ 1000000000000) (hl : l.length ≤ 1000000000000) (hx : okXs l) : impl_PassesWhole.fv v l p = some (whole v l p) := by
  obtain ⟨a1, a2, a3⟩ := passP_ok p v l hx
  rw [impl_PassesWhole.fv_eq, implPassP_v p v l hp hs hv hl hx]
  simp only [Option.bind_some, whole]
  rw [impl_EqualHellos.fv_eq, slicesEqual_v _ v (by omega), implEqXs_v _ l (by omega) a3]
  simp only [Option.bind_some]
  generalize eqXs (passP p v l).2.1 l = x
  generalize (passP p v l).2.2 = y
  by_cases h1 : (passP p v l).1 = v <;> cases x <;> cases y <;> simp [h1]
theorem implLost_l0 (p : List S50) (v : List Int) (hp : p.length ≤ 1000000000000) (hs : ∀ x ∈ p, okB x) (hv : v.length ≤ 1000000000000) (h1 : 0 < v.length) (suf : List S69) : ∀ (pre : List S69) (out : List Int), (pre ++ suf).length ≤ 1000000000000 → out.length ≤ pre.length → okXs suf →
    impl_LostTags.l0v p v out (pre ++ suf) ((pre ++ suf).length : Int) (pre.length : Int) = some (out ++ (suf.filter (fun x => !whole (v.take 1) [x] p)).map (·.f0)) := by
  induction suf with
  | nil =>
    intro pre out _ _ _
    rw [impl_LostTags.l0v_eq, if_neg (nlt_end pre)]
    simp
  | cons x suf ih =>
    intro pre out hl ho hx
    have hn : pre.length < (pre ++ x :: suf).length := by simp
    have hq : pre.length < 1000000000000 := by omega
    have hx' : okXs suf := fun y hy => hx y (List.mem_cons_of_mem _ hy)
    have ho1 : okXs [x] := fun y hy => by
      rw [List.mem_singleton.1 hy]
      exact hx x List.mem_cons_self
    have ht : (v.take 1).length ≤ 1000000000000 := by
      rw [List.length_take]
      omega
    rw [impl_LostTags.l0v_eq, if_pos (lt_mid pre suf x), if_pos (by omega), if_pos (lt_mid pre suf x), if_pos (by omega), rdExt_mid, show (⟨x.f0, x.f1⟩ : S69) = x from rfl, implWhole_v _ _ p hp hs ht (by simp) ho1, up_mid pre x hn hl]
    simp only [Option.bind_some]
    rw [mid_snoc pre suf x] at hl ⊢
    cases hw : whole (v.take 1) [x] p with
    | true =>
      rw [if_pos rfl, ih (pre ++ [x]) out hl (by simp; omega) hx']
      simp [hw]
    | false =>
      rw [if_neg (by simp), if_pos (by omega), ih (pre ++ [x]) _ hl (by simp; omega) hx']
      simp [hw]
theorem implLost_v (p : List S50) (v : List Int) (l : List S69) (hp : p.length ≤ 1000000000000) (hs : ∀ x ∈ p, okB x) (hv : v.length ≤ 1000000000000) (hl : l.length ≤ 1000000000000) (hx : okXs l) : impl_LostTags.fv p v l = some (lostT p v l) := by
  rw [impl_LostTags.fv_eq, implOpen_v p v hp hs hv, implExts_v l hl hx]
  simp only [Option.bind_some, impl_LostTags.j0v_eq, lostT]
  cases ho : openP p v with
  | false => simp
  | true =>
    have h1 : 0 < v.length := by
      simp only [openP, areV, Bool.and_eq_true, decide_eq_true_eq] at ho
      exact ho.1.2
    have h := implLost_l0 p v hp hs hv h1 l [] [] (by simpa using hl) (by simp) hx
    simp only [List.nil_append, List.length_nil, Int.natCast_zero] at h
    cases isX l with
    | false => simp
    | true => simp [h]
end Go.Proofs.Ytpoandlbmaljhaa.Plain

/- reservedTags, of the program. No condition. -/
set_option linter.unusedSimpArgs false
set_option linter.unusedVariables false
namespace Go.Proofs.Ytpoandlbmaljhaa.Plain
open Go.RowKit Go.Proofs.YtpoandlbmaljhaaW.PrintWords Go.Proofs.Ytpoandlbmaljhaa.Base Go.Proofs.Ytpoandlbmaljhaa.Print

theorem resTags_l0 (m : Nat) : ∀ (n : Nat) (out : List Int), n + m = 16 → out.length = n → impl_reservedTags.l0v out (10 + 16 * (n : Int)) = some (out ++ greases n m) := by
  induction m with
  | zero =>
    intro n out hn _
    rw [impl_reservedTags.l0v_eq, if_neg (by omega)]
    simp [greases]
  | succ m ih =>
    intro n out hn ho
    rw [impl_reservedTags.l0v_eq, if_pos (by omega), if_pos (by omega), w64 (by omega) (by omega), show 10 + 16 * (n : Int) + 16 = 10 + 16 * ((n + 1 : Nat) : Int) by omega, ih (n + 1) _ (by omega) (by simp [ho])]
    simp [greases]
theorem resTags_v : impl_reservedTags.fv = some (greases 0 16) := by
  rw [impl_reservedTags.fv_eq]
  simpa using resTags_l0 16 0 [] rfl rfl
end Go.Proofs.Ytpoandlbmaljhaa.Plain

/- Written by a program of this session (limx.py): the equations of what the printed functions come to. No condition. -/
namespace Go.Proofs.Ytpoandlbmaljhaa.Print
open Go.RowKit Go.Proofs.YtpoandlbmaljhaaW.PrintWords Go.Proofs.YtpoandlbmaljhaaW.PrintLast Go.Proofs.Ytpoandlbmaljhaa.Base
set_option linter.unusedVariables false
set_option maxRecDepth 20000
noncomputable def laws_szBoxS.l0v (x0 : List (S46)) (x1 : Int) (x5 : Int) : Option (Int) := Lim fun k => laws_szBoxS.l0 k x0 x1 x5
noncomputable def laws_szBoxS.fv (l0 : List (S46)) (a1 : Int) : Option (Int) := Lim fun k => laws_szBoxS.f k l0 a1
theorem laws_szBoxS.l0_is (x0 : List (S46)) (x1 : Int) (x5 : Int) : Is (fun k => laws_szBoxS.l0 k x0 x1 x5) (laws_szBoxS.l0v x0 x1 x5) := ⟨fun k => (laws_szBoxS.mono_l k) x0 x1 x5, rfl⟩
theorem laws_szBoxS.f_is (l0 : List (S46)) (a1 : Int) : Is (fun k => laws_szBoxS.f k l0 a1) (laws_szBoxS.fv l0 a1) := ⟨fun k => laws_szBoxS.mono l0 a1 k, rfl⟩
theorem laws_szBoxS.l0v_eq (x0 : List (S46)) (x1 : Int) (x5 : Int) : laws_szBoxS.l0v x0 x1 x5 = if x5 < (x0.length : Int) then (if 0 ≤ x5 then ((laws_szBox.f ((rd_T46 x0 x5).f0) ((rd_T46 x0 x5).f1) ((rd_T46 x0 x5).f2) ((rd_T46 x0 x5).f3) x1).bind fun t105 => (if t105 < 0 then (some (-1)) else (laws_szBoxS.l0v x0 t105 (wrap64 (x5 + 1))))) else (none)) else (some x1) := by
  refine Is.step (laws_szBoxS.l0_is x0 x1 x5).mo (fun k => by rw [laws_szBoxS.l0]) ?_
  · skip
    repeat' first
    | with_reducible exact laws_szBoxS.l0_is _ _ _
    | with_reducible exact Is.now _
    | with_reducible refine Is.ite ?_ ?_
    | with_reducible refine Is.bind ?_ (fun _ => ?_)
theorem laws_szBoxS.fv_eq (l0 : List (S46)) (a1 : Int) : laws_szBoxS.fv l0 a1 = if (wrap64 (a1 - (l0.length : Int))) < 0 then (some (-1)) else (laws_szBoxS.l0v l0 (wrap64 (a1 - (l0.length : Int))) 0) := by
  refine Is.lim (g := fun k => laws_szBoxS.f k l0 a1) ?_
  · unfold laws_szBoxS.f
    repeat' first
    | with_reducible exact laws_szBoxS.l0_is _ _ _
    | with_reducible exact Is.now _
    | with_reducible refine Is.ite ?_ ?_
    | with_reducible refine Is.bind ?_ (fun _ => ?_)
noncomputable def spec_l9Byte.l0v (x0 : List Int) (x3 : Int) : Option (Bool) := Lim fun k => spec_l9Byte.l0 k x0 x3
noncomputable def spec_l9Byte.fv (l0 : List Int) : Option (Bool) := Lim fun k => spec_l9Byte.f k l0
theorem spec_l9Byte.l0_is (x0 : List Int) (x3 : Int) : Is (fun k => spec_l9Byte.l0 k x0 x3) (spec_l9Byte.l0v x0 x3) := ⟨fun k => (spec_l9Byte.mono_l k) x0 x3, rfl⟩
theorem spec_l9Byte.f_is (l0 : List Int) : Is (fun k => spec_l9Byte.f k l0) (spec_l9Byte.fv l0) := ⟨fun k => spec_l9Byte.mono l0 k, rfl⟩
theorem spec_l9Byte.l0v_eq (x0 : List Int) (x3 : Int) : spec_l9Byte.l0v x0 x3 = if x3 < (x0.length : Int) then (if 0 ≤ x3 then ((spec_l1In.f (rd x0 x3) 0 255).bind fun t107 => (if t107 = true then (spec_l9Byte.l0v x0 (wrap64 (x3 + 1))) else (some false))) else (none)) else (some true) := by
  refine Is.step (spec_l9Byte.l0_is x0 x3).mo (fun k => by rw [spec_l9Byte.l0]) ?_
  · skip
    repeat' first
    | with_reducible exact spec_l9Byte.l0_is _ _
    | with_reducible exact Is.now _
    | with_reducible refine Is.ite ?_ ?_
    | with_reducible refine Is.bind ?_ (fun _ => ?_)
theorem spec_l9Byte.fv_eq (l0 : List Int) : spec_l9Byte.fv l0 = spec_l9Byte.l0v l0 0 := by
  refine Is.lim (g := fun k => spec_l9Byte.f k l0) ?_
  · unfold spec_l9Byte.f
    repeat' first
    | with_reducible exact spec_l9Byte.l0_is _ _
    | with_reducible exact Is.now _
    | with_reducible refine Is.ite ?_ ?_
    | with_reducible refine Is.bind ?_ (fun _ => ?_)
noncomputable def spec_ExtOf.l0v (x0 : List (S69)) (x1 : Int) (x5 : Int) : Option (Int) := Lim fun k => spec_ExtOf.l0 k x0 x1 x5
noncomputable def spec_ExtOf.fv (l0 : List (S69)) (a1 : Int) : Option (Int) := Lim fun k => spec_ExtOf.f k l0 a1
theorem spec_ExtOf.l0_is (x0 : List (S69)) (x1 : Int) (x5 : Int) : Is (fun k => spec_ExtOf.l0 k x0 x1 x5) (spec_ExtOf.l0v x0 x1 x5) := ⟨fun k => (spec_ExtOf.mono_l k) x0 x1 x5, rfl⟩
theorem spec_ExtOf.f_is (l0 : List (S69)) (a1 : Int) : Is (fun k => spec_ExtOf.f k l0 a1) (spec_ExtOf.fv l0 a1) := ⟨fun k => spec_ExtOf.mono l0 a1 k, rfl⟩
theorem spec_ExtOf.l0v_eq (x0 : List (S69)) (x1 : Int) (x5 : Int) : spec_ExtOf.l0v x0 x1 x5 = if x5 < (x0.length : Int) then (if 0 ≤ x5 then (if ((rd_T69 x0 x5).f0) = x1 then (some x5) else (spec_ExtOf.l0v x0 x1 (wrap64 (x5 + 1)))) else (none)) else (some (-1)) := by
  refine Is.step (spec_ExtOf.l0_is x0 x1 x5).mo (fun k => by rw [spec_ExtOf.l0]) ?_
  · skip
    repeat' first
    | with_reducible exact spec_ExtOf.l0_is _ _ _
    | with_reducible exact Is.now _
    | with_reducible refine Is.ite ?_ ?_
    | with_reducible refine Is.bind ?_ (fun _ => ?_)
theorem spec_ExtOf.fv_eq (l0 : List (S69)) (a1 : Int) : spec_ExtOf.fv l0 a1 = spec_ExtOf.l0v l0 a1 0 := by
  refine Is.lim (g := fun k => spec_ExtOf.f k l0 a1) ?_
  · unfold spec_ExtOf.f
    repeat' first
    | with_reducible exact spec_ExtOf.l0_is _ _ _
    | with_reducible exact Is.now _
    | with_reducible refine Is.ite ?_ ?_
    | with_reducible refine Is.bind ?_ (fun _ => ?_)
noncomputable def spec_AreExts.l0v (x0 : List (S69)) (x3 : Int) : Option (Bool) := Lim fun k => spec_AreExts.l0 k x0 x3
noncomputable def spec_AreExts.fv (l0 : List (S69)) : Option (Bool) := Lim fun k => spec_AreExts.f k l0
theorem spec_AreExts.l0_is (x0 : List (S69)) (x3 : Int) : Is (fun k => spec_AreExts.l0 k x0 x3) (spec_AreExts.l0v x0 x3) := ⟨fun k => (spec_AreExts.mono_l k) x0 x3, rfl⟩
theorem spec_AreExts.f_is (l0 : List (S69)) : Is (fun k => spec_AreExts.f k l0) (spec_AreExts.fv l0) := ⟨fun k => spec_AreExts.mono l0 k, rfl⟩
theorem spec_AreExts.l0v_eq (x0 : List (S69)) (x3 : Int) : spec_AreExts.l0v x0 x3 = if x3 < (x0.length : Int) then (if 0 ≤ x3 then ((spec_l1In.f ((rd_T69 x0 x3).f0) 0 255).bind fun t110 => (if t110 = true then (if (((rd_T69 x0 x3).f1).length : Int) > 4 then (some false) else ((spec_l9Byte.fv ((rd_T69 x0 x3).f1)).bind fun t113 => (if t113 = true then ((spec_ExtOf.fv x0 ((rd_T69 x0 x3).f0)).bind fun t115 => (if t115 < x3 then (some false) else (spec_AreExts.l0v x0 (wrap64 (x3 + 1))))) else (some false)))) else (some false))) else (none)) else (some (decide ((x0.length : Int) ≤ 6))) := by
  refine Is.step (spec_AreExts.l0_is x0 x3).mo (fun k => by rw [spec_AreExts.l0]) ?_
  · skip
    repeat' first
    | with_reducible exact spec_AreExts.l0_is _ _
    | with_reducible exact spec_ExtOf.f_is _ _
    | with_reducible exact spec_l9Byte.f_is _
    | with_reducible exact Is.now _
    | with_reducible refine Is.ite ?_ ?_
    | with_reducible refine Is.bind ?_ (fun _ => ?_)
theorem spec_AreExts.fv_eq (l0 : List (S69)) : spec_AreExts.fv l0 = spec_AreExts.l0v l0 0 := by
  refine Is.lim (g := fun k => spec_AreExts.f k l0) ?_
  · unfold spec_AreExts.f
    repeat' first
    | with_reducible exact spec_AreExts.l0_is _ _
    | with_reducible exact Is.now _
    | with_reducible refine Is.ite ?_ ?_
    | with_reducible refine Is.bind ?_ (fun _ => ?_)
end Go.Proofs.Ytpoandlbmaljhaa.Print

/- Written by a program of this session (limx.py): the equations of what the printed functions come to. No condition. -/
namespace Go.Proofs.Ytpoandlbmaljhaa.Print
open Go.RowKit Go.Proofs.YtpoandlbmaljhaaW.PrintWords Go.Proofs.YtpoandlbmaljhaaW.PrintLast Go.Proofs.Ytpoandlbmaljhaa.Base
set_option linter.unusedVariables false
set_option maxRecDepth 20000
noncomputable def spec_AreVersions.l0v (x0 : List Int) (x3 : Int) : Option (Bool) := Lim fun k => spec_AreVersions.l0 k x0 x3
noncomputable def spec_AreVersions.fv (l0 : List Int) : Option (Bool) := Lim fun k => spec_AreVersions.f k l0
theorem spec_AreVersions.l0_is (x0 : List Int) (x3 : Int) : Is (fun k => spec_AreVersions.l0 k x0 x3) (spec_AreVersions.l0v x0 x3) := ⟨fun k => (spec_AreVersions.mono_l k) x0 x3, rfl⟩
theorem spec_AreVersions.f_is (l0 : List Int) : Is (fun k => spec_AreVersions.f k l0) (spec_AreVersions.fv l0) := ⟨fun k => spec_AreVersions.mono l0 k, rfl⟩
theorem spec_AreVersions.l0v_eq (x0 : List Int) (x3 : Int) : spec_AreVersions.l0v x0 x3 = if x3 < (x0.length : Int) then (if 0 ≤ x3 then ((spec_l1In.f (rd x0 x3) 1 9).bind fun t124 => (if t124 = true then (if x3 > 0 then (if 0 ≤ (wrap64 (x3 - 1)) then (if (wrap64 (x3 - 1)) < (x0.length : Int) then (if (rd x0 (wrap64 (x3 - 1))) ≥ (rd x0 x3) then (some false) else (spec_AreVersions.l0v x0 (wrap64 (x3 + 1)))) else (none)) else (none)) else (spec_AreVersions.l0v x0 (wrap64 (x3 + 1)))) else (some false))) else (none)) else (some (decide ((x0.length : Int) > 0))) := by
  refine Is.step (spec_AreVersions.l0_is x0 x3).mo (fun k => by rw [spec_AreVersions.l0]) ?_
  · skip
    repeat' first
    | with_reducible exact spec_AreVersions.l0_is _ _
    | with_reducible exact Is.now _
    | with_reducible refine Is.ite ?_ ?_
    | with_reducible refine Is.bind ?_ (fun _ => ?_)
theorem spec_AreVersions.fv_eq (l0 : List Int) : spec_AreVersions.fv l0 = spec_AreVersions.l0v l0 0 := by
  refine Is.lim (g := fun k => spec_AreVersions.f k l0) ?_
  · unfold spec_AreVersions.f
    repeat' first
    | with_reducible exact spec_AreVersions.l0_is _ _
    | with_reducible exact Is.now _
    | with_reducible refine Is.ite ?_ ?_
    | with_reducible refine Is.bind ?_ (fun _ => ?_)
noncomputable def spec_IsHello.fv (l0_0 : List Int) (l0_1 : List (S69)) : Option (Bool) := Lim fun k => spec_IsHello.f k l0_0 l0_1
theorem spec_IsHello.f_is (l0_0 : List Int) (l0_1 : List (S69)) : Is (fun k => spec_IsHello.f k l0_0 l0_1) (spec_IsHello.fv l0_0 l0_1) := ⟨fun k => spec_IsHello.mono l0_0 l0_1 k, rfl⟩
theorem spec_IsHello.fv_eq (l0_0 : List Int) (l0_1 : List (S69)) : spec_IsHello.fv l0_0 l0_1 = (spec_AreVersions.fv l0_0).bind fun t128 => (if t128 = true then ((spec_AreExts.fv l0_1).bind fun t129 => (some t129)) else (some false)) := by
  refine Is.lim (g := fun k => spec_IsHello.f k l0_0 l0_1) ?_
  · unfold spec_IsHello.f
    repeat' first
    | with_reducible exact spec_AreExts.f_is _
    | with_reducible exact spec_AreVersions.f_is _
    | with_reducible exact Is.now _
    | with_reducible refine Is.ite ?_ ?_
    | with_reducible refine Is.bind ?_ (fun _ => ?_)
noncomputable def spec_l9Has.l0v (x0 : List Int) (x1 : Int) (x5 : Int) : Option (Bool) := Lim fun k => spec_l9Has.l0 k x0 x1 x5
noncomputable def spec_l9Has.fv (l0 : List Int) (a1 : Int) : Option (Bool) := Lim fun k => spec_l9Has.f k l0 a1
theorem spec_l9Has.l0_is (x0 : List Int) (x1 : Int) (x5 : Int) : Is (fun k => spec_l9Has.l0 k x0 x1 x5) (spec_l9Has.l0v x0 x1 x5) := ⟨fun k => (spec_l9Has.mono_l k) x0 x1 x5, rfl⟩
theorem spec_l9Has.f_is (l0 : List Int) (a1 : Int) : Is (fun k => spec_l9Has.f k l0 a1) (spec_l9Has.fv l0 a1) := ⟨fun k => spec_l9Has.mono l0 a1 k, rfl⟩
theorem spec_l9Has.l0v_eq (x0 : List Int) (x1 : Int) (x5 : Int) : spec_l9Has.l0v x0 x1 x5 = if x5 < (x0.length : Int) then (if 0 ≤ x5 then (if (rd x0 x5) = x1 then (some true) else (spec_l9Has.l0v x0 x1 (wrap64 (x5 + 1)))) else (none)) else (some false) := by
  refine Is.step (spec_l9Has.l0_is x0 x1 x5).mo (fun k => by rw [spec_l9Has.l0]) ?_
  · skip
    repeat' first
    | with_reducible exact spec_l9Has.l0_is _ _ _
    | with_reducible exact Is.now _
    | with_reducible refine Is.ite ?_ ?_
    | with_reducible refine Is.bind ?_ (fun _ => ?_)
theorem spec_l9Has.fv_eq (l0 : List Int) (a1 : Int) : spec_l9Has.fv l0 a1 = spec_l9Has.l0v l0 a1 0 := by
  refine Is.lim (g := fun k => spec_l9Has.f k l0 a1) ?_
  · unfold spec_l9Has.f
    repeat' first
    | with_reducible exact spec_l9Has.l0_is _ _ _
    | with_reducible exact Is.now _
    | with_reducible refine Is.ite ?_ ?_
    | with_reducible refine Is.bind ?_ (fun _ => ?_)
noncomputable def spec_KnownOf.l0v (x0 : List (S69)) (x1 : List Int) (x5 : List (S69)) (x6 : Int) : Option ((List (S69))) := Lim fun k => spec_KnownOf.l0 k x0 x1 x5 x6
noncomputable def spec_KnownOf.fv (l0 : List (S69)) (l1 : List Int) : Option ((List (S69))) := Lim fun k => spec_KnownOf.f k l0 l1
theorem spec_KnownOf.l0_is (x0 : List (S69)) (x1 : List Int) (x5 : List (S69)) (x6 : Int) : Is (fun k => spec_KnownOf.l0 k x0 x1 x5 x6) (spec_KnownOf.l0v x0 x1 x5 x6) := ⟨fun k => (spec_KnownOf.mono_l k) x0 x1 x5 x6, rfl⟩
theorem spec_KnownOf.f_is (l0 : List (S69)) (l1 : List Int) : Is (fun k => spec_KnownOf.f k l0 l1) (spec_KnownOf.fv l0 l1) := ⟨fun k => spec_KnownOf.mono l0 l1 k, rfl⟩
theorem spec_KnownOf.l0v_eq (x0 : List (S69)) (x1 : List Int) (x5 : List (S69)) (x6 : Int) : spec_KnownOf.l0v x0 x1 x5 x6 = if x6 < (x0.length : Int) then (if 0 ≤ x6 then ((spec_l9Has.fv x1 ((rd_T69 x0 x6).f0)).bind fun t135 => (if t135 = true then ((some (([] : List Int) : List Int)).bind fun y137 => (if y137.length + ((rd_T69 x0 x6).f1).length < 17592186044416 then (if x5.length < 4398046511104 then (spec_KnownOf.l0v x0 x1 (x5 ++ [(⟨(rd_T69 x0 x6).f0, (y137 ++ ((rd_T69 x0 x6).f1))⟩ : S69)]) (wrap64 (x6 + 1))) else (none)) else (none))) else (spec_KnownOf.l0v x0 x1 x5 (wrap64 (x6 + 1))))) else (none)) else (some x5) := by
  refine Is.step (spec_KnownOf.l0_is x0 x1 x5 x6).mo (fun k => by rw [spec_KnownOf.l0]) ?_
  · skip
    repeat' first
    | with_reducible exact spec_KnownOf.l0_is _ _ _ _
    | with_reducible exact spec_l9Has.f_is _ _
    | with_reducible exact Is.now _
    | with_reducible refine Is.ite ?_ ?_
    | with_reducible refine Is.bind ?_ (fun _ => ?_)
theorem spec_KnownOf.fv_eq (l0 : List (S69)) (l1 : List Int) : spec_KnownOf.fv l0 l1 = spec_KnownOf.l0v l0 l1 (([] : List (S69))) 0 := by
  refine Is.lim (g := fun k => spec_KnownOf.f k l0 l1) ?_
  · unfold spec_KnownOf.f
    repeat' first
    | with_reducible exact spec_KnownOf.l0_is _ _ _ _
    | with_reducible exact Is.now _
    | with_reducible refine Is.ite ?_ ?_
    | with_reducible refine Is.bind ?_ (fun _ => ?_)
noncomputable def spec_TagsOf.l0v (x0 : List (S69)) (x3 : List Int) (x4 : Int) : Option (List Int) := Lim fun k => spec_TagsOf.l0 k x0 x3 x4
noncomputable def spec_TagsOf.fv (l0 : List (S69)) : Option (List Int) := Lim fun k => spec_TagsOf.f k l0
theorem spec_TagsOf.l0_is (x0 : List (S69)) (x3 : List Int) (x4 : Int) : Is (fun k => spec_TagsOf.l0 k x0 x3 x4) (spec_TagsOf.l0v x0 x3 x4) := ⟨fun k => (spec_TagsOf.mono_l k) x0 x3 x4, rfl⟩
theorem spec_TagsOf.f_is (l0 : List (S69)) : Is (fun k => spec_TagsOf.f k l0) (spec_TagsOf.fv l0) := ⟨fun k => spec_TagsOf.mono l0 k, rfl⟩
theorem spec_TagsOf.l0v_eq (x0 : List (S69)) (x3 : List Int) (x4 : Int) : spec_TagsOf.l0v x0 x3 x4 = if x4 < (x0.length : Int) then (if 0 ≤ x4 then (if x3.length < 17592186044416 then (spec_TagsOf.l0v x0 (x3 ++ [(rd_T69 x0 x4).f0]) (wrap64 (x4 + 1))) else (none)) else (none)) else (some x3) := by
  refine Is.step (spec_TagsOf.l0_is x0 x3 x4).mo (fun k => by rw [spec_TagsOf.l0]) ?_
  · skip
    repeat' first
    | with_reducible exact spec_TagsOf.l0_is _ _ _
    | with_reducible exact Is.now _
    | with_reducible refine Is.ite ?_ ?_
    | with_reducible refine Is.bind ?_ (fun _ => ?_)
theorem spec_TagsOf.fv_eq (l0 : List (S69)) : spec_TagsOf.fv l0 = spec_TagsOf.l0v l0 (([] : List Int)) 0 := by
  refine Is.lim (g := fun k => spec_TagsOf.f k l0) ?_
  · unfold spec_TagsOf.f
    repeat' first
    | with_reducible exact spec_TagsOf.l0_is _ _ _
    | with_reducible exact Is.now _
    | with_reducible refine Is.ite ?_ ?_
    | with_reducible refine Is.bind ?_ (fun _ => ?_)
noncomputable def spec_l11Copy.fv (l0 : List (S69)) : Option ((List (S69))) := Lim fun k => spec_l11Copy.f k l0
theorem spec_l11Copy.f_is (l0 : List (S69)) : Is (fun k => spec_l11Copy.f k l0) (spec_l11Copy.fv l0) := ⟨fun k => spec_l11Copy.mono l0 k, rfl⟩
theorem spec_l11Copy.fv_eq (l0 : List (S69)) : spec_l11Copy.fv l0 = (spec_TagsOf.fv l0).bind fun t154 => ((spec_KnownOf.fv l0 t154).bind fun t157 => (some t157)) := by
  refine Is.lim (g := fun k => spec_l11Copy.f k l0) ?_
  · unfold spec_l11Copy.f
    repeat' first
    | with_reducible exact spec_KnownOf.f_is _ _
    | with_reducible exact spec_TagsOf.f_is _
    | with_reducible exact Is.now _
    | with_reducible refine Is.ite ?_ ?_
    | with_reducible refine Is.bind ?_ (fun _ => ?_)
end Go.Proofs.Ytpoandlbmaljhaa.Print

/- Written by a program of this session (limx.py): the equations of what the printed functions come to. No condition. -/
namespace Go.Proofs.Ytpoandlbmaljhaa.Print
open Go.RowKit Go.Proofs.YtpoandlbmaljhaaW.PrintWords Go.Proofs.YtpoandlbmaljhaaW.PrintLast Go.Proofs.Ytpoandlbmaljhaa.Base
set_option linter.unusedVariables false
set_option maxRecDepth 20000
noncomputable def spec_l18Hello.fv (l0_0 : List Int) (l0_1 : List (S69)) : Option (List Int × (List (S69))) := Lim fun k => spec_l18Hello.f k l0_0 l0_1
theorem spec_l18Hello.f_is (l0_0 : List Int) (l0_1 : List (S69)) : Is (fun k => spec_l18Hello.f k l0_0 l0_1) (spec_l18Hello.fv l0_0 l0_1) := ⟨fun k => spec_l18Hello.mono l0_0 l0_1 k, rfl⟩
theorem spec_l18Hello.fv_eq (l0_0 : List Int) (l0_1 : List (S69)) : spec_l18Hello.fv l0_0 l0_1 = (some (([] : List Int) : List Int)).bind fun y162 => (if y162.length + l0_0.length < 17592186044416 then ((spec_l11Copy.fv l0_1).bind fun t168 => (some ((y162 ++ l0_0), t168))) else (none)) := by
  refine Is.lim (g := fun k => spec_l18Hello.f k l0_0 l0_1) ?_
  · unfold spec_l18Hello.f
    repeat' first
    | with_reducible exact spec_l11Copy.f_is _
    | with_reducible exact Is.now _
    | with_reducible refine Is.ite ?_ ?_
    | with_reducible refine Is.bind ?_ (fun _ => ?_)
noncomputable def spec_IsBox.fv (a0_0 : Int) (l0_1 : List Int) (l0_2 : List Int) (a0_3 : Bool) : Option (Bool) := Lim fun k => spec_IsBox.f k a0_0 l0_1 l0_2 a0_3
theorem spec_IsBox.f_is (a0_0 : Int) (l0_1 : List Int) (l0_2 : List Int) (a0_3 : Bool) : Is (fun k => spec_IsBox.f k a0_0 l0_1 l0_2 a0_3) (spec_IsBox.fv a0_0 l0_1 l0_2 a0_3) := ⟨fun k => spec_IsBox.mono a0_0 l0_1 l0_2 a0_3 k, rfl⟩
theorem spec_IsBox.fv_eq (a0_0 : Int) (l0_1 : List Int) (l0_2 : List Int) (a0_3 : Bool) : spec_IsBox.fv a0_0 l0_1 l0_2 a0_3 = (spec_l1In.f a0_0 0 9).bind fun t172 => (if t172 = true then (if (l0_1.length : Int) ≤ 6 then (if (l0_2.length : Int) ≤ 6 then ((spec_l9Byte.fv l0_1).bind fun t173 => (if t173 = true then ((spec_l9Byte.fv l0_2).bind fun t174 => (some t174)) else (some false))) else (some false)) else (some false)) else (some false)) := by
  refine Is.lim (g := fun k => spec_IsBox.f k a0_0 l0_1 l0_2 a0_3) ?_
  · unfold spec_IsBox.f
    repeat' first
    | with_reducible exact spec_l9Byte.f_is _
    | with_reducible exact Is.now _
    | with_reducible refine Is.ite ?_ ?_
    | with_reducible refine Is.bind ?_ (fun _ => ?_)
end Go.Proofs.Ytpoandlbmaljhaa.Print

/- Written by a program of this session (limx.py): the equations of what the printed functions come to. No condition. -/
namespace Go.Proofs.Ytpoandlbmaljhaa.Print
open Go.RowKit Go.Proofs.YtpoandlbmaljhaaW.PrintWords Go.Proofs.YtpoandlbmaljhaaW.PrintLast Go.Proofs.Ytpoandlbmaljhaa.Base
set_option linter.unusedVariables false
set_option maxRecDepth 20000
noncomputable def spec_PassBox.j0v (x35 : Bool) (x176000 : Int) (x176001 : List Int) (x176002 : List Int) (x176003 : Bool) (x177000 : List Int) (x177001 : List (S69)) : Option (List Int × (List (S69)) × Bool) := Lim fun k => spec_PassBox.j0 k x35 x176000 x176001 x176002 x176003 x177000 x177001
noncomputable def spec_PassBox.l0v (x7 : Int) (x176000 : Int) (x176001 : List Int) (x176002 : List Int) (x176003 : Bool) (x177000 : List Int) (x177001 : List (S69)) (x188000 : List Int) (x188001 : List (S69)) : Option (List Int × (List (S69)) × Bool) := Lim fun k => spec_PassBox.l0 k x7 x176000 x176001 x176002 x176003 x177000 x177001 x188000 x188001
noncomputable def spec_PassBox.j2v (x7 : Int) (x8 : Int) (x9 : Bool) (x75 : Bool) (x176000 : Int) (x176001 : List Int) (x176002 : List Int) (x176003 : Bool) (x177000 : List Int) (x177001 : List (S69)) (x188000 : List Int) (x188001 : List (S69)) : Option (List Int × (List (S69)) × Bool) := Lim fun k => spec_PassBox.j2 k x7 x8 x9 x75 x176000 x176001 x176002 x176003 x177000 x177001 x188000 x188001
noncomputable def spec_PassBox.fv (a0_0 : Int) (l0_1 : List Int) (l0_2 : List Int) (a0_3 : Bool) (l1_0 : List Int) (l1_1 : List (S69)) : Option (List Int × (List (S69)) × Bool) := Lim fun k => spec_PassBox.f k a0_0 l0_1 l0_2 a0_3 l1_0 l1_1
theorem spec_PassBox.j0_is (x35 : Bool) (x176000 : Int) (x176001 : List Int) (x176002 : List Int) (x176003 : Bool) (x177000 : List Int) (x177001 : List (S69)) : Is (fun k => spec_PassBox.j0 k x35 x176000 x176001 x176002 x176003 x177000 x177001) (spec_PassBox.j0v x35 x176000 x176001 x176002 x176003 x177000 x177001) := ⟨fun k => (spec_PassBox.mono_l k).1 x35 x176000 x176001 x176002 x176003 x177000 x177001, rfl⟩
theorem spec_PassBox.l0_is (x7 : Int) (x176000 : Int) (x176001 : List Int) (x176002 : List Int) (x176003 : Bool) (x177000 : List Int) (x177001 : List (S69)) (x188000 : List Int) (x188001 : List (S69)) : Is (fun k => spec_PassBox.l0 k x7 x176000 x176001 x176002 x176003 x177000 x177001 x188000 x188001) (spec_PassBox.l0v x7 x176000 x176001 x176002 x176003 x177000 x177001 x188000 x188001) := ⟨fun k => (spec_PassBox.mono_l k).2.1 x7 x176000 x176001 x176002 x176003 x177000 x177001 x188000 x188001, rfl⟩
theorem spec_PassBox.j2_is (x7 : Int) (x8 : Int) (x9 : Bool) (x75 : Bool) (x176000 : Int) (x176001 : List Int) (x176002 : List Int) (x176003 : Bool) (x177000 : List Int) (x177001 : List (S69)) (x188000 : List Int) (x188001 : List (S69)) : Is (fun k => spec_PassBox.j2 k x7 x8 x9 x75 x176000 x176001 x176002 x176003 x177000 x177001 x188000 x188001) (spec_PassBox.j2v x7 x8 x9 x75 x176000 x176001 x176002 x176003 x177000 x177001 x188000 x188001) := ⟨fun k => (spec_PassBox.mono_l k).2.2 x7 x8 x9 x75 x176000 x176001 x176002 x176003 x177000 x177001 x188000 x188001, rfl⟩
theorem spec_PassBox.f_is (a0_0 : Int) (l0_1 : List Int) (l0_2 : List Int) (a0_3 : Bool) (l1_0 : List Int) (l1_1 : List (S69)) : Is (fun k => spec_PassBox.f k a0_0 l0_1 l0_2 a0_3 l1_0 l1_1) (spec_PassBox.fv a0_0 l0_1 l0_2 a0_3 l1_0 l1_1) := ⟨fun k => spec_PassBox.mono a0_0 l0_1 l0_2 a0_3 l1_0 l1_1 k, rfl⟩
theorem spec_PassBox.j0v_eq (x35 : Bool) (x176000 : Int) (x176001 : List Int) (x176002 : List Int) (x176003 : Bool) (x177000 : List Int) (x177001 : List (S69)) : spec_PassBox.j0v x35 x176000 x176001 x176002 x176003 x177000 x177001 = if x35 = true then (some (([] : List Int), ([] : List (S69)), false)) else ((some (([] : List Int) : List Int)).bind fun y181 => (if y181.length + x177000.length < 17592186044416 then (spec_PassBox.l0v 0 x176000 x176001 x176002 x176003 x177000 x177001 (y181 ++ x177000) ([] : List (S69))) else (none))) := by
  refine Is.step (spec_PassBox.j0_is x35 x176000 x176001 x176002 x176003 x177000 x177001).mo (fun k => by rw [spec_PassBox.j0]) ?_
  · skip
    repeat' first
    | with_reducible exact spec_PassBox.l0_is _ _ _ _ _ _ _ _ _
    | with_reducible exact Is.now _
    | with_reducible refine Is.ite ?_ ?_
    | with_reducible refine Is.bind ?_ (fun _ => ?_)
theorem spec_PassBox.l0v_eq (x7 : Int) (x176000 : Int) (x176001 : List Int) (x176002 : List Int) (x176003 : Bool) (x177000 : List Int) (x177001 : List (S69)) (x188000 : List Int) (x188001 : List (S69)) : spec_PassBox.l0v x7 x176000 x176001 x176002 x176003 x177000 x177001 x188000 x188001 = if x7 < (x177001.length : Int) then (if 0 ≤ x7 then ((spec_l9Has.fv x176002 ((rd_T69 x177001 x7).f0)).bind fun t189 => ((spec_l9Has.fv x176001 ((rd_T69 x177001 x7).f0)).bind fun t190 => (if t190 = true then (spec_PassBox.j2v x7 ((rd_T69 x177001 x7).f0) t189 true x176000 x176001 x176002 x176003 x177000 x177001 x188000 x188001) else (if x176003 = true then (if t189 = true then (spec_PassBox.j2v x7 ((rd_T69 x177001 x7).f0) t189 false x176000 x176001 x176002 x176003 x177000 x177001 x188000 x188001) else ((spec_l1In.f ((rd_T69 x177001 x7).f0) 1 3).bind fun t191 => (spec_PassBox.j2v x7 ((rd_T69 x177001 x7).f0) t189 (!t191) x176000 x176001 x176002 x176003 x177000 x177001 x188000 x188001))) else (spec_PassBox.j2v x7 ((rd_T69 x177001 x7).f0) t189 false x176000 x176001 x176002 x176003 x177000 x177001 x188000 x188001))))) else (none)) else (some (x188000, x188001, true)) := by
  refine Is.step (spec_PassBox.l0_is x7 x176000 x176001 x176002 x176003 x177000 x177001 x188000 x188001).mo (fun k => by rw [spec_PassBox.l0]) ?_
  · skip
    repeat' first
    | with_reducible exact spec_PassBox.j2_is _ _ _ _ _ _ _ _ _ _ _ _
    | with_reducible exact spec_l9Has.f_is _ _
    | with_reducible exact Is.now _
    | with_reducible refine Is.ite ?_ ?_
    | with_reducible refine Is.bind ?_ (fun _ => ?_)
theorem spec_PassBox.j2v_eq (x7 : Int) (x8 : Int) (x9 : Bool) (x75 : Bool) (x176000 : Int) (x176001 : List Int) (x176002 : List Int) (x176003 : Bool) (x177000 : List Int) (x177001 : List (S69)) (x188000 : List Int) (x188001 : List (S69)) : spec_PassBox.j2v x7 x8 x9 x75 x176000 x176001 x176002 x176003 x177000 x177001 x188000 x188001 = if x75 = true then (some (([] : List Int), ([] : List (S69)), false)) else (if x9 = true then (spec_PassBox.l0v (wrap64 (x7 + 1)) x176000 x176001 x176002 x176003 x177000 x177001 x188000 x188001) else ((some (([] : List Int) : List Int)).bind fun y192 => (if 0 ≤ x7 then (if x7 < (x177001.length : Int) then (if y192.length + ((rd_T69 x177001 x7).f1).length < 17592186044416 then (if x188001.length < 4398046511104 then (spec_PassBox.l0v (wrap64 (x7 + 1)) x176000 x176001 x176002 x176003 x177000 x177001 x188000 (x188001 ++ [(⟨x8, (y192 ++ ((rd_T69 x177001 x7).f1))⟩ : S69)])) else (none)) else (none)) else (none)) else (none)))) := by
  refine Is.step (spec_PassBox.j2_is x7 x8 x9 x75 x176000 x176001 x176002 x176003 x177000 x177001 x188000 x188001).mo (fun k => by rw [spec_PassBox.j2]) ?_
  · skip
    repeat' first
    | with_reducible exact spec_PassBox.l0_is _ _ _ _ _ _ _ _ _
    | with_reducible exact Is.now _
    | with_reducible refine Is.ite ?_ ?_
    | with_reducible refine Is.bind ?_ (fun _ => ?_)
theorem spec_PassBox.fv_eq (a0_0 : Int) (l0_1 : List Int) (l0_2 : List Int) (a0_3 : Bool) (l1_0 : List Int) (l1_1 : List (S69)) : spec_PassBox.fv a0_0 l0_1 l0_2 a0_3 l1_0 l1_1 = (spec_IsBox.fv a0_0 l0_1 l0_2 a0_3).bind fun t178 => (if t178 = true then ((spec_IsHello.fv l1_0 l1_1).bind fun t179 => (if t179 = true then (if a0_0 > 0 then (if 0 ≤ (wrap64 ((l1_0.length : Int) - 1)) then (if (wrap64 ((l1_0.length : Int) - 1)) < (l1_0.length : Int) then (spec_PassBox.j0v (decide ((rd l1_0 (wrap64 ((l1_0.length : Int) - 1))) > a0_0)) a0_0 l0_1 l0_2 a0_3 l1_0 l1_1) else (none)) else (none)) else (spec_PassBox.j0v false a0_0 l0_1 l0_2 a0_3 l1_0 l1_1)) else (spec_PassBox.j0v true a0_0 l0_1 l0_2 a0_3 l1_0 l1_1))) else (spec_PassBox.j0v true a0_0 l0_1 l0_2 a0_3 l1_0 l1_1)) := by
  refine Is.lim (g := fun k => spec_PassBox.f k a0_0 l0_1 l0_2 a0_3 l1_0 l1_1) ?_
  · unfold spec_PassBox.f
    repeat' first
    | with_reducible exact spec_IsBox.f_is _ _ _ _
    | with_reducible exact spec_IsHello.f_is _ _
    | with_reducible exact spec_PassBox.j0_is _ _ _ _ _ _ _
    | with_reducible exact Is.now _
    | with_reducible refine Is.ite ?_ ?_
    | with_reducible refine Is.bind ?_ (fun _ => ?_)
end Go.Proofs.Ytpoandlbmaljhaa.Print

/- Written by a program of this session (limx.py): the equations of what the printed functions come to. No condition. -/
namespace Go.Proofs.Ytpoandlbmaljhaa.Print
open Go.RowKit Go.Proofs.YtpoandlbmaljhaaW.PrintWords Go.Proofs.YtpoandlbmaljhaaW.PrintLast Go.Proofs.Ytpoandlbmaljhaa.Base
set_option linter.unusedVariables false
set_option maxRecDepth 20000
noncomputable def spec_PassPath.j0v (x0 : List (S50)) (x17 : Bool) (x203000 : List Int) (x203001 : List (S69)) : Option (List Int × (List (S69)) × Bool) := Lim fun k => spec_PassPath.j0 k x0 x17 x203000 x203001
noncomputable def spec_PassPath.l0v (x0 : List (S50)) (x7 : Int) (x212000 : List Int) (x212001 : List (S69)) : Option (List Int × (List (S69)) × Bool) := Lim fun k => spec_PassPath.l0 k x0 x7 x212000 x212001
noncomputable def spec_PassPath.fv (l0 : List (S50)) (l1_0 : List Int) (l1_1 : List (S69)) : Option (List Int × (List (S69)) × Bool) := Lim fun k => spec_PassPath.f k l0 l1_0 l1_1
theorem spec_PassPath.j0_is (x0 : List (S50)) (x17 : Bool) (x203000 : List Int) (x203001 : List (S69)) : Is (fun k => spec_PassPath.j0 k x0 x17 x203000 x203001) (spec_PassPath.j0v x0 x17 x203000 x203001) := ⟨fun k => (spec_PassPath.mono_l k).1 x0 x17 x203000 x203001, rfl⟩
theorem spec_PassPath.l0_is (x0 : List (S50)) (x7 : Int) (x212000 : List Int) (x212001 : List (S69)) : Is (fun k => spec_PassPath.l0 k x0 x7 x212000 x212001) (spec_PassPath.l0v x0 x7 x212000 x212001) := ⟨fun k => (spec_PassPath.mono_l k).2 x0 x7 x212000 x212001, rfl⟩
theorem spec_PassPath.f_is (l0 : List (S50)) (l1_0 : List Int) (l1_1 : List (S69)) : Is (fun k => spec_PassPath.f k l0 l1_0 l1_1) (spec_PassPath.fv l0 l1_0 l1_1) := ⟨fun k => spec_PassPath.mono l0 l1_0 l1_1 k, rfl⟩
theorem spec_PassPath.j0v_eq (x0 : List (S50)) (x17 : Bool) (x203000 : List Int) (x203001 : List (S69)) : spec_PassPath.j0v x0 x17 x203000 x203001 = if x17 = true then (some (([] : List Int), ([] : List (S69)), false)) else ((spec_l18Hello.fv x203000 x203001).bind fun bt205 => (spec_PassPath.l0v x0 0 bt205.1 bt205.2)) := by
  refine Is.step (spec_PassPath.j0_is x0 x17 x203000 x203001).mo (fun k => by rw [spec_PassPath.j0]) ?_
  · skip
    repeat' first
    | with_reducible exact spec_PassPath.l0_is _ _ _ _
    | with_reducible exact spec_l18Hello.f_is _ _
    | with_reducible exact Is.now _
    | with_reducible refine Is.ite ?_ ?_
    | with_reducible refine Is.bind ?_ (fun _ => ?_)
theorem spec_PassPath.l0v_eq (x0 : List (S50)) (x7 : Int) (x212000 : List Int) (x212001 : List (S69)) : spec_PassPath.l0v x0 x7 x212000 x212001 = if x7 < (x0.length : Int) then (if 0 ≤ x7 then ((spec_PassBox.fv ((rd_T50 x0 x7).f0) ((rd_T50 x0 x7).f1) ((rd_T50 x0 x7).f2) ((rd_T50 x0 x7).f3) x212000 x212001).bind fun bt213 => (if bt213.2.2 = true then (spec_PassPath.l0v x0 (wrap64 (x7 + 1)) bt213.1 bt213.2.1) else (some (([] : List Int), ([] : List (S69)), false)))) else (none)) else (some (x212000, x212001, true)) := by
  refine Is.step (spec_PassPath.l0_is x0 x7 x212000 x212001).mo (fun k => by rw [spec_PassPath.l0]) ?_
  · skip
    repeat' first
    | with_reducible exact spec_PassBox.f_is _ _ _ _ _ _
    | with_reducible exact spec_PassPath.l0_is _ _ _ _
    | with_reducible exact Is.now _
    | with_reducible refine Is.ite ?_ ?_
    | with_reducible refine Is.bind ?_ (fun _ => ?_)
theorem spec_PassPath.fv_eq (l0 : List (S50)) (l1_0 : List Int) (l1_1 : List (S69)) : spec_PassPath.fv l0 l1_0 l1_1 = if (l0.length : Int) > 4 then (spec_PassPath.j0v l0 true l1_0 l1_1) else ((spec_IsHello.fv l1_0 l1_1).bind fun t204 => (spec_PassPath.j0v l0 (!t204) l1_0 l1_1)) := by
  refine Is.lim (g := fun k => spec_PassPath.f k l0 l1_0 l1_1) ?_
  · unfold spec_PassPath.f
    repeat' first
    | with_reducible exact spec_IsHello.f_is _ _
    | with_reducible exact spec_PassPath.j0_is _ _ _ _
    | with_reducible exact Is.now _
    | with_reducible refine Is.ite ?_ ?_
    | with_reducible refine Is.bind ?_ (fun _ => ?_)
noncomputable def spec_IsOpenPath.fv (l0 : List (S50)) (l1 : List Int) : Option (Bool) := Lim fun k => spec_IsOpenPath.f k l0 l1
theorem spec_IsOpenPath.f_is (l0 : List (S50)) (l1 : List Int) : Is (fun k => spec_IsOpenPath.f k l0 l1) (spec_IsOpenPath.fv l0 l1) := ⟨fun k => spec_IsOpenPath.mono l0 l1 k, rfl⟩
theorem spec_IsOpenPath.fv_eq (l0 : List (S50)) (l1 : List Int) : spec_IsOpenPath.fv l0 l1 = (spec_AreVersions.fv l1).bind fun t221 => (if t221 = true then (if 1 ≤ (l1.length : Int) then ((spec_PlainHello.f (l1.take 1)).bind fun bt223 => ((spec_PassPath.fv l0 bt223.1 bt223.2).bind fun bt229 => (some bt229.2.2))) else (none)) else (some false)) := by
  refine Is.lim (g := fun k => spec_IsOpenPath.f k l0 l1) ?_
  · unfold spec_IsOpenPath.f
    repeat' first
    | with_reducible exact spec_AreVersions.f_is _
    | with_reducible exact spec_PassPath.f_is _ _ _
    | with_reducible exact Is.now _
    | with_reducible refine Is.ite ?_ ?_
    | with_reducible refine Is.bind ?_ (fun _ => ?_)
noncomputable def spec_EqualInts.l0v (x0 : List Int) (x1 : List Int) (x5 : Int) : Option (Bool) := Lim fun k => spec_EqualInts.l0 k x0 x1 x5
noncomputable def spec_EqualInts.fv (l0 : List Int) (l1 : List Int) : Option (Bool) := Lim fun k => spec_EqualInts.f k l0 l1
theorem spec_EqualInts.l0_is (x0 : List Int) (x1 : List Int) (x5 : Int) : Is (fun k => spec_EqualInts.l0 k x0 x1 x5) (spec_EqualInts.l0v x0 x1 x5) := ⟨fun k => (spec_EqualInts.mono_l k) x0 x1 x5, rfl⟩
theorem spec_EqualInts.f_is (l0 : List Int) (l1 : List Int) : Is (fun k => spec_EqualInts.f k l0 l1) (spec_EqualInts.fv l0 l1) := ⟨fun k => spec_EqualInts.mono l0 l1 k, rfl⟩
theorem spec_EqualInts.l0v_eq (x0 : List Int) (x1 : List Int) (x5 : Int) : spec_EqualInts.l0v x0 x1 x5 = if x5 < (x0.length : Int) then (if 0 ≤ x5 then (if x5 < (x1.length : Int) then (if (rd x0 x5) = (rd x1 x5) then (spec_EqualInts.l0v x0 x1 (wrap64 (x5 + 1))) else (some false)) else (none)) else (none)) else (some true) := by
  refine Is.step (spec_EqualInts.l0_is x0 x1 x5).mo (fun k => by rw [spec_EqualInts.l0]) ?_
  · skip
    repeat' first
    | with_reducible exact spec_EqualInts.l0_is _ _ _
    | with_reducible exact Is.now _
    | with_reducible refine Is.ite ?_ ?_
    | with_reducible refine Is.bind ?_ (fun _ => ?_)
theorem spec_EqualInts.fv_eq (l0 : List Int) (l1 : List Int) : spec_EqualInts.fv l0 l1 = if (l0.length : Int) = (l1.length : Int) then (spec_EqualInts.l0v l0 l1 0) else (some false) := by
  refine Is.lim (g := fun k => spec_EqualInts.f k l0 l1) ?_
  · unfold spec_EqualInts.f
    repeat' first
    | with_reducible exact spec_EqualInts.l0_is _ _ _
    | with_reducible exact Is.now _
    | with_reducible refine Is.ite ?_ ?_
    | with_reducible refine Is.bind ?_ (fun _ => ?_)
end Go.Proofs.Ytpoandlbmaljhaa.Print

/- Written by a program of this session (limx.py): the equations of what the printed functions come to. No condition. -/
namespace Go.Proofs.Ytpoandlbmaljhaa.Print
open Go.RowKit Go.Proofs.YtpoandlbmaljhaaW.PrintWords Go.Proofs.YtpoandlbmaljhaaW.PrintLast Go.Proofs.Ytpoandlbmaljhaa.Base
set_option linter.unusedVariables false
set_option maxRecDepth 20000
noncomputable def spec_EqualExts.l0v (x0 : List (S69)) (x1 : List (S69)) (x5 : Int) : Option (Bool) := Lim fun k => spec_EqualExts.l0 k x0 x1 x5
noncomputable def spec_EqualExts.fv (l0 : List (S69)) (l1 : List (S69)) : Option (Bool) := Lim fun k => spec_EqualExts.f k l0 l1
theorem spec_EqualExts.l0_is (x0 : List (S69)) (x1 : List (S69)) (x5 : Int) : Is (fun k => spec_EqualExts.l0 k x0 x1 x5) (spec_EqualExts.l0v x0 x1 x5) := ⟨fun k => (spec_EqualExts.mono_l k) x0 x1 x5, rfl⟩
theorem spec_EqualExts.f_is (l0 : List (S69)) (l1 : List (S69)) : Is (fun k => spec_EqualExts.f k l0 l1) (spec_EqualExts.fv l0 l1) := ⟨fun k => spec_EqualExts.mono l0 l1 k, rfl⟩
theorem spec_EqualExts.l0v_eq (x0 : List (S69)) (x1 : List (S69)) (x5 : Int) : spec_EqualExts.l0v x0 x1 x5 = if x5 < (x0.length : Int) then (if 0 ≤ x5 then (if x5 < (x1.length : Int) then (if ((rd_T69 x0 x5).f0) = ((rd_T69 x1 x5).f0) then ((spec_EqualInts.fv ((rd_T69 x0 x5).f1) ((rd_T69 x1 x5).f1)).bind fun t243 => (if t243 = true then (spec_EqualExts.l0v x0 x1 (wrap64 (x5 + 1))) else (some false))) else (some false)) else (none)) else (none)) else (some true) := by
  refine Is.step (spec_EqualExts.l0_is x0 x1 x5).mo (fun k => by rw [spec_EqualExts.l0]) ?_
  · skip
    repeat' first
    | with_reducible exact spec_EqualExts.l0_is _ _ _
    | with_reducible exact spec_EqualInts.f_is _ _
    | with_reducible exact Is.now _
    | with_reducible refine Is.ite ?_ ?_
    | with_reducible refine Is.bind ?_ (fun _ => ?_)
theorem spec_EqualExts.fv_eq (l0 : List (S69)) (l1 : List (S69)) : spec_EqualExts.fv l0 l1 = if (l0.length : Int) = (l1.length : Int) then (spec_EqualExts.l0v l0 l1 0) else (some false) := by
  refine Is.lim (g := fun k => spec_EqualExts.f k l0 l1) ?_
  · unfold spec_EqualExts.f
    repeat' first
    | with_reducible exact spec_EqualExts.l0_is _ _ _
    | with_reducible exact Is.now _
    | with_reducible refine Is.ite ?_ ?_
    | with_reducible refine Is.bind ?_ (fun _ => ?_)
noncomputable def spec_LostTags.j0v (x0 : List (S50)) (x1 : List Int) (x2 : List (S69)) (x7 : List Int) (x21 : Bool) : Option (List Int) := Lim fun k => spec_LostTags.j0 k x0 x1 x2 x7 x21
noncomputable def spec_LostTags.l0v (x0 : List (S50)) (x1 : List Int) (x2 : List (S69)) (x7 : List Int) (x8 : Int) : Option (List Int) := Lim fun k => spec_LostTags.l0 k x0 x1 x2 x7 x8
noncomputable def spec_LostTags.fv (l0 : List (S50)) (l1 : List Int) (l2 : List (S69)) : Option (List Int) := Lim fun k => spec_LostTags.f k l0 l1 l2
theorem spec_LostTags.j0_is (x0 : List (S50)) (x1 : List Int) (x2 : List (S69)) (x7 : List Int) (x21 : Bool) : Is (fun k => spec_LostTags.j0 k x0 x1 x2 x7 x21) (spec_LostTags.j0v x0 x1 x2 x7 x21) := ⟨fun k => (spec_LostTags.mono_l k).1 x0 x1 x2 x7 x21, rfl⟩
theorem spec_LostTags.l0_is (x0 : List (S50)) (x1 : List Int) (x2 : List (S69)) (x7 : List Int) (x8 : Int) : Is (fun k => spec_LostTags.l0 k x0 x1 x2 x7 x8) (spec_LostTags.l0v x0 x1 x2 x7 x8) := ⟨fun k => (spec_LostTags.mono_l k).2 x0 x1 x2 x7 x8, rfl⟩
theorem spec_LostTags.f_is (l0 : List (S50)) (l1 : List Int) (l2 : List (S69)) : Is (fun k => spec_LostTags.f k l0 l1 l2) (spec_LostTags.fv l0 l1 l2) := ⟨fun k => spec_LostTags.mono l0 l1 l2 k, rfl⟩
theorem spec_LostTags.j0v_eq (x0 : List (S50)) (x1 : List Int) (x2 : List (S69)) (x7 : List Int) (x21 : Bool) : spec_LostTags.j0v x0 x1 x2 x7 x21 = if x21 = true then (some x7) else (spec_LostTags.l0v x0 x1 x2 x7 0) := by
  refine Is.step (spec_LostTags.j0_is x0 x1 x2 x7 x21).mo (fun k => by rw [spec_LostTags.j0]) ?_
  · skip
    repeat' first
    | with_reducible exact spec_LostTags.l0_is _ _ _ _ _
    | with_reducible exact Is.now _
    | with_reducible refine Is.ite ?_ ?_
    | with_reducible refine Is.bind ?_ (fun _ => ?_)
theorem spec_LostTags.l0v_eq (x0 : List (S50)) (x1 : List Int) (x2 : List (S69)) (x7 : List Int) (x8 : Int) : spec_LostTags.l0v x0 x1 x2 x7 x8 = if x8 < (x2.length : Int) then (if 1 ≤ (x1.length : Int) then ((spec_PlainHello.f (x1.take 1)).bind fun bt250 => (if 0 ≤ x8 then (if x8 ≤ (wrap64 (x8 + 1)) then (if (wrap64 (x8 + 1)) ≤ (x2.length : Int) then ((some ((x2.take ((wrap64 (x8 + 1)) : Int).toNat).drop (x8 : Int).toNat : List (S69))).bind fun y257 => ((spec_PassPath.fv x0 bt250.1 y257).bind fun bt261 => (if bt261.2.2 = true then ((spec_EqualExts.fv bt261.2.1 y257).bind fun t269 => (if t269 = true then (spec_LostTags.l0v x0 x1 x2 x7 (wrap64 (x8 + 1))) else (if x7.length < 17592186044416 then (spec_LostTags.l0v x0 x1 x2 (x7 ++ [(rd_T69 x2 x8).f0]) (wrap64 (x8 + 1))) else (none)))) else (if x7.length < 17592186044416 then (spec_LostTags.l0v x0 x1 x2 (x7 ++ [(rd_T69 x2 x8).f0]) (wrap64 (x8 + 1))) else (none))))) else (none)) else (none)) else (none))) else (none)) else (some x7) := by
  refine Is.step (spec_LostTags.l0_is x0 x1 x2 x7 x8).mo (fun k => by rw [spec_LostTags.l0]) ?_
  · skip
    repeat' first
    | with_reducible exact spec_EqualExts.f_is _ _
    | with_reducible exact spec_LostTags.l0_is _ _ _ _ _
    | with_reducible exact spec_PassPath.f_is _ _ _
    | with_reducible exact Is.now _
    | with_reducible refine Is.ite ?_ ?_
    | with_reducible refine Is.bind ?_ (fun _ => ?_)
theorem spec_LostTags.fv_eq (l0 : List (S50)) (l1 : List Int) (l2 : List (S69)) : spec_LostTags.fv l0 l1 l2 = (some (([] : List Int) : List Int)).bind fun y244 => ((spec_AreExts.fv l2).bind fun t247 => (if t247 = true then ((spec_IsOpenPath.fv l0 l1).bind fun t248 => (spec_LostTags.j0v l0 l1 l2 y244 (!t248))) else (spec_LostTags.j0v l0 l1 l2 y244 true))) := by
  refine Is.lim (g := fun k => spec_LostTags.f k l0 l1 l2) ?_
  · unfold spec_LostTags.f
    repeat' first
    | with_reducible exact spec_AreExts.f_is _
    | with_reducible exact spec_IsOpenPath.f_is _ _
    | with_reducible exact spec_LostTags.j0_is _ _ _ _ _
    | with_reducible exact Is.now _
    | with_reducible refine Is.ite ?_ ?_
    | with_reducible refine Is.bind ?_ (fun _ => ?_)
noncomputable def spec_HardnessOf.l0v (x0 : List (S50)) (x1 : List Int) (x5 : Int) (x6 : Int) : Option (Int) := Lim fun k => spec_HardnessOf.l0 k x0 x1 x5 x6
noncomputable def spec_HardnessOf.fv (l0 : List (S50)) (l1 : List Int) : Option (Int) := Lim fun k => spec_HardnessOf.f k l0 l1
theorem spec_HardnessOf.l0_is (x0 : List (S50)) (x1 : List Int) (x5 : Int) (x6 : Int) : Is (fun k => spec_HardnessOf.l0 k x0 x1 x5 x6) (spec_HardnessOf.l0v x0 x1 x5 x6) := ⟨fun k => (spec_HardnessOf.mono_l k) x0 x1 x5 x6, rfl⟩
theorem spec_HardnessOf.f_is (l0 : List (S50)) (l1 : List Int) : Is (fun k => spec_HardnessOf.f k l0 l1) (spec_HardnessOf.fv l0 l1) := ⟨fun k => spec_HardnessOf.mono l0 l1 k, rfl⟩
theorem spec_HardnessOf.l0v_eq (x0 : List (S50)) (x1 : List Int) (x5 : Int) (x6 : Int) : spec_HardnessOf.l0v x0 x1 x5 x6 = if x6 < 256 then ((spec_l29One.f x6).bind fun t281 => ((spec_LostTags.fv x0 x1 t281).bind fun t284 => (if (t284.length : Int) > 0 then (spec_HardnessOf.l0v x0 x1 (wrap64 (x5 + 1)) (wrap64 (x6 + 16))) else (spec_HardnessOf.l0v x0 x1 x5 (wrap64 (x6 + 16)))))) else (some x5) := by
  refine Is.step (spec_HardnessOf.l0_is x0 x1 x5 x6).mo (fun k => by rw [spec_HardnessOf.l0]) ?_
  · skip
    repeat' first
    | with_reducible exact spec_HardnessOf.l0_is _ _ _ _
    | with_reducible exact spec_LostTags.f_is _ _ _
    | with_reducible exact Is.now _
    | with_reducible refine Is.ite ?_ ?_
    | with_reducible refine Is.bind ?_ (fun _ => ?_)
theorem spec_HardnessOf.fv_eq (l0 : List (S50)) (l1 : List Int) : spec_HardnessOf.fv l0 l1 = spec_HardnessOf.l0v l0 l1 0 10 := by
  refine Is.lim (g := fun k => spec_HardnessOf.f k l0 l1) ?_
  · unfold spec_HardnessOf.f
    repeat' first
    | with_reducible exact spec_HardnessOf.l0_is _ _ _ _
    | with_reducible exact Is.now _
    | with_reducible refine Is.ite ?_ ?_
    | with_reducible refine Is.bind ?_ (fun _ => ?_)
end Go.Proofs.Ytpoandlbmaljhaa.Print

/- Written by a program of this session (limx.py): the equations of what the printed functions come to. No condition. -/
namespace Go.Proofs.Ytpoandlbmaljhaa.Print
open Go.RowKit Go.Proofs.YtpoandlbmaljhaaW.PrintWords Go.Proofs.YtpoandlbmaljhaaW.PrintLast Go.Proofs.Ytpoandlbmaljhaa.Base
set_option linter.unusedVariables false
set_option maxRecDepth 20000
noncomputable def laws_eqBox.fv (a0_0 : Int) (l0_1 : List Int) (l0_2 : List Int) (a0_3 : Bool) (a1_0 : Int) (l1_1 : List Int) (l1_2 : List Int) (a1_3 : Bool) : Option (Bool) := Lim fun k => laws_eqBox.f k a0_0 l0_1 l0_2 a0_3 a1_0 l1_1 l1_2 a1_3
theorem laws_eqBox.f_is (a0_0 : Int) (l0_1 : List Int) (l0_2 : List Int) (a0_3 : Bool) (a1_0 : Int) (l1_1 : List Int) (l1_2 : List Int) (a1_3 : Bool) : Is (fun k => laws_eqBox.f k a0_0 l0_1 l0_2 a0_3 a1_0 l1_1 l1_2 a1_3) (laws_eqBox.fv a0_0 l0_1 l0_2 a0_3 a1_0 l1_1 l1_2 a1_3) := ⟨fun k => laws_eqBox.mono a0_0 l0_1 l0_2 a0_3 a1_0 l1_1 l1_2 a1_3 k, rfl⟩
theorem laws_eqBox.fv_eq (a0_0 : Int) (l0_1 : List Int) (l0_2 : List Int) (a0_3 : Bool) (a1_0 : Int) (l1_1 : List Int) (l1_2 : List Int) (a1_3 : Bool) : laws_eqBox.fv a0_0 l0_1 l0_2 a0_3 a1_0 l1_1 l1_2 a1_3 = if a0_0 = a1_0 then ((laws_eqIntS.fv l0_1 l1_1).bind fun t526 => (if t526 = true then ((laws_eqIntS.fv l0_2 l1_2).bind fun t527 => (if t527 = true then (if a0_3 = true then (if a1_3 = true then (some true) else (some false)) else (if a1_3 = true then (some false) else (some true))) else (some false))) else (some false))) else (some false) := by
  refine Is.lim (g := fun k => laws_eqBox.f k a0_0 l0_1 l0_2 a0_3 a1_0 l1_1 l1_2 a1_3) ?_
  · unfold laws_eqBox.f
    repeat' first
    | with_reducible exact laws_eqIntS.f_is _ _
    | with_reducible exact Is.now _
    | with_reducible refine Is.ite ?_ ?_
    | with_reducible refine Is.bind ?_ (fun _ => ?_)
noncomputable def laws_eqBoxS.l0v (x0 : List (S50)) (x1 : List (S50)) (x5 : Int) : Option (Bool) := Lim fun k => laws_eqBoxS.l0 k x0 x1 x5
noncomputable def laws_eqBoxS.fv (l0 : List (S50)) (l1 : List (S50)) : Option (Bool) := Lim fun k => laws_eqBoxS.f k l0 l1
theorem laws_eqBoxS.l0_is (x0 : List (S50)) (x1 : List (S50)) (x5 : Int) : Is (fun k => laws_eqBoxS.l0 k x0 x1 x5) (laws_eqBoxS.l0v x0 x1 x5) := ⟨fun k => (laws_eqBoxS.mono_l k) x0 x1 x5, rfl⟩
theorem laws_eqBoxS.f_is (l0 : List (S50)) (l1 : List (S50)) : Is (fun k => laws_eqBoxS.f k l0 l1) (laws_eqBoxS.fv l0 l1) := ⟨fun k => laws_eqBoxS.mono l0 l1 k, rfl⟩
theorem laws_eqBoxS.l0v_eq (x0 : List (S50)) (x1 : List (S50)) (x5 : Int) : laws_eqBoxS.l0v x0 x1 x5 = if x5 < (x0.length : Int) then (if 0 ≤ x5 then (if x5 < (x1.length : Int) then ((laws_eqBox.fv ((rd_T50 x0 x5).f0) ((rd_T50 x0 x5).f1) ((rd_T50 x0 x5).f2) ((rd_T50 x0 x5).f3) ((rd_T50 x1 x5).f0) ((rd_T50 x1 x5).f1) ((rd_T50 x1 x5).f2) ((rd_T50 x1 x5).f3)).bind fun t530 => (if t530 = true then (laws_eqBoxS.l0v x0 x1 (wrap64 (x5 + 1))) else (some false))) else (none)) else (none)) else (some true) := by
  refine Is.step (laws_eqBoxS.l0_is x0 x1 x5).mo (fun k => by rw [laws_eqBoxS.l0]) ?_
  · skip
    repeat' first
    | with_reducible exact laws_eqBox.f_is _ _ _ _ _ _ _ _
    | with_reducible exact laws_eqBoxS.l0_is _ _ _
    | with_reducible exact Is.now _
    | with_reducible refine Is.ite ?_ ?_
    | with_reducible refine Is.bind ?_ (fun _ => ?_)
theorem laws_eqBoxS.fv_eq (l0 : List (S50)) (l1 : List (S50)) : laws_eqBoxS.fv l0 l1 = if (l0.length : Int) = (l1.length : Int) then (laws_eqBoxS.l0v l0 l1 0) else (some false) := by
  refine Is.lim (g := fun k => laws_eqBoxS.f k l0 l1) ?_
  · unfold laws_eqBoxS.f
    repeat' first
    | with_reducible exact laws_eqBoxS.l0_is _ _ _
    | with_reducible exact Is.now _
    | with_reducible refine Is.ite ?_ ?_
    | with_reducible refine Is.bind ?_ (fun _ => ?_)
noncomputable def spec_Hash.l0v (x0 : List Int) (x3 : Int) (x4 : Int) : Option (Int) := Lim fun k => spec_Hash.l0 k x0 x3 x4
noncomputable def spec_Hash.fv (l0 : List Int) : Option (Int) := Lim fun k => spec_Hash.f k l0
theorem spec_Hash.l0_is (x0 : List Int) (x3 : Int) (x4 : Int) : Is (fun k => spec_Hash.l0 k x0 x3 x4) (spec_Hash.l0v x0 x3 x4) := ⟨fun k => (spec_Hash.mono_l k) x0 x3 x4, rfl⟩
theorem spec_Hash.f_is (l0 : List Int) : Is (fun k => spec_Hash.f k l0) (spec_Hash.fv l0) := ⟨fun k => spec_Hash.mono l0 k, rfl⟩
theorem spec_Hash.l0v_eq (x0 : List Int) (x3 : Int) (x4 : Int) : spec_Hash.l0v x0 x3 x4 = if x4 < (x0.length : Int) then (if 0 ≤ x4 then ((spec_Mod.f (rd x0 x4) 2147483647).bind fun t556 => (spec_Hash.l0v x0 (Int.tmod (wrap64 ((wrap64 ((wrap64 (x3 * 1000003)) + t556)) + 13)) 2147483647) (wrap64 (x4 + 1)))) else (none)) else (some x3) := by
  refine Is.step (spec_Hash.l0_is x0 x3 x4).mo (fun k => by rw [spec_Hash.l0]) ?_
  · skip
    repeat' first
    | with_reducible exact spec_Hash.l0_is _ _ _
    | with_reducible exact Is.now _
    | with_reducible refine Is.ite ?_ ?_
    | with_reducible refine Is.bind ?_ (fun _ => ?_)
theorem spec_Hash.fv_eq (l0 : List Int) : spec_Hash.fv l0 = spec_Hash.l0v l0 11 0 := by
  refine Is.lim (g := fun k => spec_Hash.f k l0) ?_
  · unfold spec_Hash.f
    repeat' first
    | with_reducible exact spec_Hash.l0_is _ _ _
    | with_reducible exact Is.now _
    | with_reducible refine Is.ite ?_ ?_
    | with_reducible refine Is.bind ?_ (fun _ => ?_)
noncomputable def spec_PickOf.fv (a0 : Int) (a1 : Int) (a2 : Int) : Option (Int) := Lim fun k => spec_PickOf.f k a0 a1 a2
theorem spec_PickOf.f_is (a0 : Int) (a1 : Int) (a2 : Int) : Is (fun k => spec_PickOf.f k a0 a1 a2) (spec_PickOf.fv a0 a1 a2) := ⟨fun k => spec_PickOf.mono a0 a1 a2 k, rfl⟩
theorem spec_PickOf.fv_eq (a0 : Int) (a1 : Int) (a2 : Int) : spec_PickOf.fv a0 a1 a2 = if a2 < 1 then (some 0) else ((spec_Hash.fv (([a0, a1] : List Int))).bind fun t560 => ((spec_Mod.f t560 a2).bind fun t561 => (some t561))) := by
  refine Is.lim (g := fun k => spec_PickOf.f k a0 a1 a2) ?_
  · unfold spec_PickOf.f
    repeat' first
    | with_reducible exact spec_Hash.f_is _
    | with_reducible exact Is.now _
    | with_reducible refine Is.ite ?_ ?_
    | with_reducible refine Is.bind ?_ (fun _ => ?_)
noncomputable def spec_GreaseTag.fv (a0 : Int) : Option (Int) := Lim fun k => spec_GreaseTag.f k a0
theorem spec_GreaseTag.f_is (a0 : Int) : Is (fun k => spec_GreaseTag.f k a0) (spec_GreaseTag.fv a0) := ⟨fun k => spec_GreaseTag.mono a0 k, rfl⟩
theorem spec_GreaseTag.fv_eq (a0 : Int) : spec_GreaseTag.fv a0 = (spec_PickOf.fv a0 0 16).bind fun t562 => (some (wrap64 ((wrap64 (16 * t562)) + 10))) := by
  refine Is.lim (g := fun k => spec_GreaseTag.f k a0) ?_
  · unfold spec_GreaseTag.f
    repeat' first
    | with_reducible exact spec_PickOf.f_is _ _ _
    | with_reducible exact Is.now _
    | with_reducible refine Is.ite ?_ ?_
    | with_reducible refine Is.bind ?_ (fun _ => ?_)
noncomputable def spec_GreaseLost.fv (l0 : List (S50)) (l1 : List Int) (a2 : Int) : Option (Bool) := Lim fun k => spec_GreaseLost.f k l0 l1 a2
theorem spec_GreaseLost.f_is (l0 : List (S50)) (l1 : List Int) (a2 : Int) : Is (fun k => spec_GreaseLost.f k l0 l1 a2) (spec_GreaseLost.fv l0 l1 a2) := ⟨fun k => spec_GreaseLost.mono l0 l1 a2 k, rfl⟩
theorem spec_GreaseLost.fv_eq (l0 : List (S50)) (l1 : List Int) (a2 : Int) : spec_GreaseLost.fv l0 l1 a2 = (spec_GreaseTag.fv a2).bind fun t563 => ((spec_l29One.f t563).bind fun t564 => ((spec_LostTags.fv l0 l1 t564).bind fun t567 => (some (decide ((t567.length : Int) > 0))))) := by
  refine Is.lim (g := fun k => spec_GreaseLost.f k l0 l1 a2) ?_
  · unfold spec_GreaseLost.f
    repeat' first
    | with_reducible exact spec_GreaseTag.f_is _
    | with_reducible exact spec_LostTags.f_is _ _ _
    | with_reducible exact Is.now _
    | with_reducible refine Is.ite ?_ ?_
    | with_reducible refine Is.bind ?_ (fun _ => ?_)
noncomputable def impl_Hash.l0v (x3 : Int) (x6 : List Int) (x7 : Int) (x8 : Int) : Option (Int) := Lim fun k => impl_Hash.l0 k x3 x6 x7 x8
noncomputable def impl_Hash.fv (l0 : List Int) : Option (Int) := Lim fun k => impl_Hash.f k l0
theorem impl_Hash.l0_is (x3 : Int) (x6 : List Int) (x7 : Int) (x8 : Int) : Is (fun k => impl_Hash.l0 k x3 x6 x7 x8) (impl_Hash.l0v x3 x6 x7 x8) := ⟨fun k => (impl_Hash.mono_l k) x3 x6 x7 x8, rfl⟩
theorem impl_Hash.f_is (l0 : List Int) : Is (fun k => impl_Hash.f k l0) (impl_Hash.fv l0) := ⟨fun k => impl_Hash.mono l0 k, rfl⟩
theorem impl_Hash.l0v_eq (x3 : Int) (x6 : List Int) (x7 : Int) (x8 : Int) : impl_Hash.l0v x3 x6 x7 x8 = if x8 < x7 then (if 0 ≤ x8 then (if x8 < (x6.length : Int) then ((impl_Mod.f (rd x6 x8) 2147483647).bind fun t572 => (impl_Hash.l0v (Int.tmod (wrap64 ((wrap64 ((wrap64 (x3 * 1000003)) + t572)) + 13)) 2147483647) x6 x7 (wrap64 (x8 + 1)))) else (none)) else (none)) else (some x3) := by
  refine Is.step (impl_Hash.l0_is x3 x6 x7 x8).mo (fun k => by rw [impl_Hash.l0]) ?_
  · skip
    repeat' first
    | with_reducible exact impl_Hash.l0_is _ _ _ _
    | with_reducible exact Is.now _
    | with_reducible refine Is.ite ?_ ?_
    | with_reducible refine Is.bind ?_ (fun _ => ?_)
theorem impl_Hash.fv_eq (l0 : List Int) : impl_Hash.fv l0 = impl_Hash.l0v 11 l0 (l0.length : Int) 0 := by
  refine Is.lim (g := fun k => impl_Hash.f k l0) ?_
  · unfold impl_Hash.f
    repeat' first
    | with_reducible exact impl_Hash.l0_is _ _ _ _
    | with_reducible exact Is.now _
    | with_reducible refine Is.ite ?_ ?_
    | with_reducible refine Is.bind ?_ (fun _ => ?_)
noncomputable def impl_PickOf.fv (a0 : Int) (a1 : Int) (a2 : Int) : Option (Int) := Lim fun k => impl_PickOf.f k a0 a1 a2
theorem impl_PickOf.f_is (a0 : Int) (a1 : Int) (a2 : Int) : Is (fun k => impl_PickOf.f k a0 a1 a2) (impl_PickOf.fv a0 a1 a2) := ⟨fun k => impl_PickOf.mono a0 a1 a2 k, rfl⟩
theorem impl_PickOf.fv_eq (a0 : Int) (a1 : Int) (a2 : Int) : impl_PickOf.fv a0 a1 a2 = if a2 < 1 then (some 0) else ((impl_Hash.fv (([a0, a1] : List Int))).bind fun t576 => ((impl_Mod.f t576 a2).bind fun t577 => (some t577))) := by
  refine Is.lim (g := fun k => impl_PickOf.f k a0 a1 a2) ?_
  · unfold impl_PickOf.f
    repeat' first
    | with_reducible exact impl_Hash.f_is _
    | with_reducible exact Is.now _
    | with_reducible refine Is.ite ?_ ?_
    | with_reducible refine Is.bind ?_ (fun _ => ?_)
noncomputable def impl_GreaseTag.fv (a0 : Int) : Option (Int) := Lim fun k => impl_GreaseTag.f k a0
theorem impl_GreaseTag.f_is (a0 : Int) : Is (fun k => impl_GreaseTag.f k a0) (impl_GreaseTag.fv a0) := ⟨fun k => impl_GreaseTag.mono a0 k, rfl⟩
theorem impl_GreaseTag.fv_eq (a0 : Int) : impl_GreaseTag.fv a0 = (impl_PickOf.fv a0 0 16).bind fun t578 => (some (wrap64 ((wrap64 (16 * t578)) + 10))) := by
  refine Is.lim (g := fun k => impl_GreaseTag.f k a0) ?_
  · unfold impl_GreaseTag.f
    repeat' first
    | with_reducible exact impl_PickOf.f_is _ _ _
    | with_reducible exact Is.now _
    | with_reducible refine Is.ite ?_ ?_
    | with_reducible refine Is.bind ?_ (fun _ => ?_)
end Go.Proofs.Ytpoandlbmaljhaa.Print

/- Written by a program of this session (limx.py): the equations of what the printed functions come to. No condition. -/
namespace Go.Proofs.Ytpoandlbmaljhaa.Print
open Go.RowKit Go.Proofs.YtpoandlbmaljhaaW.PrintWords Go.Proofs.YtpoandlbmaljhaaW.PrintLast Go.Proofs.Ytpoandlbmaljhaa.Base
set_option linter.unusedVariables false
set_option maxRecDepth 20000
noncomputable def impl_GreaseLost.fv (l0 : List (S50)) (l1 : List Int) (a2 : Int) : Option (Bool) := Lim fun k => impl_GreaseLost.f k l0 l1 a2
theorem impl_GreaseLost.f_is (l0 : List (S50)) (l1 : List Int) (a2 : Int) : Is (fun k => impl_GreaseLost.f k l0 l1 a2) (impl_GreaseLost.fv l0 l1 a2) := ⟨fun k => impl_GreaseLost.mono l0 l1 a2 k, rfl⟩
theorem impl_GreaseLost.fv_eq (l0 : List (S50)) (l1 : List Int) (a2 : Int) : impl_GreaseLost.fv l0 l1 a2 = (impl_GreaseTag.fv a2).bind fun t579 => ((impl_isLost.fv l0 l1 t579).bind fun t580 => (some t580)) := by
  refine Is.lim (g := fun k => impl_GreaseLost.f k l0 l1 a2) ?_
  · unfold impl_GreaseLost.f
    repeat' first
    | with_reducible exact impl_GreaseTag.f_is _
    | with_reducible exact impl_isLost.f_is _ _ _
    | with_reducible exact Is.now _
    | with_reducible refine Is.ite ?_ ?_
    | with_reducible refine Is.bind ?_ (fun _ => ?_)
noncomputable def spec_FindSeed.l0v (x0 : List (S50)) (x1 : List Int) (x2 : Int) (x7 : Int) : Option (Int) := Lim fun k => spec_FindSeed.l0 k x0 x1 x2 x7
noncomputable def spec_FindSeed.j1v (x0 : List (S50)) (x1 : List Int) (x2 : Int) (x7 : Int) (x14 : Bool) : Option (Int) := Lim fun k => spec_FindSeed.j1 k x0 x1 x2 x7 x14
noncomputable def spec_FindSeed.fv (l0 : List (S50)) (l1 : List Int) (a2 : Int) : Option (Int) := Lim fun k => spec_FindSeed.f k l0 l1 a2
theorem spec_FindSeed.l0_is (x0 : List (S50)) (x1 : List Int) (x2 : Int) (x7 : Int) : Is (fun k => spec_FindSeed.l0 k x0 x1 x2 x7) (spec_FindSeed.l0v x0 x1 x2 x7) := ⟨fun k => (spec_FindSeed.mono_l k).1 x0 x1 x2 x7, rfl⟩
theorem spec_FindSeed.j1_is (x0 : List (S50)) (x1 : List Int) (x2 : Int) (x7 : Int) (x14 : Bool) : Is (fun k => spec_FindSeed.j1 k x0 x1 x2 x7 x14) (spec_FindSeed.j1v x0 x1 x2 x7 x14) := ⟨fun k => (spec_FindSeed.mono_l k).2 x0 x1 x2 x7 x14, rfl⟩
theorem spec_FindSeed.f_is (l0 : List (S50)) (l1 : List Int) (a2 : Int) : Is (fun k => spec_FindSeed.f k l0 l1 a2) (spec_FindSeed.fv l0 l1 a2) := ⟨fun k => spec_FindSeed.mono l0 l1 a2 k, rfl⟩
theorem spec_FindSeed.l0v_eq (x0 : List (S50)) (x1 : List Int) (x2 : Int) (x7 : Int) : spec_FindSeed.l0v x0 x1 x2 x7 = if x7 < x2 then (spec_FindSeed.j1v x0 x1 x2 x7 (decide (x2 ≤ 100))) else (spec_FindSeed.j1v x0 x1 x2 x7 false) := by
  refine Is.step (spec_FindSeed.l0_is x0 x1 x2 x7).mo (fun k => by rw [spec_FindSeed.l0]) ?_
  · skip
    repeat' first
    | with_reducible exact spec_FindSeed.j1_is _ _ _ _ _
    | with_reducible exact Is.now _
    | with_reducible refine Is.ite ?_ ?_
    | with_reducible refine Is.bind ?_ (fun _ => ?_)
theorem spec_FindSeed.j1v_eq (x0 : List (S50)) (x1 : List Int) (x2 : Int) (x7 : Int) (x14 : Bool) : spec_FindSeed.j1v x0 x1 x2 x7 x14 = if x14 = true then ((spec_GreaseLost.fv x0 x1 x7).bind fun t604 => (if t604 = true then (some x7) else (spec_FindSeed.l0v x0 x1 x2 (wrap64 (x7 + 1))))) else (some (-1)) := by
  refine Is.step (spec_FindSeed.j1_is x0 x1 x2 x7 x14).mo (fun k => by rw [spec_FindSeed.j1]) ?_
  · skip
    repeat' first
    | with_reducible exact spec_FindSeed.l0_is _ _ _ _
    | with_reducible exact spec_GreaseLost.f_is _ _ _
    | with_reducible exact Is.now _
    | with_reducible refine Is.ite ?_ ?_
    | with_reducible refine Is.bind ?_ (fun _ => ?_)
theorem spec_FindSeed.fv_eq (l0 : List (S50)) (l1 : List Int) (a2 : Int) : spec_FindSeed.fv l0 l1 a2 = spec_FindSeed.l0v l0 l1 a2 0 := by
  refine Is.lim (g := fun k => spec_FindSeed.f k l0 l1 a2) ?_
  · unfold spec_FindSeed.f
    repeat' first
    | with_reducible exact spec_FindSeed.l0_is _ _ _ _
    | with_reducible exact Is.now _
    | with_reducible refine Is.ite ?_ ?_
    | with_reducible refine Is.bind ?_ (fun _ => ?_)
noncomputable def impl_FindSeed.l0v (x0 : List (S50)) (x1 : List Int) (x2 : Int) (x7 : Int) : Option (Int) := Lim fun k => impl_FindSeed.l0 k x0 x1 x2 x7
noncomputable def impl_FindSeed.j1v (x0 : List (S50)) (x1 : List Int) (x2 : Int) (x7 : Int) (x14 : Bool) : Option (Int) := Lim fun k => impl_FindSeed.j1 k x0 x1 x2 x7 x14
noncomputable def impl_FindSeed.fv (l0 : List (S50)) (l1 : List Int) (a2 : Int) : Option (Int) := Lim fun k => impl_FindSeed.f k l0 l1 a2
theorem impl_FindSeed.l0_is (x0 : List (S50)) (x1 : List Int) (x2 : Int) (x7 : Int) : Is (fun k => impl_FindSeed.l0 k x0 x1 x2 x7) (impl_FindSeed.l0v x0 x1 x2 x7) := ⟨fun k => (impl_FindSeed.mono_l k).1 x0 x1 x2 x7, rfl⟩
theorem impl_FindSeed.j1_is (x0 : List (S50)) (x1 : List Int) (x2 : Int) (x7 : Int) (x14 : Bool) : Is (fun k => impl_FindSeed.j1 k x0 x1 x2 x7 x14) (impl_FindSeed.j1v x0 x1 x2 x7 x14) := ⟨fun k => (impl_FindSeed.mono_l k).2 x0 x1 x2 x7 x14, rfl⟩
theorem impl_FindSeed.f_is (l0 : List (S50)) (l1 : List Int) (a2 : Int) : Is (fun k => impl_FindSeed.f k l0 l1 a2) (impl_FindSeed.fv l0 l1 a2) := ⟨fun k => impl_FindSeed.mono l0 l1 a2 k, rfl⟩
theorem impl_FindSeed.l0v_eq (x0 : List (S50)) (x1 : List Int) (x2 : Int) (x7 : Int) : impl_FindSeed.l0v x0 x1 x2 x7 = if x7 < x2 then (impl_FindSeed.j1v x0 x1 x2 x7 (decide (x2 ≤ 100))) else (impl_FindSeed.j1v x0 x1 x2 x7 false) := by
  refine Is.step (impl_FindSeed.l0_is x0 x1 x2 x7).mo (fun k => by rw [impl_FindSeed.l0]) ?_
  · skip
    repeat' first
    | with_reducible exact impl_FindSeed.j1_is _ _ _ _ _
    | with_reducible exact Is.now _
    | with_reducible refine Is.ite ?_ ?_
    | with_reducible refine Is.bind ?_ (fun _ => ?_)
theorem impl_FindSeed.j1v_eq (x0 : List (S50)) (x1 : List Int) (x2 : Int) (x7 : Int) (x14 : Bool) : impl_FindSeed.j1v x0 x1 x2 x7 x14 = if x14 = true then ((impl_GreaseLost.fv x0 x1 x7).bind fun t605 => (if t605 = true then (some x7) else (impl_FindSeed.l0v x0 x1 x2 (wrap64 (x7 + 1))))) else (some (-1)) := by
  refine Is.step (impl_FindSeed.j1_is x0 x1 x2 x7 x14).mo (fun k => by rw [impl_FindSeed.j1]) ?_
  · skip
    repeat' first
    | with_reducible exact impl_FindSeed.l0_is _ _ _ _
    | with_reducible exact impl_GreaseLost.f_is _ _ _
    | with_reducible exact Is.now _
    | with_reducible refine Is.ite ?_ ?_
    | with_reducible refine Is.bind ?_ (fun _ => ?_)
theorem impl_FindSeed.fv_eq (l0 : List (S50)) (l1 : List Int) (a2 : Int) : impl_FindSeed.fv l0 l1 a2 = impl_FindSeed.l0v l0 l1 a2 0 := by
  refine Is.lim (g := fun k => impl_FindSeed.f k l0 l1 a2) ?_
  · unfold impl_FindSeed.f
    repeat' first
    | with_reducible exact impl_FindSeed.l0_is _ _ _ _
    | with_reducible exact Is.now _
    | with_reducible refine Is.ite ?_ ?_
    | with_reducible refine Is.bind ?_ (fun _ => ?_)
end Go.Proofs.Ytpoandlbmaljhaa.Print

/- HardnessOf, GreaseLost and FindSeed, of the program. Condition: at most 10 to the 12 of each. -/
set_option linter.unusedSimpArgs false
set_option linter.unusedVariables false
namespace Go.Proofs.Ytpoandlbmaljhaa.Plain
open Go.RowKit Go.Proofs.YtpoandlbmaljhaaW.PrintWords Go.Proofs.Ytpoandlbmaljhaa.Base Go.Proofs.Ytpoandlbmaljhaa.Print

theorem okX_one (t : Int) : okXs [one t] := fun x hx => by
  rw [List.mem_singleton.1 hx]
  simp [one]
section
variable (p : List S50) (v : List Int) (hp : p.length ≤ 1000000000000) (hs : ∀ x ∈ p, okB x) (hv : v.length ≤ 1000000000000)
include hp hs hv
theorem implIsLo_v (t : Int) : impl_isLost.fv p v t = some (isLo p v t) := by
  rw [impl_isLost.fv_eq, show (⟨t, []⟩ : S69) = one t from rfl, implLost_v p v _ hp hs hv (by simp) (okX_one t)]
  simp only [Option.bind_some, isLo, show (((lostT p v [one t]).length : Int) > 0) ↔ ((lostT p v [one t]).length > 0) from by omega]
theorem implHard_c0 (suf : List Int) : ∀ (pre : List Int) (c : Int), (pre ++ suf).length ≤ 1000000000000 → 0 ≤ c → c ≤ pre.length →
    impl_HardnessOf.l0v p v c (pre ++ suf) ((pre ++ suf).length : Int) (pre.length : Int) = some (c + hard p v suf) := by
  induction suf with
  | nil =>
    intro pre c _ _ _
    rw [impl_HardnessOf.l0v_eq, if_neg (nlt_end pre)]
    simp [hard]
  | cons t suf ih =>
    intro pre c hl h0 hc
    have hn : pre.length < (pre ++ t :: suf).length := by simp
    rw [impl_HardnessOf.l0v_eq, if_pos (lt_mid pre suf t), if_pos (by omega), if_pos (lt_mid pre suf t), rd_mid, implIsLo_v p v hp hs hv t, up_mid pre t hn hl, w64 (x := c + 1) (by omega) (by omega)]
    simp only [Option.bind_some, hard]
    rw [mid_snoc pre suf t] at hl ⊢
    cases isLo p v t with
    | true =>
      rw [if_pos rfl, if_pos rfl, ih (pre ++ [t]) (c + 1) hl (by omega) (by simp; omega), Int.add_assoc]
    | false =>
      rw [if_neg (by simp), if_neg (by simp), ih (pre ++ [t]) c hl h0 (by simp; omega), Int.zero_add]
theorem implHardness_v : impl_HardnessOf.fv p v = some (hard p v (greases 0 16)) := by
  have h := implHard_c0 p v hp hs hv (greases 0 16) [] 0 (by decide) (by omega) (by simp)
  simp only [List.nil_append, List.length_nil, Int.natCast_zero, Int.zero_add] at h
  rw [impl_HardnessOf.fv_eq, resTags_v]
  exact h
end
theorem implMod_ex (a m : Int) (h1 : 1 ≤ m) (h2 : m ≤ 1000000000000) : ∃ r, impl_Mod.f a m = some r ∧ 0 ≤ r ∧ r < m := by
  unfold impl_Mod.f
  rw [inRange_f, inR_true.mpr ⟨h1, h2⟩]
  simp only [Option.bind_some, if_true]
  rw [if_neg (by omega)]
  have a1 := Int.tmod_lt_of_pos a (show 0 < m by omega)
  have a2 : -m < Int.tmod a m := by
    have := Int.tmod_lt_of_pos (-a) (show 0 < m by omega)
    rw [Int.neg_tmod] at this
    omega
  rw [w64 (by omega) (by omega)]
  exact ⟨_, rfl, Int.tmod_nonneg _ (by omega), Int.tmod_lt_of_pos _ (by omega)⟩
theorem implHash_ex (suf : List Int) : ∀ (pre : List Int) (h : Int), (pre ++ suf).length ≤ 1000000000000 → ∃ r, impl_Hash.l0v h (pre ++ suf) ((pre ++ suf).length : Int) (pre.length : Int) = some r := by
  induction suf with
  | nil =>
    intro pre h _
    rw [impl_Hash.l0v_eq, if_neg (nlt_end pre)]
    exact ⟨_, rfl⟩
  | cons x suf ih =>
    intro pre h hl
    have hn : pre.length < (pre ++ x :: suf).length := by simp
    obtain ⟨r, e, _⟩ := implMod_ex x 2147483647 (by decide) (by decide)
    rw [impl_Hash.l0v_eq, if_pos (lt_mid pre suf x), if_pos (by omega), if_pos (lt_mid pre suf x), rd_mid, e, up_mid pre x hn hl]
    simp only [Option.bind_some]
    rw [mid_snoc pre suf x] at hl ⊢
    exact ih (pre ++ [x]) _ hl
theorem implTag_ex (s : Int) : ∃ t, impl_GreaseTag.fv s = some t ∧ t ∈ greases 0 16 := by
  obtain ⟨h, e⟩ := implHash_ex [s, 0] [] 11 (by simp)
  obtain ⟨r, e2, r0, r1⟩ := implMod_ex h 16 (by decide) (by decide)
  simp only [List.nil_append, List.length_nil, Int.natCast_zero] at e
  refine ⟨16 * r + 10, ?_, (greases_in 16 0).mpr ⟨r.toNat, by omega, by omega, by omega⟩⟩
  rw [impl_GreaseTag.fv_eq, impl_PickOf.fv_eq, if_neg (by decide), impl_Hash.fv_eq, e]
  simp only [Option.bind_some, e2]
  rw [w64 (x := 16 * r) (by omega) (by omega), w64 (by omega) (by omega)]
section
variable (p : List S50) (v : List Int) (hp : p.length ≤ 1000000000000) (hs : ∀ x ∈ p, okB x) (hv : v.length ≤ 1000000000000)
include hp hs hv
theorem implGL_ex (s : Int) : ∃ r, impl_GreaseLost.fv p v s = some r ∧ (r = true → hard p v (greases 0 16) > 0) := by
  obtain ⟨t, e, ht⟩ := implTag_ex s
  refine ⟨isLo p v t, ?_, fun h => (hard_in p v _).2.2.mpr (List.any_eq_true.mpr ⟨t, ht, h⟩)⟩
  rw [impl_GreaseLost.fv_eq, e]
  simp only [Option.bind_some, implIsLo_v p v hp hs hv]
/-- What FindSeed finds: nothing, or a seed with which a tag is lost. -/
theorem implSeed_l0 (n : Int) (hn : n ≤ 100) (m : Nat) : ∀ s : Int, 0 ≤ s → n - s ≤ m → ∃ r, impl_FindSeed.l0v p v n s = some r ∧ (r = -1 ∨ r < n ∧ impl_GreaseLost.fv p v r = some true) := by
  induction m with
  | zero =>
    intro s h0 h1
    rw [impl_FindSeed.l0v_eq, if_neg (by omega), impl_FindSeed.j1v_eq, if_neg (by simp)]
    exact ⟨-1, rfl, .inl rfl⟩
  | succ m ih =>
    intro s h0 h1
    by_cases hl : s < n
    · obtain ⟨r, e, _⟩ := implGL_ex p v hp hs hv s
      rw [impl_FindSeed.l0v_eq, if_pos hl, impl_FindSeed.j1v_eq, if_pos (by simp [hn]), e]
      simp only [Option.bind_some]
      cases r with
      | true => exact ⟨s, by rw [if_pos rfl], .inr ⟨hl, e⟩⟩
      | false =>
        rw [if_neg (by simp), w64 (by omega) (by omega)]
        exact ih (s + 1) (by omega) (by omega)
    · rw [impl_FindSeed.l0v_eq, if_neg hl, impl_FindSeed.j1v_eq, if_neg (by simp)]
      exact ⟨-1, rfl, .inl rfl⟩
theorem implSeed_ex (n : Int) : ∃ r, impl_FindSeed.fv p v n = some r ∧ (r = -1 ∨ r < n ∧ impl_GreaseLost.fv p v r = some true) := by
  rw [impl_FindSeed.fv_eq]
  by_cases hn : n ≤ 100
  · exact implSeed_l0 p v hp hs hv n hn n.toNat 0 (by omega) (by omega)
  · rw [impl_FindSeed.l0v_eq, impl_FindSeed.j1v_eq, impl_FindSeed.j1v_eq]
    simp only [hn, decide_false, Bool.false_eq_true, if_false, ite_self]
    exact ⟨-1, rfl, .inl rfl⟩
end
end Go.Proofs.Ytpoandlbmaljhaa.Plain

/- AreVersions, of the reference. Condition: at most 10 to the 12 numbers. -/
set_option linter.unusedSimpArgs false
set_option linter.unusedVariables false
namespace Go.Proofs.Ytpoandlbmaljhaa.Plain
open Go.RowKit Go.Proofs.YtpoandlbmaljhaaW.PrintWords Go.Proofs.Ytpoandlbmaljhaa.Base Go.Proofs.Ytpoandlbmaljhaa.Print

theorem specVers_l0 (suf : List Int) : ∀ pre : List Int, (pre ++ suf).length ≤ 1000000000000 →
    spec_AreVersions.l0v (pre ++ suf) (pre.length : Int) = some (vers (pre.getLastD 0) suf && decide (0 < (pre ++ suf).length)) := by
  induction suf with
  | nil =>
    intro pre hl
    rw [spec_AreVersions.l0v_eq, if_neg (nlt_end pre)]
    by_cases h : 0 < pre.length <;> simp [vers, h]
  | cons x suf ih =>
    intro pre hl
    have hn : pre.length < (pre ++ x :: suf).length := by simp
    rw [spec_AreVersions.l0v_eq, if_pos (lt_mid pre suf x), if_pos (by omega), rd_mid, l1In_f]
    simp only [Option.bind_some, vers]
    cases hx : inR 1 9 x with
    | false => simp
    | true =>
      rw [if_pos rfl, up_mid pre x hn hl]
      have h1 := ih (pre ++ [x]) (by simpa using hl)
      rw [← mid_snoc pre suf x] at h1
      rw [h1]
      have hr := inR_true.mp hx
      by_cases hp : pre = []
      · subst hp
        rw [if_neg (by simp)]
        have h0 : (0 : Int) < x := by omega
        simp [h0]
      · have hpl : 0 < pre.length := List.length_pos_iff.mpr hp
        rw [if_pos (by omega), w64 (x := (pre.length : Int) - 1) (by omega) (by omega), if_pos (by omega), if_pos (by omega), rd_lastD pre _ hp]
        by_cases hlt : pre.getLastD 0 < x
        · rw [if_neg (by omega)]
          generalize pre.getLastD 0 = q at hlt
          simp [hlt]
        · rw [if_pos (by omega)]
          generalize pre.getLastD 0 = q at hlt
          simp [hlt]
theorem specVers_v (l : List Int) (hl : l.length ≤ 1000000000000) : spec_AreVersions.fv l = some (areV l) := by
  rw [spec_AreVersions.fv_eq]
  simpa [areV] using specVers_l0 l [] (by simpa using hl)
end Go.Proofs.Ytpoandlbmaljhaa.Plain

/- Lists of bytes, of the reference. Condition: at most 10 to the 12 numbers. -/
set_option linter.unusedSimpArgs false
set_option linter.unusedVariables false
namespace Go.Proofs.Ytpoandlbmaljhaa.Plain
open Go.RowKit Go.Proofs.YtpoandlbmaljhaaW.PrintWords Go.Proofs.Ytpoandlbmaljhaa.Base Go.Proofs.Ytpoandlbmaljhaa.Print

theorem specByte_l0 (suf : List Int) : ∀ (pre : List Int), (pre ++ suf).length ≤ 1000000000000 → spec_l9Byte.l0v (pre ++ suf) (pre.length : Int) = some (suf.all (inR 0 255)) := by
  induction suf with
  | nil =>
    intro pre _
    rw [spec_l9Byte.l0v_eq, if_neg (nlt_end pre)]
    rfl
  | cons x suf ih =>
    intro pre hl
    have hn : pre.length < (pre ++ x :: suf).length := by simp
    rw [spec_l9Byte.l0v_eq, if_pos (lt_mid pre suf x), if_pos (by omega), rd_mid, l1In_f, up_mid pre x hn hl]
    simp only [Option.bind_some, List.all_cons]
    cases inR 0 255 x with
    | false => simp
    | true =>
      rw [if_pos rfl]
      rw [mid_snoc pre suf x] at hl ⊢
      rw [ih (pre ++ [x]) hl, Bool.true_and]
theorem specByte_v (l : List Int) (hl : l.length ≤ 1000000000000) : spec_l9Byte.fv l = some (l.all (inR 0 255)) := by
  rw [spec_l9Byte.fv_eq]
  simpa using specByte_l0 l [] (by simpa using hl)
end Go.Proofs.Ytpoandlbmaljhaa.Plain

/- ExtOf, AreExts and IsHello, of the reference. Condition: at most 10 to the 12 of each. -/
set_option linter.unusedSimpArgs false
set_option linter.unusedVariables false
namespace Go.Proofs.Ytpoandlbmaljhaa.Plain
open Go.RowKit Go.Proofs.YtpoandlbmaljhaaW.PrintWords Go.Proofs.Ytpoandlbmaljhaa.Base Go.Proofs.Ytpoandlbmaljhaa.Print

/-- The first extension with a tag is behind these, or among them. -/
theorem specExtOf_l0 (t : Int) (n : Nat) (suf : List S69) : ∀ (pre : List S69), (pre ++ suf).length ≤ 1000000000000 → (∃ x, suf[n]? = some x ∧ x.f0 = t) →
    ∃ r, spec_ExtOf.l0v (pre ++ suf) t (pre.length : Int) = some r ∧ decide (r < ((pre.length + n : Nat) : Int)) = hasT (suf.take n) t := by
  induction n generalizing suf with
  | zero =>
    intro pre hl hx
    obtain ⟨x, hx, ht⟩ := hx
    cases suf with
    | nil => simp at hx
    | cons y suf =>
      obtain rfl : y = x := by simpa using hx
      rw [spec_ExtOf.l0v_eq, if_pos (lt_mid pre suf y), if_pos (by omega), rdExt_mid, if_pos ht]
      exact ⟨_, rfl, by simp [hasT]⟩
  | succ n ih =>
    intro pre hl hx
    cases suf with
    | nil =>
      obtain ⟨x, hx, _⟩ := hx
      simp at hx
    | cons y suf =>
      have hn : pre.length < (pre ++ y :: suf).length := by simp
      rw [spec_ExtOf.l0v_eq, if_pos (lt_mid pre suf y), if_pos (by omega), rdExt_mid]
      by_cases hy : y.f0 = t
      · rw [if_pos hy]
        refine ⟨_, rfl, ?_⟩
        simp only [List.take_succ_cons, hasT, List.any_cons, hy, decide_true, Bool.true_or, decide_eq_true_eq]
        omega
      · rw [if_neg hy, up_mid pre y hn hl]
        rw [mid_snoc pre suf y] at hl ⊢
        obtain ⟨r, h1, h2⟩ := ih suf (pre ++ [y]) hl (by simpa using hx)
        refine ⟨r, h1, ?_⟩
        simp only [List.length_append, List.length_cons, List.length_nil] at h2
        rw [show pre.length + (n + 1) = pre.length + (0 + 1) + n by omega, h2]
        simp [hasT, hy]
theorem specExtOf_ex (pre suf : List S69) (x : S69) (hl : (pre ++ x :: suf).length ≤ 1000000000000) : ∃ r, spec_ExtOf.fv (pre ++ x :: suf) x.f0 = some r ∧ decide (r < (pre.length : Int)) = hasT pre x.f0 := by
  obtain ⟨r, h1, h2⟩ := specExtOf_l0 x.f0 pre.length (pre ++ x :: suf) [] (by simpa using hl) ⟨x, by simp, rfl⟩
  refine ⟨r, ?_, ?_⟩
  · rw [spec_ExtOf.fv_eq]
    simpa using h1
  · simpa using h2
theorem specExts_l0 (suf : List S69) : ∀ (pre : List S69), (pre ++ suf).length ≤ 1000000000000 → okXs suf →
    spec_AreExts.l0v (pre ++ suf) (pre.length : Int) = some (areX pre suf && decide ((pre ++ suf).length ≤ 6)) := by
  induction suf with
  | nil =>
    intro pre _ _
    rw [spec_AreExts.l0v_eq, if_neg (nlt_end pre)]
    simp only [areX, Bool.true_and, show (((pre ++ []).length : Int) ≤ 6) ↔ ((pre ++ []).length ≤ 6) from by omega]
  | cons x suf ih =>
    intro pre hl hs
    have hn : pre.length < (pre ++ x :: suf).length := by simp
    obtain ⟨r, e1, e2⟩ := specExtOf_ex pre suf x hl
    have h1 := ih (pre ++ [x]) (by simpa using hl) (fun y hy => hs y (List.mem_cons_of_mem _ hy))
    rw [← mid_snoc pre suf x] at h1
    rw [spec_AreExts.l0v_eq, if_pos (lt_mid pre suf x), if_pos (by omega), rdExt_mid, l1In_f, e1, specByte_v _ (hs x List.mem_cons_self), up_mid pre x hn hl, h1]
    simp only [Option.bind_some, areX]
    rw [← e2]
    generalize areX (pre ++ [x]) suf = z
    generalize decide ((pre ++ x :: suf).length ≤ 6) = q
    generalize x.f1.all (inR 0 255) = y
    cases inR 0 255 x.f0 with
    | false => simp
    | true =>
      rw [if_pos rfl]
      by_cases h3 : x.f1.length ≤ 4
      · rw [if_neg (by omega)]
        by_cases h2 : r < (pre.length : Int) <;> cases y <;> simp [h2, h3]
      · rw [if_pos (by omega)]
        simp [h3]
theorem specExts_v (l : List S69) (hl : l.length ≤ 1000000000000) (hs : okXs l) : spec_AreExts.fv l = some (isX l) := by
  rw [spec_AreExts.fv_eq]
  simpa [isX] using specExts_l0 l [] (by simpa using hl) hs
theorem specHello_v (v : List Int) (l : List S69) (hv : v.length ≤ 1000000000000) (hl : l.length ≤ 1000000000000) (hs : okXs l) : spec_IsHello.fv v l = some (isH v l) := by
  rw [spec_IsHello.fv_eq, specVers_v v hv, specExts_v l hl hs]
  simp only [Option.bind_some, isH]
  cases areV v <;> simp
end Go.Proofs.Ytpoandlbmaljhaa.Plain

/- IsBox, of the reference. Condition: at most 10 to the 12 of each. -/
set_option linter.unusedSimpArgs false
set_option linter.unusedVariables false
namespace Go.Proofs.Ytpoandlbmaljhaa.Plain
open Go.RowKit Go.Proofs.YtpoandlbmaljhaaW.PrintWords Go.Proofs.Ytpoandlbmaljhaa.Base Go.Proofs.Ytpoandlbmaljhaa.Print

theorem specIsB_v (b : S50) (h : okB b) : spec_IsBox.fv b.f0 b.f1 b.f2 b.f3 = some (isB b) := by
  rw [spec_IsBox.fv_eq, l1In_f, specByte_v _ h.1, specByte_v _ h.2]
  simp only [Option.bind_some, isB]
  simp only [show ((b.f1.length : Int) ≤ 6) ↔ (b.f1.length ≤ 6) from by omega, show ((b.f2.length : Int) ≤ 6) ↔ (b.f2.length ≤ 6) from by omega]
  generalize inR 0 9 b.f0 = x
  generalize b.f1.all (inR 0 255) = y
  generalize b.f2.all (inR 0 255) = z
  by_cases h1 : b.f1.length ≤ 6 <;> by_cases h2 : b.f2.length ≤ 6 <;> cases x <;> cases y <;> cases z <;> simp [h1, h2]
end Go.Proofs.Ytpoandlbmaljhaa.Plain

/- Membership, of the reference. Condition: at most 10 to the 12 numbers. -/
set_option linter.unusedSimpArgs false
set_option linter.unusedVariables false
namespace Go.Proofs.Ytpoandlbmaljhaa.Plain
open Go.RowKit Go.Proofs.YtpoandlbmaljhaaW.PrintWords Go.Proofs.Ytpoandlbmaljhaa.Base Go.Proofs.Ytpoandlbmaljhaa.Print

theorem l9Has_l0 (x : Int) (suf : List Int) : ∀ (pre : List Int), (pre ++ suf).length ≤ 1000000000000 →
    spec_l9Has.l0v (pre ++ suf) x (pre.length : Int) = some (mem suf x) := by
  induction suf with
  | nil =>
    intro pre _
    rw [spec_l9Has.l0v_eq, if_neg (nlt_end pre)]
    simp [mem]
  | cons y suf ih =>
    intro pre hl
    have hn : pre.length < (pre ++ y :: suf).length := by simp
    rw [spec_l9Has.l0v_eq, if_pos (lt_mid pre suf y), if_pos (by omega), rd_mid, mem_cons]
    by_cases hxy : y = x
    · rw [if_pos hxy]
      simp [hxy]
    · rw [if_neg hxy, up_mid pre y hn hl]
      rw [mid_snoc pre suf y] at hl ⊢
      rw [ih (pre ++ [y]) hl]
      simp [hxy]
theorem l9Has_v (l : List Int) (x : Int) (hl : l.length ≤ 1000000000000) : spec_l9Has.fv l x = some (mem l x) := by
  rw [spec_l9Has.fv_eq]
  simpa using l9Has_l0 x l [] (by simpa using hl)
end Go.Proofs.Ytpoandlbmaljhaa.Plain

/- PassBox, of the reference. Condition: at most 10 to the 12 of each. -/
set_option linter.unusedSimpArgs false
set_option linter.unusedVariables false
namespace Go.Proofs.Ytpoandlbmaljhaa.Plain
open Go.RowKit Go.Proofs.YtpoandlbmaljhaaW.PrintWords Go.Proofs.Ytpoandlbmaljhaa.Base Go.Proofs.Ytpoandlbmaljhaa.Print

theorem specPass_l0 (b : S50) (v v' : List Int) (h : okB b) (suf : List S69) : ∀ (pre out : List S69), (pre ++ suf).length ≤ 1000000000000 → out.length ≤ pre.length → okXs suf →
    spec_PassBox.l0v (pre.length : Int) b.f0 b.f1 b.f2 b.f3 v (pre ++ suf) v' out = some (if suf.any (fun x => drops b x.f0) then ([], [], false) else (v', out ++ kept b suf, true)) := by
  induction suf with
  | nil =>
    intro pre out _ _ _
    rw [spec_PassBox.l0v_eq, if_neg (nlt_end pre)]
    simp [kept]
  | cons x suf ih =>
    intro pre out hl ho hs
    have hn : pre.length < (pre ++ x :: suf).length := by simp
    have hp : pre.length < 1000000000000 := by omega
    have hx := hs x List.mem_cons_self
    have hs' : okXs suf := fun y hy => hs y (List.mem_cons_of_mem _ hy)
    have hlt := lt_mid pre suf x
    rw [spec_PassBox.l0v_eq, if_pos hlt, if_pos (by omega), rdExt_mid, l9Has_v _ _ h.1, l9Has_v _ _ h.2, l1In_f]
    simp only [spec_PassBox.j2v_eq, Option.bind_some, List.nil_append, List.length_nil, Nat.zero_add, rdExt_mid]
    rw [up_mid pre x hn hl]
    have e1 := ih (pre ++ [x]) out (by simpa using hl) (by simp; omega) hs'
    have e2 := ih (pre ++ [x]) (out ++ [x]) (by simpa using hl) (by simp; omega) hs'
    rw [← mid_snoc pre suf x] at e1 e2
    have e3 : (0 : Int) ≤ (pre.length : Int) := by omega
    have e4 : x.f1.length < 17592186044416 := by omega
    have e5 : out.length < 4398046511104 := by omega
    simp only [e1, hlt, e3, e4, e5, if_true, show (⟨x.f0, x.f1⟩ : S69) = x from rfl, e2, List.any_cons]
    unfold kept
    simp only [List.filter_cons, drops]
    generalize mem b.f1 x.f0 = p
    cases mem b.f2 x.f0 <;> cases inR 1 3 x.f0 <;> rcases Bool.eq_false_or_eq_true b.f3 with h3 | h3 <;> cases p <;> simp [h3]
theorem specPass_v (b : S50) (v : List Int) (l : List S69) (h : okB b) (hv : v.length ≤ 1000000000000) (hl : l.length ≤ 1000000000000) (hs : okXs l) : spec_PassBox.fv b.f0 b.f1 b.f2 b.f3 v l = some (pass b v l) := by
  have h1 := specPass_l0 b v v h l [] [] (by simpa using hl) (by simp) hs
  simp only [List.nil_append, List.length_nil, Int.natCast_zero] at h1
  rw [spec_PassBox.fv_eq, specIsB_v b h, specHello_v v l hv hl hs]
  simp only [Option.bind_some, spec_PassBox.j0v_eq, List.nil_append, List.length_nil, Nat.zero_add, show v.length < 17592186044416 by omega, if_true, h1, pass, lose]
  cases hb : isB b with
  | false => simp
  | true =>
    cases hh : isH v l with
    | false => simp
    | true =>
      have ha : areV v = true := by
        simp only [isH, Bool.and_eq_true] at hh
        exact hh.1
      have hb0 : 0 ≤ b.f0 := by
        simp only [isB, Bool.and_eq_true, inR_true] at hb
        exact hb.1.1
      have hne : v ≠ [] := by
        intro e
        rw [e] at ha
        simp [areV] at ha
      have hp := List.length_pos_iff.mpr hne
      have hd := rd_lastD v [] hne
      rw [List.append_nil] at hd
      rw [w64 (by omega) (by omega), hd, if_pos rfl, if_pos rfl]
      by_cases h0 : b.f0 = 0
      · rw [if_neg (by omega)]
        have d0 : decide (b.f0 = 0) = true := decide_eq_true h0
        rcases Bool.eq_false_or_eq_true (l.any fun x => drops b x.f0) with hq | hq
        · simp only [hq, d0]
          simp
        · simp only [hq, d0]
          simp
      · rw [if_pos (by omega), if_pos (by omega), if_pos (by omega)]
        have d0 : decide (b.f0 = 0) = false := decide_eq_false h0
        rcases Bool.eq_false_or_eq_true (l.any fun x => drops b x.f0) with hq | hq
        · rcases Bool.eq_false_or_eq_true (decide (v.getLastD 0 > b.f0)) with hm | hm
          · simp only [hq, hm, d0]
            simp
          · simp only [hq, hm, d0]
            simp
        · rcases Bool.eq_false_or_eq_true (decide (v.getLastD 0 > b.f0)) with hm | hm
          · simp only [hq, hm, d0]
            simp
          · simp only [hq, hm, d0]
            simp
end Go.Proofs.Ytpoandlbmaljhaa.Plain

/- PassPath, IsOpenPath and LostTags, of the reference. Condition: at most 10 to the 12 of each. -/
set_option linter.unusedSimpArgs false
set_option linter.unusedVariables false
namespace Go.Proofs.Ytpoandlbmaljhaa.Plain
open Go.RowKit Go.Proofs.YtpoandlbmaljhaaW.PrintWords Go.Proofs.Ytpoandlbmaljhaa.Base Go.Proofs.Ytpoandlbmaljhaa.Print

theorem specTags_l0 (suf : List S69) : ∀ (pre : List S69) (out : List Int), (pre ++ suf).length ≤ 1000000000000 → out.length ≤ pre.length →
    spec_TagsOf.l0v (pre ++ suf) out (pre.length : Int) = some (out ++ suf.map (·.f0)) := by
  induction suf with
  | nil =>
    intro pre out _ _
    rw [spec_TagsOf.l0v_eq, if_neg (nlt_end pre)]
    simp
  | cons x suf ih =>
    intro pre out hl ho
    have hn : pre.length < (pre ++ x :: suf).length := by simp
    have hp : pre.length < 1000000000000 := by omega
    rw [spec_TagsOf.l0v_eq, if_pos (lt_mid pre suf x), if_pos (by omega), rdExt_mid, if_pos (by omega), up_mid pre x hn hl]
    rw [mid_snoc pre suf x] at hl ⊢
    rw [ih (pre ++ [x]) _ hl (by simp; omega)]
    simp
theorem specTags_v (l : List S69) (hl : l.length ≤ 1000000000000) : spec_TagsOf.fv l = some (l.map (·.f0)) := by
  rw [spec_TagsOf.fv_eq]
  simpa using specTags_l0 l [] [] (by simpa using hl) (by simp)
theorem specKnown_l0 (t : List Int) (ht : t.length ≤ 1000000000000) (suf : List S69) : ∀ (pre out : List S69), (pre ++ suf).length ≤ 1000000000000 → out.length ≤ pre.length → okXs suf →
    spec_KnownOf.l0v (pre ++ suf) t out (pre.length : Int) = some (out ++ suf.filter (fun x => mem t x.f0)) := by
  induction suf with
  | nil =>
    intro pre out _ _ _
    rw [spec_KnownOf.l0v_eq, if_neg (nlt_end pre)]
    simp
  | cons x suf ih =>
    intro pre out hl ho hs
    have hn : pre.length < (pre ++ x :: suf).length := by simp
    have hp : pre.length < 1000000000000 := by omega
    have hx := hs x List.mem_cons_self
    have hs' : okXs suf := fun y hy => hs y (List.mem_cons_of_mem _ hy)
    have hlt := lt_mid pre suf x
    rw [spec_KnownOf.l0v_eq, if_pos hlt, if_pos (by omega), rdExt_mid, l9Has_v t _ ht, up_mid pre x hn hl]
    simp only [Option.bind_some, List.nil_append, List.length_nil, Nat.zero_add, rdExt_mid]
    rw [mid_snoc pre suf x] at hl ⊢
    cases hm : mem t x.f0 with
    | true =>
      rw [if_pos rfl, if_pos (by omega), if_pos (by omega), ih (pre ++ [x]) _ hl (by simp; omega) hs']
      simp [hm]
    | false =>
      rw [if_neg (by simp), ih (pre ++ [x]) out hl (by simp; omega) hs']
      simp [hm]
theorem specKnown_v (l : List S69) (t : List Int) (ht : t.length ≤ 1000000000000) (hl : l.length ≤ 1000000000000) (hs : okXs l) : spec_KnownOf.fv l t = some (l.filter (fun x => mem t x.f0)) := by
  rw [spec_KnownOf.fv_eq]
  simpa using specKnown_l0 t ht l [] [] (by simpa using hl) (by simp) hs
theorem known_all (l : List S69) : l.filter (fun x => mem (l.map (·.f0)) x.f0) = l := by
  rw [List.filter_eq_self]
  intro x hx
  simp only [mem, decide_eq_true_eq]
  exact List.mem_map.mpr ⟨x, hx, rfl⟩
theorem specCopyH_v (v : List Int) (l : List S69) (hv : v.length ≤ 1000000000000) (hl : l.length ≤ 1000000000000) (hs : okXs l) : spec_l18Hello.fv v l = some (v, l) := by
  rw [spec_l18Hello.fv_eq, spec_l11Copy.fv_eq, specTags_v l hl]
  simp only [Option.bind_some, List.nil_append, List.length_nil, Nat.zero_add, show v.length < 17592186044416 by omega, if_true]
  rw [specKnown_v l _ (by rw [List.length_map]; exact hl) hl hs, known_all]
  simp
theorem goP_off' (p : List S50) (v : List Int) (l : List S69) : goP p false v l = (v, l, false) := by
  cases p <;> simp [goP]
theorem pass_fail {b : S50} {v : List Int} {l : List S69} (h : (pass b v l).2.2 = false) : pass b v l = ([], [], false) := by
  unfold pass at h ⊢
  split
  · rename_i hc
    rw [if_pos hc] at h
    cases h
  · rfl
theorem specGoP_l0 (suf : List S50) : ∀ (pre : List S50) (v : List Int) (l : List S69), (pre ++ suf).length ≤ 1000000000000 → (∀ x ∈ suf, okB x) → v.length ≤ 1000000000000 → l.length ≤ 1000000000000 → okXs l →
    spec_PassPath.l0v (pre ++ suf) (pre.length : Int) v l = some (goP suf true v l) := by
  induction suf with
  | nil =>
    intro pre v l _ _ _ _ _
    rw [spec_PassPath.l0v_eq, if_neg (nlt_end pre)]
    rfl
  | cons b suf ih =>
    intro pre v l hp hs hv hl hx
    have hn : pre.length < (pre ++ b :: suf).length := by simp
    obtain ⟨a1, a2, a3⟩ := pass_ok b v l hx
    rw [spec_PassPath.l0v_eq, if_pos (lt_mid pre suf b), if_pos (by omega), rdBox_mid, specPass_v b v l (hs b List.mem_cons_self) hv hl hx, up_mid pre b hn hp]
    simp only [Option.bind_some, goP, if_true]
    rw [mid_snoc pre suf b] at hp ⊢
    cases ho : (pass b v l).2.2 with
    | true =>
      rw [if_pos rfl]
      exact ih (pre ++ [b]) _ _ hp (fun y hy => hs y (List.mem_cons_of_mem _ hy)) (by omega) (by omega) a3
    | false =>
      rw [if_neg (by simp), goP_off', pass_fail ho]
theorem specPassP_v (p : List S50) (v : List Int) (l : List S69) (hp : p.length ≤ 1000000000000) (hs : ∀ x ∈ p, okB x) (hv : v.length ≤ 1000000000000) (hl : l.length ≤ 1000000000000) (hx : okXs l) : spec_PassPath.fv p v l = some (passP p v l) := by
  have h := specGoP_l0 p [] v l (by simpa using hp) hs hv hl hx
  simp only [List.nil_append, List.length_nil, Int.natCast_zero] at h
  rw [spec_PassPath.fv_eq, specHello_v v l hv hl hx]
  simp only [Option.bind_some, spec_PassPath.j0v_eq, specCopyH_v v l hv hl hx, h, passP]
  by_cases h4 : p.length ≤ 4
  · rw [if_neg (by omega)]
    cases isH v l <;> simp [h4]
  · rw [if_pos (by omega)]
    simp [h4]
theorem specPlain_f (v : List Int) (hv : v.length ≤ 1000000000000) : spec_PlainHello.f v = some (v, []) := by
  unfold spec_PlainHello.f
  simp only [Option.bind_some, List.nil_append, List.length_nil, Nat.zero_add]
  rw [if_pos (by omega)]
theorem specOpen_v (p : List S50) (v : List Int) (hp : p.length ≤ 1000000000000) (hs : ∀ x ∈ p, okB x) (hv : v.length ≤ 1000000000000) : spec_IsOpenPath.fv p v = some (openP p v) := by
  have ht : (v.take 1).length ≤ 1000000000000 := by
    rw [List.length_take]
    omega
  rw [spec_IsOpenPath.fv_eq, specVers_v v hv]
  simp only [Option.bind_some, openP]
  cases ha : areV v with
  | false => simp
  | true =>
    have h1 : 0 < v.length := by
      simp only [areV, Bool.and_eq_true, decide_eq_true_eq] at ha
      exact ha.2
    rw [if_pos rfl, if_pos (by omega), specPlain_f _ ht]
    simp only [Option.bind_some]
    rw [specPassP_v p _ [] hp hs ht (by simp) (fun x hx => by cases hx)]
    simp
end Go.Proofs.Ytpoandlbmaljhaa.Plain

/- EqualInts, of the reference, and slices.Equal. Condition: at most 10 to the 12 numbers. -/
set_option linter.unusedSimpArgs false
set_option linter.unusedVariables false
namespace Go.Proofs.Ytpoandlbmaljhaa.Plain
open Go.RowKit Go.Proofs.YtpoandlbmaljhaaW.PrintWords Go.Proofs.Ytpoandlbmaljhaa.Base Go.Proofs.Ytpoandlbmaljhaa.Print

theorem specEqualInts_l0 (sa : List Int) : ∀ (pre sb : List Int), sb.length = sa.length → (pre ++ sa).length ≤ 1000000000000 → spec_EqualInts.l0v (pre ++ sa) (pre ++ sb) (pre.length : Int) = some (decide (sa = sb)) := by
  induction sa with
  | nil =>
    intro pre sb hr _
    rw [spec_EqualInts.l0v_eq, if_neg (nlt_end pre)]
    simp at hr
    simp [hr]
  | cons x sa ih =>
    intro pre sb hr hl
    cases sb with
    | nil => simp at hr
    | cons y sb =>
      have hn : pre.length < (pre ++ x :: sa).length := by simp
      rw [spec_EqualInts.l0v_eq, if_pos (lt_mid pre sa x), if_pos (by omega), if_pos (lt_mid pre sb y), rd_mid, rd_mid, up_mid pre x hn hl]
      by_cases hxy : x = y
      · subst hxy
        rw [if_pos rfl]
        rw [mid_snoc pre sa x] at hl ⊢
        rw [mid_snoc pre sb x]
        rw [ih (pre ++ [x]) sb (by simpa using hr) hl]
        simp
      · rw [if_neg hxy]
        simp [hxy]
theorem specEqualInts_v (a b : List Int) (hl : a.length ≤ 1000000000000) : spec_EqualInts.fv a b = some (decide (a = b)) := by
  rw [spec_EqualInts.fv_eq]
  by_cases h : a.length = b.length
  · rw [if_pos (by omega)]
    have h1 := specEqualInts_l0 a [] b h.symm (by simpa using hl)
    simpa using h1
  · rw [if_neg (by omega)]
    have : a ≠ b := fun e => h (by rw [e])
    simp [this]
end Go.Proofs.Ytpoandlbmaljhaa.Plain

/- EqualExts and LostTags, of the reference. Condition: at most 10 to the 12 of each. -/
set_option linter.unusedSimpArgs false
set_option linter.unusedVariables false
namespace Go.Proofs.Ytpoandlbmaljhaa.Plain
open Go.RowKit Go.Proofs.YtpoandlbmaljhaaW.PrintWords Go.Proofs.Ytpoandlbmaljhaa.Base Go.Proofs.Ytpoandlbmaljhaa.Print

theorem specEqXs_l0 (sa : List S69) : ∀ (pre q sb : List S69), q.length = pre.length → sb.length = sa.length → (pre ++ sa).length ≤ 1000000000000 → okXs sa →
    spec_EqualExts.l0v (pre ++ sa) (q ++ sb) (pre.length : Int) = some (eqXs sa sb) := by
  induction sa with
  | nil =>
    intro pre q sb _ hr _ _
    rw [spec_EqualExts.l0v_eq, if_neg (nlt_end pre)]
    simp at hr
    simp [hr, eqXs]
  | cons x sa ih =>
    intro pre q sb hq hr hl hs
    cases sb with
    | nil => simp at hr
    | cons y sb =>
      have hn : pre.length < (pre ++ x :: sa).length := by simp
      rw [spec_EqualExts.l0v_eq, if_pos (lt_mid pre sa x), if_pos (by omega), rdExt_mid, up_mid pre x hn hl, ← hq, if_pos (lt_mid q sb y), rdExt_mid, specEqualInts_v x.f1 y.f1 (hs x List.mem_cons_self)]
      simp only [Option.bind_some, eqXs, eqX]
      by_cases h1 : x.f0 = y.f0
      · rw [if_pos h1]
        by_cases h2 : x.f1 = y.f1
        · rw [if_pos (by simp [h2]), mid_snoc q sb y]
          rw [mid_snoc pre sa x] at hl ⊢
          rw [ih (pre ++ [x]) (q ++ [y]) sb (by simp [hq]) (by simpa using hr) hl (fun y hy => hs y (List.mem_cons_of_mem _ hy))]
          simp [h1, h2]
        · rw [if_neg (by simp [h2])]
          simp [h2]
      · rw [if_neg h1]
        simp [h1]
theorem specEqXs_v (l m : List S69) (hl : l.length ≤ 1000000000000) (hs : okXs l) : spec_EqualExts.fv l m = some (eqXs l m) := by
  rw [spec_EqualExts.fv_eq]
  by_cases h : l.length = m.length
  · rw [if_pos (by omega)]
    simpa using specEqXs_l0 l [] [] m rfl h.symm (by simpa using hl) hs
  · rw [if_neg (by omega), eqXs_len h]
/-- What passes keeps its versions. -/
theorem goP_vers (p : List S50) : ∀ (o : Bool) (v : List Int) (l : List S69), (goP p o v l).2.2 = true → (goP p o v l).1 = v := by
  induction p with
  | nil =>
    intro o v l _
    rfl
  | cons b p ih =>
    intro o v l h
    unfold goP at h ⊢
    cases o with
    | false => rfl
    | true =>
      simp only [if_true] at h ⊢
      cases hp : (pass b v l).2.2 with
      | false =>
        rw [hp, goP_off'] at h
        cases h
      | true =>
        have hv : (pass b v l).1 = v := by
          unfold pass at hp ⊢
          split
          · rfl
          · rename_i hc
            rw [if_neg hc] at hp
            cases hp
        first | rw [ih _ _ _ h, hv] | (rw [hp] at h; rw [ih _ _ _ h, hv])
theorem whole_eq (v : List Int) (l : List S69) (p : List S50) : whole v l p = ((passP p v l).2.2 && eqXs (passP p v l).2.1 l) := by
  unfold whole
  cases h : (passP p v l).2.2 with
  | false => rfl
  | true =>
    have hv : (passP p v l).1 = v := by
      unfold passP at h ⊢
      split
      · rename_i hc
        rw [if_pos hc] at h
        exact goP_vers p true v l h
      · rename_i hc
        rw [if_neg hc] at h
        cases h
    simp [hv]
theorem take_one (pre suf : List S69) (x : S69) : ((pre ++ x :: suf).take ((pre ++ [x]).length)).drop pre.length = [x] := by
  rw [mid_snoc pre suf x, List.take_append_of_le_length (Nat.le_refl _), List.take_length]
  simp
theorem specLost_l0 (p : List S50) (v : List Int) (hp : p.length ≤ 1000000000000) (hs : ∀ x ∈ p, okB x) (hv : v.length ≤ 1000000000000) (h1 : 0 < v.length) (suf : List S69) : ∀ (pre : List S69) (out : List Int), (pre ++ suf).length ≤ 1000000000000 → out.length ≤ pre.length → okXs suf →
    spec_LostTags.l0v p v (pre ++ suf) out (pre.length : Int) = some (out ++ (suf.filter (fun x => !whole (v.take 1) [x] p)).map (·.f0)) := by
  induction suf with
  | nil =>
    intro pre out _ _ _
    rw [spec_LostTags.l0v_eq, if_neg (nlt_end pre)]
    simp
  | cons x suf ih =>
    intro pre out hl ho hx
    have hn : pre.length < (pre ++ x :: suf).length := by simp
    have hq : pre.length < 1000000000000 := by omega
    have hx' : okXs suf := fun y hy => hx y (List.mem_cons_of_mem _ hy)
    have ho1 : okXs [x] := fun y hy => by
      rw [List.mem_singleton.1 hy]
      exact hx x List.mem_cons_self
    have ht : (v.take 1).length ≤ 1000000000000 := by
      rw [List.length_take]
      omega
    have e1 : ((pre ++ [x]).length : Int) = (pre.length : Int) + 1 := by simp
    have e2 : (pre ++ [x]).length ≤ (pre ++ x :: suf).length := by simp
    obtain ⟨a1, a2, a3⟩ := passP_ok p (v.take 1) [x] ho1
    have hw := whole_eq (v.take 1) [x] p
    rw [spec_LostTags.l0v_eq, if_pos (lt_mid pre suf x), if_pos (by omega), specPlain_f _ ht, Option.bind_some, up_mid pre x hn hl, if_pos (by omega), if_pos (by omega), if_pos (by omega), Int.toNat_natCast, Int.toNat_natCast, take_one, Option.bind_some, specPassP_v p _ [x] hp hs ht (by simp) ho1, Option.bind_some, rdExt_mid]
    rw [mid_snoc pre suf x] at hl ⊢
    cases h2 : (passP p (v.take 1) [x]).2.2 with
    | false =>
      rw [h2, Bool.false_and] at hw
      rw [if_neg (by simp), if_pos (by omega), ih (pre ++ [x]) _ hl (by simp; omega) hx']
      simp [hw]
    | true =>
      rw [h2, Bool.true_and] at hw
      rw [if_pos rfl, specEqXs_v _ [x] (by simp at a2; omega) a3, Option.bind_some, ← hw]
      cases h3 : whole (v.take 1) [x] p with
      | true =>
        rw [if_pos rfl, ih (pre ++ [x]) out hl (by simp; omega) hx']
        simp [h3]
      | false =>
        rw [if_neg (by simp), if_pos (by omega), ih (pre ++ [x]) _ hl (by simp; omega) hx']
        simp [h3]
theorem specLost_v (p : List S50) (v : List Int) (l : List S69) (hp : p.length ≤ 1000000000000) (hs : ∀ x ∈ p, okB x) (hv : v.length ≤ 1000000000000) (hl : l.length ≤ 1000000000000) (hx : okXs l) : spec_LostTags.fv p v l = some (lostT p v l) := by
  rw [spec_LostTags.fv_eq, Option.bind_some, specExts_v l hl hx, Option.bind_some, specOpen_v p v hp hs hv, Option.bind_some, spec_LostTags.j0v_eq, spec_LostTags.j0v_eq, lostT]
  cases ho : openP p v with
  | false => simp
  | true =>
    have h1 : 0 < v.length := by
      simp only [openP, areV, Bool.and_eq_true, decide_eq_true_eq] at ho
      exact ho.1.2
    have h := specLost_l0 p v hp hs hv h1 l [] [] (by simpa using hl) (by simp) hx
    simp only [List.nil_append, List.length_nil, Int.natCast_zero] at h
    cases isX l with
    | false => simp
    | true => simp [h]
end Go.Proofs.Ytpoandlbmaljhaa.Plain

/- HardnessOf, GreaseLost and FindSeed, of the reference; the tag of a seed is the program's. Condition: at most 10 to the 12 of each. -/
set_option linter.unusedSimpArgs false
set_option linter.unusedVariables false
namespace Go.Proofs.Ytpoandlbmaljhaa.Plain
open Go.RowKit Go.Proofs.YtpoandlbmaljhaaW.PrintWords Go.Proofs.Ytpoandlbmaljhaa.Base Go.Proofs.Ytpoandlbmaljhaa.Print

theorem mod_eq (a m : Int) : impl_Mod.f a m = spec_Mod.f a m := by
  unfold impl_Mod.f spec_Mod.f
  rw [inRange_f, l1In_f]
theorem hash_l0 (suf : List Int) : ∀ (pre : List Int) (h : Int), (pre ++ suf).length ≤ 1000000000000 → spec_Hash.l0v (pre ++ suf) h (pre.length : Int) = impl_Hash.l0v h (pre ++ suf) ((pre ++ suf).length : Int) (pre.length : Int) := by
  induction suf with
  | nil =>
    intro pre h _
    rw [impl_Hash.l0v_eq, if_neg (nlt_end pre), spec_Hash.l0v_eq, if_neg (nlt_end pre)]
  | cons x suf ih =>
    intro pre h hl
    have hn : pre.length < (pre ++ x :: suf).length := by simp
    obtain ⟨r, e, _⟩ := implMod_ex x 2147483647 (by decide) (by decide)
    rw [impl_Hash.l0v_eq, if_pos (lt_mid pre suf x), if_pos (by omega), if_pos (lt_mid pre suf x), rd_mid, e, up_mid pre x hn hl, Option.bind_some]
    rw [spec_Hash.l0v_eq, if_pos (lt_mid pre suf x), if_pos (by omega), rd_mid, ← mod_eq, e, up_mid pre x hn hl, Option.bind_some]
    rw [mid_snoc pre suf x] at hl ⊢
    exact ih (pre ++ [x]) _ hl
theorem specTag_v (s : Int) : spec_GreaseTag.fv s = impl_GreaseTag.fv s := by
  have h := hash_l0 [s, 0] [] 11 (by simp)
  simp only [List.nil_append, List.length_nil, Int.natCast_zero] at h
  rw [spec_GreaseTag.fv_eq, impl_GreaseTag.fv_eq, spec_PickOf.fv_eq, impl_PickOf.fv_eq, if_neg (by decide), if_neg (by decide), spec_Hash.fv_eq, impl_Hash.fv_eq, h]
  simp only [mod_eq]
section
variable (p : List S50) (v : List Int) (hp : p.length ≤ 1000000000000) (hs : ∀ x ∈ p, okB x) (hv : v.length ≤ 1000000000000)
include hp hs hv
theorem specLo_v (t : Int) : spec_LostTags.fv p v ([⟨t, []⟩] : List S69) = some (lostT p v [one t]) := by
  rw [show (⟨t, []⟩ : S69) = one t from rfl, specLost_v p v _ hp hs hv (by simp) (okX_one t)]
theorem specHard_l0 (m : Nat) : ∀ (n : Nat) (c : Int), n + m = 16 → 0 ≤ c → c ≤ n → spec_HardnessOf.l0v p v c (10 + 16 * (n : Int)) = some (c + hard p v (greases n m)) := by
  induction m with
  | zero =>
    intro n c hn _ _
    rw [spec_HardnessOf.l0v_eq, if_neg (by omega)]
    simp [greases, hard]
  | succ m ih =>
    intro n c hn h0 hc
    rw [spec_HardnessOf.l0v_eq, if_pos (by omega), spec_l29One.f, Option.bind_some, specLo_v p v hp hs hv, Option.bind_some, w64 (x := 10 + 16 * (n : Int) + 16) (by omega) (by omega), w64 (x := c + 1) (by omega) (by omega), show 10 + 16 * (n : Int) + 16 = 10 + 16 * ((n + 1 : Nat) : Int) by omega]
    simp only [greases, hard, isLo, decide_eq_true_eq]
    by_cases h : (lostT p v [one (10 + 16 * (n : Int))]).length > 0
    · rw [if_pos (by omega), if_pos h, ih (n + 1) (c + 1) (by omega) (by omega) (by omega), Int.add_assoc]
    · rw [if_neg (by omega), if_neg h, ih (n + 1) c (by omega) h0 (by omega), Int.zero_add]
theorem specHardness_v : spec_HardnessOf.fv p v = some (hard p v (greases 0 16)) := by
  have h := specHard_l0 p v hp hs hv 16 0 0 rfl (by omega) (by omega)
  rw [spec_HardnessOf.fv_eq]
  simpa using h
theorem specGL_v (s : Int) : spec_GreaseLost.fv p v s = impl_GreaseLost.fv p v s := by
  obtain ⟨t, e, _⟩ := implTag_ex s
  rw [spec_GreaseLost.fv_eq, impl_GreaseLost.fv_eq, specTag_v, e, Option.bind_some, Option.bind_some, spec_l29One.f, Option.bind_some, specLo_v p v hp hs hv, Option.bind_some, implIsLo_v p v hp hs hv, Option.bind_some]
  simp only [isLo, Option.some.injEq, decide_eq_decide]
  omega
theorem specSeed_l0 (n : Int) (hn : n ≤ 100) (m : Nat) : ∀ s : Int, 0 ≤ s → n - s ≤ m → spec_FindSeed.l0v p v n s = impl_FindSeed.l0v p v n s := by
  induction m with
  | zero =>
    intro s h0 h1
    rw [impl_FindSeed.l0v_eq, if_neg (by omega), impl_FindSeed.j1v_eq, if_neg (by simp), spec_FindSeed.l0v_eq, if_neg (by omega), spec_FindSeed.j1v_eq, if_neg (by simp)]
  | succ m ih =>
    intro s h0 h1
    by_cases hl : s < n
    · obtain ⟨r, e, _⟩ := implGL_ex p v hp hs hv s
      rw [impl_FindSeed.l0v_eq, if_pos hl, impl_FindSeed.j1v_eq, if_pos (by simp [hn]), e, Option.bind_some, spec_FindSeed.l0v_eq, if_pos hl, spec_FindSeed.j1v_eq, if_pos (by simp [hn]), specGL_v p v hp hs hv, e, Option.bind_some]
      cases r with
      | true => rw [if_pos rfl, if_pos rfl]
      | false =>
        rw [if_neg (by simp), if_neg (by simp), w64 (by omega) (by omega)]
        exact ih (s + 1) (by omega) (by omega)
    · rw [impl_FindSeed.l0v_eq, if_neg hl, impl_FindSeed.j1v_eq, if_neg (by simp), spec_FindSeed.l0v_eq, if_neg hl, spec_FindSeed.j1v_eq, if_neg (by simp)]
theorem specSeed_v (n : Int) : spec_FindSeed.fv p v n = impl_FindSeed.fv p v n := by
  rw [spec_FindSeed.fv_eq, impl_FindSeed.fv_eq]
  by_cases hn : n ≤ 100
  · exact specSeed_l0 p v hp hs hv n hn n.toNat 0 (by omega) (by omega)
  · rw [impl_FindSeed.l0v_eq, impl_FindSeed.j1v_eq, impl_FindSeed.j1v_eq, spec_FindSeed.l0v_eq, spec_FindSeed.j1v_eq, spec_FindSeed.j1v_eq]
    simp only [hn, decide_false, Bool.false_eq_true, if_false, ite_self]
end
end Go.Proofs.Ytpoandlbmaljhaa.Plain

/- What the law's own helpers on slices of whole numbers come to: a copy, equality, marks. Condition: the slice has at most 2 to the 40 numbers. -/
set_option linter.unusedSimpArgs false
set_option linter.unusedVariables false
namespace Go.Proofs.Ytpoandlbmaljhaa.Plain
open Go.RowKit Go.Proofs.YtpoandlbmaljhaaW.PrintWords Go.Proofs.Ytpoandlbmaljhaa.Base Go.Proofs.Ytpoandlbmaljhaa.Print

theorem toIntS_l0 (suf : List Int) : ∀ (pre rest : List Int), rest.length = suf.length → (pre ++ suf).length ≤ 1000000000000 → laws_toIntS.l0v (pre ++ suf) (pre ++ rest) (pre.length : Int) = some (pre ++ suf) := by
  induction suf with
  | nil =>
    intro pre rest hr _
    rw [laws_toIntS.l0v_eq, if_neg (nlt_end pre)]
    simp at hr
    rw [hr]
  | cons x suf ih =>
    intro pre rest hr hl
    cases rest with
    | nil => simp at hr
    | cons y rest =>
      have hn : pre.length < (pre ++ x :: suf).length := by simp
      rw [laws_toIntS.l0v_eq, if_pos (lt_mid pre suf x), if_pos (by omega), if_pos (lt_mid pre rest y), rd_mid, set_mid, up_mid pre x hn hl]
      rw [mid_snoc pre suf x] at hl ⊢
      have h1 := ih (pre ++ [x]) rest (by simpa using hr) hl
      simp only [List.length_append, List.length_cons, List.length_nil] at h1 ⊢
      exact h1

theorem toIntS_v (l : List Int) (hl : l.length ≤ 1000000000000) : laws_toIntS.fv l = some l := by
  rw [laws_toIntS.fv_eq, if_pos (by omega), if_pos (by omega)]
  have h := toIntS_l0 l [] (List.replicate ((l.length : Int) : Int).toNat 0) (by simp) (by simpa using hl)
  simpa using h

theorem eqIntS_l0 (sa : List Int) : ∀ (pre sb : List Int), sb.length = sa.length → (pre ++ sa).length ≤ 1000000000000 → laws_eqIntS.l0v (pre ++ sa) (pre ++ sb) (pre.length : Int) = some (decide (sa = sb)) := by
  induction sa with
  | nil =>
    intro pre sb hr _
    rw [laws_eqIntS.l0v_eq, if_neg (nlt_end pre)]
    simp at hr
    simp [hr]
  | cons x sa ih =>
    intro pre sb hr hl
    cases sb with
    | nil => simp at hr
    | cons y sb =>
      have hn : pre.length < (pre ++ x :: sa).length := by simp
      rw [laws_eqIntS.l0v_eq, if_pos (lt_mid pre sa x), if_pos (by omega), if_pos (lt_mid pre sb y), rd_mid, rd_mid, up_mid pre x hn hl]
      by_cases hxy : x = y
      · subst hxy
        rw [if_pos rfl]
        rw [mid_snoc pre sa x] at hl ⊢
        rw [mid_snoc pre sb x]
        rw [ih (pre ++ [x]) sb (by simpa using hr) hl]
        simp
      · rw [if_neg hxy]
        simp [hxy]

theorem eqIntS_v (a b : List Int) (hl : a.length ≤ 1000000000000) : laws_eqIntS.fv a b = some (decide (a = b)) := by
  rw [laws_eqIntS.fv_eq]
  by_cases h : a.length = b.length
  · rw [if_pos (by omega)]
    have h1 := eqIntS_l0 a [] b h.symm (by simpa using hl)
    simpa using h1
  · rw [if_neg (by omega)]
    have : a ≠ b := fun e => h (by rw [e])
    simp [this]
end Go.Proofs.Ytpoandlbmaljhaa.Plain

/- What is left of a size, row by row. Condition: at most 2 to the 20 is left. -/
set_option linter.unusedSimpArgs false
set_option linter.unusedVariables false
namespace Go.Proofs.Ytpoandlbmaljhaa.Plain
open Go.RowKit Go.Proofs.YtpoandlbmaljhaaW.PrintWords Go.Proofs.Ytpoandlbmaljhaa.Base Go.Proofs.Ytpoandlbmaljhaa.Print

theorem szIntS_f (l : List Int) (n : Int) (h0 : 0 ≤ n) (h : n ≤ 1048576) (hl : l.length ≤ 1000000000000000000) : laws_szIntS.f l n = some (if n < l.length then -1 else n - l.length) := by
  unfold laws_szIntS.f
  rw [w64 (by omega) (by omega)]
  by_cases hc : n < l.length
  · rw [if_pos (by omega), if_pos hc]
  · rw [if_neg (by omega), if_neg hc]
/-- What is left of n behind the rows, each with a size of its own; -1 where they are too large. -/
def sizes {α : Type} (f : α → Nat) : List α → Int → Int
  | [], n => n
  | x :: l, n => if n < (f x : Int) then -1 else sizes f l (n - (f x : Int))
/-- The same, with one for each row. -/
def sizeOf1 {α : Type} (f : α → Nat) (l : List α) (n : Int) : Int := if n < (l.length : Int) then -1 else sizes f l (n - (l.length : Int))
theorem sizes_le {α : Type} (f : α → Nat) (l : List α) : ∀ n : Int, 0 ≤ sizes f l n → sizes f l n ≤ n ∧ ∀ x ∈ l, (f x : Int) ≤ n := by
  induction l with
  | nil =>
    intro n h
    exact ⟨Int.le_refl _, fun x hx => by cases hx⟩
  | cons y l ih =>
    intro n h
    simp only [sizes] at h ⊢
    by_cases hc : n < (f y : Int)
    · rw [if_pos hc] at h
      omega
    · rw [if_neg hc] at h ⊢
      obtain ⟨h1, h2⟩ := ih _ h
      refine ⟨by omega, fun x hx => ?_⟩
      cases hx with
      | head => omega
      | tail _ hx =>
        have := h2 x hx
        omega
theorem sizeOf1_le {α : Type} (f : α → Nat) (l : List α) (n : Int) (h : 0 ≤ sizeOf1 f l n) : sizeOf1 f l n ≤ n ∧ (l.length : Int) ≤ n ∧ ∀ x ∈ l, (f x : Int) ≤ n := by
  unfold sizeOf1 at h ⊢
  by_cases hc : n < (l.length : Int)
  · rw [if_pos hc] at h
    omega
  · rw [if_neg hc] at h ⊢
    obtain ⟨h1, h2⟩ := sizes_le f l _ h
    exact ⟨by omega, by omega, fun x hx => by
      have := h2 x hx
      omega⟩
theorem sizes_neg {α : Type} (f : α → Nat) (l : List α) : ∀ n : Int, 0 ≤ n → sizes f l n < 0 → sizes f l n = -1 := by
  induction l with
  | nil =>
    intro n h0 h
    simp only [sizes] at h
    omega
  | cons y l ih =>
    intro n h0 h
    simp only [sizes] at h ⊢
    by_cases hc : n < (f y : Int)
    · rw [if_pos hc]
    · rw [if_neg hc] at h ⊢
      exact ih _ (by omega) h
end Go.Proofs.Ytpoandlbmaljhaa.Plain

/- Boxes: their sizes, copies and equality, as the law's helpers tell them. Condition: at most 10 to the 12 of each. -/
set_option linter.unusedSimpArgs false
set_option linter.unusedVariables false
namespace Go.Proofs.Ytpoandlbmaljhaa.Plain
open Go.RowKit Go.Proofs.YtpoandlbmaljhaaW.PrintWords Go.Proofs.Ytpoandlbmaljhaa.Base Go.Proofs.Ytpoandlbmaljhaa.Print

theorem rdBoxL_mid (pre suf : List S46) (x : S46) : rd_T46 (pre ++ x :: suf) (pre.length : Int) = x := by simp [rd_T46]
/-- The law's box as the program's. -/
def toB (b : S46) : S50 := ⟨b.f0, b.f1, b.f2, b.f3⟩
def szB (b : S46) : Nat := b.f1.length + b.f2.length
theorem szBox_f (a : Int) (l m : List Int) (f : Bool) (n : Int) (h0 : 0 ≤ n) (h : n ≤ 1048576) (hl : l.length ≤ 1000000000000000000) (hm : m.length ≤ 1000000000000000000) : laws_szBox.f a l m f n = some (if n < ((l.length + m.length : Nat) : Int) then -1 else n - ((l.length + m.length : Nat) : Int)) := by
  unfold laws_szBox.f
  rw [szIntS_f l n h0 h hl]
  simp only [Option.bind_some]
  by_cases hc : n < (l.length : Int)
  · rw [if_pos hc, if_pos (by omega), if_pos (by omega)]
  · rw [if_neg hc, if_neg (by omega), szIntS_f m _ (by omega) (by omega) hm]
    simp only [Option.bind_some]
    by_cases hd : n - (l.length : Int) < (m.length : Int)
    · rw [if_pos hd, if_pos (by omega), if_pos (by omega)]
    · rw [if_neg hd, if_neg (by omega), if_neg (by omega)]
      congr 1
      omega
theorem szBoxS_l0 (suf : List S46) : ∀ (pre : List S46) (n : Int), (pre ++ suf).length ≤ 1000000000000 → 0 ≤ n → n ≤ 1048576 → (∀ x ∈ suf, x.f1.length ≤ 1000000000000000000 ∧ x.f2.length ≤ 1000000000000000000) →
    laws_szBoxS.l0v (pre ++ suf) n (pre.length : Int) = some (sizes szB suf n) := by
  induction suf with
  | nil =>
    intro pre n _ _ _ _
    rw [laws_szBoxS.l0v_eq, if_neg (nlt_end pre)]
    rfl
  | cons x suf ih =>
    intro pre n hl h0 h1 hs
    have hn : pre.length < (pre ++ x :: suf).length := by simp
    have hx := hs x List.mem_cons_self
    rw [laws_szBoxS.l0v_eq, if_pos (lt_mid pre suf x), if_pos (by omega), rdBoxL_mid, szBox_f _ _ _ _ n h0 h1 hx.1 hx.2]
    simp only [Option.bind_some, sizes]
    have e : ((x.f1.length + x.f2.length : Nat) : Int) = (szB x : Int) := rfl
    rw [e]
    by_cases hc : n < (szB x : Int)
    · rw [if_pos hc, if_pos (by omega), if_pos hc]
    · rw [if_neg hc, if_neg (by omega), if_neg hc, up_mid pre x hn hl]
      rw [mid_snoc pre suf x] at hl ⊢
      exact ih (pre ++ [x]) _ hl (by omega) (by omega) (fun y hy => hs y (List.mem_cons_of_mem _ hy))
theorem szBoxS_v (l : List S46) (n : Int) (h0 : 0 ≤ n) (h1 : n ≤ 1048576) (hl : l.length ≤ 100000000000000000) (hs : ∀ x ∈ l, x.f1.length ≤ 1000000000000000000 ∧ x.f2.length ≤ 1000000000000000000) :
    laws_szBoxS.fv l n = some (sizeOf1 szB l n) := by
  rw [laws_szBoxS.fv_eq, w64 (by omega) (by omega)]
  unfold sizeOf1
  by_cases hc : n < (l.length : Int)
  · rw [if_pos (by omega), if_pos hc]
  · rw [if_neg (by omega), if_neg hc]
    have h := szBoxS_l0 l [] (n - (l.length : Int)) (by simp; omega) (by omega) (by omega) hs
    simpa using h
theorem toBox_v (a : Int) (l m : List Int) (f : Bool) (hl : l.length ≤ 1000000000000) (hm : m.length ≤ 1000000000000) : laws_toBox.fv a l m f = some (a, l, m, f) := by
  rw [laws_toBox.fv_eq, toIntS_v l hl, toIntS_v m hm]
  rfl
theorem toBoxS_l0 (suf : List S46) : ∀ (pre : List S46) (q rest : List S50), q.length = pre.length → rest.length = suf.length → (pre ++ suf).length ≤ 1000000000000 → (∀ x ∈ suf, okB (toB x)) → laws_toBoxS.l0v (pre ++ suf) (q ++ rest) (pre.length : Int) = some (q ++ suf.map toB) := by
  induction suf with
  | nil =>
    intro pre q rest _ hr _ _
    rw [laws_toBoxS.l0v_eq, if_neg (nlt_end pre)]
    simp at hr
    simp [hr]
  | cons x suf ih =>
    intro pre q rest hq hr hl hs
    cases rest with
    | nil => simp at hr
    | cons y rest =>
      have hn : pre.length < (pre ++ x :: suf).length := by simp
      have hx : x.f1.length ≤ 1000000000000 ∧ x.f2.length ≤ 1000000000000 := hs x List.mem_cons_self
      rw [laws_toBoxS.l0v_eq, if_pos (lt_mid pre suf x), if_pos (by omega), rdBoxL_mid, toBox_v _ _ _ _ hx.1 hx.2]
      simp only [Option.bind_some]
      rw [up_mid pre x hn hl, ← hq, if_pos (lt_mid q rest y), set_mid]
      rw [mid_snoc pre suf x] at hl ⊢
      rw [show (⟨x.f0, x.f1, x.f2, x.f3⟩ : S50) = toB x from rfl, ih (pre ++ [x]) (q ++ [toB x]) rest (by simp [hq]) (by simpa using hr) hl (fun y hy => hs y (List.mem_cons_of_mem _ hy))]
      simp
theorem toBoxS_v (l : List S46) (hl : l.length ≤ 1000000000000) (hs : ∀ x ∈ l, okB (toB x)) : laws_toBoxS.fv l = some (l.map toB) := by
  rw [laws_toBoxS.fv_eq, if_pos (by omega), if_pos (by omega)]
  have h := toBoxS_l0 l [] [] (List.replicate ((l.length : Int) : Int).toNat z50) rfl (by simp) (by simpa using hl) hs
  simpa using h
theorem eqBox_v (b : S50) (h : okB b) : laws_eqBox.fv b.f0 b.f1 b.f2 b.f3 b.f0 b.f1 b.f2 b.f3 = some true := by
  rw [laws_eqBox.fv_eq, if_pos rfl, eqIntS_v _ _ h.1, eqIntS_v _ _ h.2]
  first | (simp; done) | (rcases Bool.eq_false_or_eq_true b.f3 with h3 | h3 <;> simp [h3])
theorem eqBoxS_l0 (sa : List S50) : ∀ (pre : List S50), (pre ++ sa).length ≤ 1000000000000 → (∀ x ∈ sa, okB x) → laws_eqBoxS.l0v (pre ++ sa) (pre ++ sa) (pre.length : Int) = some true := by
  induction sa with
  | nil =>
    intro pre _ _
    rw [laws_eqBoxS.l0v_eq, if_neg (nlt_end pre)]
  | cons x sa ih =>
    intro pre hl hs
    have hn : pre.length < (pre ++ x :: sa).length := by simp
    rw [laws_eqBoxS.l0v_eq, if_pos (lt_mid pre sa x), if_pos (by omega), if_pos (lt_mid pre sa x), rdBox_mid, eqBox_v x (hs x List.mem_cons_self), up_mid pre x hn hl]
    simp only [Option.bind_some, if_true]
    rw [mid_snoc pre sa x] at hl ⊢
    exact ih (pre ++ [x]) hl (fun y hy => hs y (List.mem_cons_of_mem _ hy))
theorem eqBoxS_v (l : List S50) (hl : l.length ≤ 1000000000000) (hs : ∀ x ∈ l, okB x) : laws_eqBoxS.fv l l = some true := by
  rw [laws_eqBoxS.fv_eq, if_pos rfl]
  exact eqBoxS_l0 l [] (by simpa using hl) hs
end Go.Proofs.Ytpoandlbmaljhaa.Plain

/- Written by a program of this session (limx.py): the equations of what the printed functions come to. No condition. -/
namespace Go.Proofs.Ytpoandlbmaljhaa.Print
open Go.RowKit Go.Proofs.YtpoandlbmaljhaaW.PrintWords Go.Proofs.YtpoandlbmaljhaaW.PrintLast Go.Proofs.Ytpoandlbmaljhaa.Base
set_option linter.unusedVariables false
set_option maxRecDepth 20000
noncomputable def laws_FnExactFindSeed.fv (l0 : List (S46)) (l1 : List Int) (a2 : Int) : Option (Bool) := Lim fun k => laws_FnExactFindSeed.f k l0 l1 a2
theorem laws_FnExactFindSeed.f_is (l0 : List (S46)) (l1 : List Int) (a2 : Int) : Is (fun k => laws_FnExactFindSeed.f k l0 l1 a2) (laws_FnExactFindSeed.fv l0 l1 a2) := ⟨fun k => laws_FnExactFindSeed.mono l0 l1 a2 k, rfl⟩
theorem laws_FnExactFindSeed.fv_eq (l0 : List (S46)) (l1 : List Int) (a2 : Int) : laws_FnExactFindSeed.fv l0 l1 a2 = if (l1.length : Int) > 1048576 then (some true) else ((laws_szBoxS.fv l0 1048576).bind fun t606 => (if t606 < 0 then (some true) else ((laws_toBoxS.fv l0).bind fun t607 => ((laws_toIntS.fv l1).bind fun t610 => ((spec_FindSeed.fv t607 t610 a2).bind fun t613 => ((laws_toBoxS.fv l0).bind fun t614 => ((laws_toIntS.fv l1).bind fun t617 => ((impl_FindSeed.fv t614 t617 a2).bind fun t620 => (if t620 = t613 then ((laws_toBoxS.fv l0).bind fun t621 => ((laws_eqBoxS.fv t614 t621).bind fun t624 => (if t624 = true then ((laws_toIntS.fv l1).bind fun t625 => ((laws_eqIntS.fv t617 t625).bind fun t628 => (if t628 = true then (some true) else (some false)))) else (some false)))) else (some false)))))))))) := by
  refine Is.lim (g := fun k => laws_FnExactFindSeed.f k l0 l1 a2) ?_
  · unfold laws_FnExactFindSeed.f
    repeat' first
    | with_reducible exact impl_FindSeed.f_is _ _ _
    | with_reducible exact laws_eqBoxS.f_is _ _
    | with_reducible exact laws_eqIntS.f_is _ _
    | with_reducible exact laws_szBoxS.f_is _ _
    | with_reducible exact laws_toBoxS.f_is _
    | with_reducible exact laws_toIntS.f_is _
    | with_reducible exact spec_FindSeed.f_is _ _ _
    | with_reducible exact Is.now _
    | with_reducible refine Is.ite ?_ ?_
    | with_reducible refine Is.bind ?_ (fun _ => ?_)
end Go.Proofs.Ytpoandlbmaljhaa.Print

/- FnExactFindSeed: whatever the path, the versions and how many seeds there are, the program and the reference return the same and leave the arguments as they were. No condition. -/
set_option linter.unusedSimpArgs false
set_option linter.unusedVariables false
namespace Go.Proofs.Ytpoandlbmaljhaa.Pure
open Go.RowKit Go.Proofs.YtpoandlbmaljhaaW.PrintWords Go.Proofs.Ytpoandlbmaljhaa.Base Go.Proofs.Ytpoandlbmaljhaa.Print Go.Proofs.Ytpoandlbmaljhaa.Plain

theorem FnExactFindSeed : laws_FnExactFindSeed.Pure := by
  rintro l v n ⟨hl, hb⟩ ⟨hv, _⟩ _
  have hs : ∀ x ∈ l, x.f1.length ≤ 1000000000000000000 ∧ x.f2.length ≤ 1000000000000000000 := fun x hx => by
    obtain ⟨_, ⟨h1, _⟩, ⟨h2, _⟩, _⟩ := hb x hx
    exact ⟨by omega, by omega⟩
  refine ends (g := fun k => laws_FnExactFindSeed.f k l v n) ?_
  show laws_FnExactFindSeed.fv l v n = some true
  rw [laws_FnExactFindSeed.fv_eq]
  by_cases h0 : (v.length : Int) > 1048576
  · rw [if_pos h0]
  rw [if_neg h0, szBoxS_v l 1048576 (by omega) (by omega) (by omega) hs, Option.bind_some]
  by_cases hz : sizeOf1 szB l 1048576 < 0
  · rw [if_pos hz]
  · obtain ⟨_, h1, h2⟩ := sizeOf1_le szB l 1048576 (by omega)
    have hn : l.length ≤ 1000000000000 := by omega
    have hx : ∀ x ∈ l, okB (toB x) := fun x hx => by
      have h3 := h2 x hx
      unfold szB at h3
      exact ⟨by show x.f1.length ≤ _; omega, by show x.f2.length ≤ _; omega⟩
    have hy : ∀ x ∈ l.map toB, okB x := fun x hm => by
      obtain ⟨y, hy, rfl⟩ := List.mem_map.1 hm
      exact hx y hy
    have hm : (l.map toB).length ≤ 1000000000000 := by
      rw [List.length_map]
      exact hn
    have hw : v.length ≤ 1000000000000 := by omega
    obtain ⟨r, e2, _⟩ := implSeed_ex (l.map toB) v hm hy hw n
    have e1 := (specSeed_v (l.map toB) v hm hy hw n).trans e2
    rw [if_neg hz]
    simp only [toBoxS_v l hn hx, toIntS_v v hw, e1, e2, Option.bind_some, eqBoxS_v _ hm hy, eqIntS_v v v hw, decide_true, if_true]
end Go.Proofs.Ytpoandlbmaljhaa.Pure
