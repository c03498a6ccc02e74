/- FnRetired: whatever the bytes that the law draws from, after a version is retired everybody still reaches the server. No condition. -/
import Derived.Test.YtdoefkloanpliaaWWords
import Derived.Test.YtdoefkloanpliaaPrint2
import Derived.Test.YtdoefkloanpliaaPrint1
import Derived.Test.YtdoefkloanpliaaPrint3
import Derived.Test.YtdoefkloanpliaaPrint5
import Derived.Test.YtdoefkloanpliaaPrint4
import Derived.Test.YtdoefkloanpliaaPrint6
import Derived.Test.YtdoefkloanpliaaPrint8
import Derived.Test.YtdoefkloanpliaaPrint7
import Derived.Test.YtdoefkloanpliaaPrint31
import Derived.Test.YtdoefkloanpliaaPrint9
import Derived.Laws.Bits64b
/- What a function with rounds comes to when it has rounds enough, as an option: its equations hold without rounds. No condition. -/
namespace Go.Proofs.Ytdoefkloanpliaa.Base
open Go.RowKit Go.Proofs.YtdoefkloanpliaaW.PrintWords

/-- More rounds tell the same. -/
def Mo {α : Type} (g : Nat → Option α) : Prop := ∀ k, LeO (g k) (g (k + 1))
theorem mo_le {α : Type} {g : Nat → Option α} (h : Mo g) {k k' : Nat} (hk : k ≤ k') {r : α} (hr : g k = some r) : g k' = some r := at_rounds h hk hr
open Classical in
/-- What it comes to at last: nothing, or one answer. -/
noncomputable def Lim {α : Type} (g : Nat → Option α) : Option α := if h : ∃ r, ∃ k, g k = some r then some (Classical.choose h) else none
theorem lim_some {α : Type} {g : Nat → Option α} (h : Mo g) {k : Nat} {r : α} (hr : g k = some r) : Lim g = some r := by
  have hx : ∃ r, ∃ k, g k = some r := ⟨r, k, hr⟩
  unfold Lim
  rw [dif_pos hx]
  obtain ⟨k', hk'⟩ := Classical.choose_spec hx
  have h1 := mo_le h (Nat.le_max_left k k') hr
  have h2 := mo_le h (Nat.le_max_right k k') hk'
  rw [h1] at h2
  exact h2.symm
theorem of_lim {α : Type} {g : Nat → Option α} {r : α} (h : Lim g = some r) : ∃ k, g k = some r := by
  unfold Lim at h
  split at h
  · rename_i hx
    obtain rfl := Option.some.inj h
    exact Classical.choose_spec hx
  · cases h
theorem lim_none {α : Type} {g : Nat → Option α} (h : Lim g = none) (k : Nat) : g k = none := by
  cases hk : g k with
  | none => rfl
  | some r =>
    unfold Lim at h
    rw [dif_pos ⟨r, k, hk⟩] at h
    cases h
theorem none_lim {α : Type} {g : Nat → Option α} (h : ∀ k, g k = none) : Lim g = none := by
  unfold Lim
  rw [dif_neg]
  rintro ⟨r, k, hk⟩
  rw [h k] at hk
  cases hk
structure Is {α : Type} (g : Nat → Option α) (v : Option α) : Prop where
  mo : Mo g
  lim : Lim g = v
theorem Is.now {α : Type} (v : Option α) : Is (fun _ => v) v := by
  refine ⟨fun _ => LeO.refl _, ?_⟩
  cases v with
  | none => exact none_lim fun _ => rfl
  | some r => exact lim_some (g := fun _ => some r) (fun _ => LeO.refl _) (k := 0) rfl
theorem Is.ite {α : Type} {c : Prop} [Decidable c] {g h : Nat → Option α} {a b : Option α} (hg : Is g a) (hh : Is h b) : Is (fun k => if c then g k else h k) (if c then a else b) := by
  by_cases hc : c
  · simp only [if_pos hc]
    exact hg
  · simp only [if_neg hc]
    exact hh
theorem Is.bind {α β : Type} {g : Nat → Option α} {f : Nat → α → Option β} {a : Option α} {b : α → Option β} (hg : Is g a) (hf : ∀ x, Is (fun k => f k x) (b x)) : Is (fun k => (g k).bind (f k)) (a.bind b) := by
  have hm : Mo (fun k => (g k).bind (f k)) := fun k => LeO.bind (hg.mo k) (fun x => (hf x).mo k)
  refine ⟨hm, ?_⟩
  cases ha : a with
  | none =>
    refine none_lim fun k => ?_
    rw [lim_none (hg.lim.trans ha) k]
    rfl
  | some x =>
    obtain ⟨k, hk⟩ := of_lim (hg.lim.trans ha)
    show _ = b x
    cases hb : b x with
    | none =>
      refine none_lim fun k' => ?_
      cases hx : (g k').bind (f k') with
      | none => rfl
      | some r =>
        have h1 := mo_le hm (Nat.le_max_left k' k) hx
        have h2 := mo_le hg.mo (Nat.le_max_right k' k) hk
        simp only [h2, Option.bind_some] at h1
        rw [lim_none ((hf x).lim.trans hb)] at h1
        cases h1
    | some r =>
      obtain ⟨k', hk'⟩ := of_lim ((hf x).lim.trans hb)
      refine lim_some hm (k := max k k') ?_
      simp only [mo_le hg.mo (Nat.le_max_left k k') hk, Option.bind_some]
      exact mo_le (hf x).mo (Nat.le_max_right k k') hk'
theorem Is.step {α : Type} {g b : Nat → Option α} {v : Option α} (hg : Mo g) (h : ∀ k, g (k + 1) = b k) (hb : Is b v) : Lim g = v := by
  rw [← hb.lim]
  cases hx : Lim g with
  | none =>
    symm
    refine none_lim fun k => ?_
    rw [← h k]
    exact lim_none hx _
  | some r =>
    obtain ⟨k, hk⟩ := of_lim hx
    symm
    refine lim_some hb.mo (k := k) ?_
    rw [← h k]
    exact mo_le hg (Nat.le_succ k) hk
theorem ends {α : Type} {g : Nat → Option α} {r : α} (h : Lim g = some r) : ∃ k, g k = some r := of_lim h
end Go.Proofs.Ytdoefkloanpliaa.Base

/- Lists read by a whole number's index, and whole numbers that fit. No condition. -/
set_option linter.unusedSimpArgs false
set_option linter.unusedVariables false
namespace Go.Proofs.Ytdoefkloanpliaa.Plain
open Go.RowKit Go.Proofs.YtdoefkloanpliaaW.PrintWords

theorem w64 {x : Int} (h0 : -9223372036854775808 ≤ x) (h1 : x ≤ 9223372036854775807) : wrap64 x = x := by
  unfold wrap64
  omega
theorem rd_mid (pre suf : List Int) (x : Int) : rd (pre ++ x :: suf) (pre.length : Int) = x := by simp [rd]
theorem lt_mid {α : Type} (pre suf : List α) (x : α) : (pre.length : Int) < ((pre ++ x :: suf).length : Int) := by
  simp
  omega
theorem nlt_end {α : Type} (pre : List α) : ¬ (pre.length : Int) < ((pre ++ []).length : Int) := by simp
theorem up_mid {α : Type} (pre : List α) (x : α) {n : Nat} (h : pre.length < n) (hn : n ≤ 1000000000000) : wrap64 ((pre.length : Int) + 1) = ((pre ++ [x]).length : Int) := by
  rw [w64 (by omega) (by omega)]
  simp
theorem set_mid {α : Type} (pre suf : List α) (x y : α) : (pre ++ x :: suf).set (pre.length : Int).toNat y = (pre ++ [y]) ++ suf := by
  rw [Int.toNat_natCast, List.set_append_right _ _ (Nat.le_refl _), Nat.sub_self]
  simp
theorem mid_snoc {α : Type} (pre suf : List α) (x : α) : pre ++ x :: suf = (pre ++ [x]) ++ suf := by simp
theorem beq_ints (a b : List Int) : (a == b) = decide (a = b) := by
  by_cases h : a = b <;> simp [h]
end Go.Proofs.Ytdoefkloanpliaa.Plain

/- Ranges, of the program and of the reference. No condition. -/
set_option linter.unusedSimpArgs false
set_option linter.unusedVariables false
namespace Go.Proofs.Ytdoefkloanpliaa.Plain
open Go.RowKit Go.Proofs.YtdoefkloanpliaaW.PrintWords Go.Proofs.Ytdoefkloanpliaa.Base Go.Proofs.Ytdoefkloanpliaa.Print

/-- lo ≤ n ≤ hi -/
def inR (lo hi n : Int) : Bool := decide (lo ≤ n) && decide (n ≤ hi)
theorem inR_true {lo hi n : Int} : inR lo hi n = true ↔ lo ≤ n ∧ n ≤ hi := by simp [inR]
theorem inR_false {lo hi n : Int} : inR lo hi n = false ↔ n < lo ∨ hi < n := by
  simp only [inR, Bool.and_eq_false_iff, decide_eq_false_iff_not]
  omega
theorem inRange_f (n lo hi : Int) : impl_InRange.f n lo hi = some (inR lo hi n) := by
  unfold impl_InRange.f inR
  by_cases h : lo ≤ n <;> simp [h]
theorem l1In_f (n lo hi : Int) : spec_l1In.f n lo hi = some (inR lo hi n) := by
  unfold spec_l1In.f inR
  by_cases h : lo ≤ n <;> simp [h]

end Go.Proofs.Ytdoefkloanpliaa.Plain

/- Lists of versions: ascending, from 1 to 9; membership; what two lists share. No program. No condition. -/
set_option linter.unusedSimpArgs false
set_option linter.unusedVariables false
namespace Go.Proofs.Ytdoefkloanpliaa.Plain
open Go.RowKit Go.Proofs.YtdoefkloanpliaaW.PrintWords Go.Proofs.Ytdoefkloanpliaa.Base Go.Proofs.Ytdoefkloanpliaa.Print

/-- Versions that grow, all above p. -/
def vers : Int → List Int → Bool
  | _, [] => true
  | p, x :: l => inR 1 9 x && (decide (p < x) && vers x l)
/-- A list of versions, and not empty. -/
def areV (l : List Int) : Bool := vers 0 l && decide (0 < l.length)
/-- Is x in the list? -/
def mem (l : List Int) (x : Int) : Bool := decide (x ∈ l)
/-- What two lists share. -/
def com (a b : List Int) : List Int := a.filter (mem b)
/-- The best version that two lists share. -/
def best (a b : List Int) : Int := if areV a && areV b then (com a b).getLastD 0 else 0
theorem mem_cons (x y : Int) (l : List Int) : mem (y :: l) x = (decide (y = x) || mem l x) := by
  by_cases h : y = x
  · simp [mem, h]
  · have h' : ¬ x = y := fun e => h e.symm
    simp [mem, h, h']
theorem mem_nil (x : Int) : mem [] x = false := by simp [mem]
theorem vers_le {p q : Int} {l : List Int} (h : vers p l = true) (hq : q ≤ p) : vers q l = true := by
  cases l with
  | nil => rfl
  | cons x l =>
    simp only [vers, Bool.and_eq_true, decide_eq_true_eq] at h ⊢
    exact ⟨h.1, by omega, h.2.2⟩
theorem vers_filter (f : Int → Bool) {l : List Int} : ∀ {p : Int}, vers p l = true → vers p (l.filter f) = true := by
  induction l with
  | nil =>
    intro p h
    rfl
  | cons x l ih =>
    intro p h
    simp only [vers, Bool.and_eq_true, decide_eq_true_eq] at h
    cases hf : f x with
    | true =>
      rw [List.filter_cons_of_pos hf]
      simp only [vers, Bool.and_eq_true, decide_eq_true_eq]
      exact ⟨h.1, h.2.1, ih h.2.2⟩
    | false =>
      rw [List.filter_cons_of_neg (by simp [hf])]
      exact vers_le (ih h.2.2) (by omega)
theorem vers_len {l : List Int} : ∀ {p : Int}, vers p l = true → p ≤ 9 → (l.length : Int) ≤ 9 - p := by
  induction l with
  | nil =>
    intro p _ hp
    simp
    omega
  | cons x l ih =>
    intro p h hp
    simp only [vers, Bool.and_eq_true, decide_eq_true_eq, inR_true] at h
    have := ih h.2.2 (by omega)
    simp only [List.length_cons]
    omega
theorem areV_len {l : List Int} (h : areV l = true) : l.length ≤ 9 := by
  simp only [areV, Bool.and_eq_true] at h
  have := vers_len h.1 (by omega)
  omega
theorem vers_mem {l : List Int} : ∀ {p : Int}, vers p l = true → ∀ x ∈ l, 1 ≤ x ∧ x ≤ 9 ∧ p < x := by
  induction l with
  | nil =>
    intro p _ x hx
    cases hx
  | cons y l ih =>
    intro p h x hx
    simp only [vers, Bool.and_eq_true, decide_eq_true_eq, inR_true] at h
    cases hx with
    | head => omega
    | tail _ hx =>
      have := ih h.2.2 x hx
      omega
theorem areV_mem {l : List Int} (h : areV l = true) : ∀ x ∈ l, 1 ≤ x ∧ x ≤ 9 := by
  simp only [areV, Bool.and_eq_true] at h
  intro x hx
  have := vers_mem h.1 x hx
  omega
theorem com_len (a b : List Int) : (com a b).length ≤ a.length := List.length_filter_le _ _
theorem lastD_cons (x : Int) (l : List Int) (d : Int) : (x :: l).getLastD d = l.getLastD x := by
  cases l <;> rfl
theorem rd_lastD (pre suf : List Int) (h : pre ≠ []) : rd (pre ++ suf) ((pre.length : Int) - 1) = pre.getLastD 0 := by
  have hl : 0 < pre.length := List.length_pos_iff.mpr h
  have e : ((pre.length : Int) - 1).toNat = pre.length - 1 := by omega
  have h1 : pre.length - 1 < pre.length := by omega
  simp [rd, e, List.getD_eq_getElem?_getD, List.getElem?_append_left h1, List.getLastD_eq_getLast?, List.getLast?_eq_getElem?]
theorem lastD_mem (l : List Int) (h : l ≠ []) (d : Int) : l.getLastD d ∈ l := by
  cases l with
  | nil => exact absurd rfl h
  | cons x l => exact List.getLast_mem _
end Go.Proofs.Ytdoefkloanpliaa.Plain

/- How many lists reach the server, and by which version. No program. No condition. -/
set_option linter.unusedSimpArgs false
set_option linter.unusedVariables false
namespace Go.Proofs.Ytdoefkloanpliaa.Plain
open Go.RowKit Go.Proofs.YtdoefkloanpliaaW.PrintWords Go.Proofs.Ytdoefkloanpliaa.Base Go.Proofs.Ytdoefkloanpliaa.Print

/-- How many lists have v as their best version with the server. -/
def uses (s : List Int) (v : Int) : List (List Int) → Int
  | [] => 0
  | l :: r => (if best s l = v then 1 else 0) + uses s v r
/-- Does none fail? -/
def allR (s : List Int) (r : List (List Int)) : Bool := r.all (fun l => decide (best s l ≠ 0))
theorem uses_in (s : List Int) (v : Int) (r : List (List Int)) : 0 ≤ uses s v r ∧ uses s v r ≤ r.length := by
  induction r with
  | nil => simp [uses]
  | cons l r ih =>
    simp only [uses, List.length_cons]
    split <;> omega
end Go.Proofs.Ytdoefkloanpliaa.Plain

/- Whom a server without one version leaves behind. No program. No condition. -/
set_option linter.unusedSimpArgs false
set_option linter.unusedVariables false
namespace Go.Proofs.Ytdoefkloanpliaa.Plain
open Go.RowKit Go.Proofs.YtdoefkloanpliaaW.PrintWords Go.Proofs.Ytdoefkloanpliaa.Base Go.Proofs.Ytdoefkloanpliaa.Print

/-- The server without v. -/
def drop (s : List Int) (v : Int) : List Int := s.filter (fun x => !decide (x = v))
/-- Is this list left behind? -/
def left (s t : List Int) (l : List Int) : Bool := decide (best s l > 0) && decide (best t l = 0)
/-- The places of the lists left behind, from n on. -/
def lefts (s t : List Int) : Int → List (List Int) → List Int
  | _, [] => []
  | n, l :: r => if left s t l then n :: lefts s t (n + 1) r else lefts s t (n + 1) r
/-- May a version be retired? -/
def mayR (s : List Int) (r : List (List Int)) (v p : Int) : Bool :=
  areV s && (mem s v && (!decide (s.length = 1) && (inR 0 1000 p && (decide ((lefts s (drop s v) 0 r).length = 0) && decide (wrap64 (1000 * (if v < 1 then 0 else uses s v r)) ≤ wrap64 (p * (r.length : Int)))))))
theorem lefts_len (s t : List Int) (r : List (List Int)) : ∀ n, (lefts s t n r).length ≤ r.length := by
  induction r with
  | nil =>
    intro n
    simp [lefts]
  | cons l r ih =>
    intro n
    have := ih (n + 1)
    simp only [lefts]
    split
    · simp only [List.length_cons]
      omega
    · simp only [List.length_cons]
      omega
theorem drop_len (s : List Int) (v : Int) : (drop s v).length ≤ s.length := List.length_filter_le _ _
end Go.Proofs.Ytdoefkloanpliaa.Plain

/- After a version is retired everybody still reaches the server. No program. No condition. -/
set_option linter.unusedSimpArgs false
set_option linter.unusedVariables false
namespace Go.Proofs.Ytdoefkloanpliaa.Plain
open Go.RowKit Go.Proofs.YtdoefkloanpliaaW.PrintWords Go.Proofs.Ytdoefkloanpliaa.Base Go.Proofs.Ytdoefkloanpliaa.Print

theorem best_in (s l : List Int) : 0 ≤ best s l ∧ best s l ≤ 9 ∧ (best s l ≠ 0 → areV s = true ∧ areV l = true ∧ best s l ∈ s ∧ mem l (best s l) = true) := by
  unfold best
  by_cases h : (areV s && areV l) = true
  · rw [if_pos h]
    simp only [Bool.and_eq_true] at h
    by_cases hc : com s l = []
    · rw [hc]
      exact ⟨by simp, by simp, fun h0 => absurd rfl h0⟩
    · have hm := lastD_mem (com s l) hc 0
      have h2 : (com s l).getLastD 0 ∈ s ∧ mem l ((com s l).getLastD 0) = true := List.mem_filter.mp hm
      have h3 := areV_mem h.1 _ h2.1
      exact ⟨by omega, h3.2, fun _ => ⟨h.1, h.2, h2⟩⟩
  · rw [if_neg h]
    exact ⟨by omega, by omega, fun h0 => absurd rfl h0⟩
theorem best_pos {s l : List Int} (hs : areV s = true) (hl : areV l = true) {x : Int} (hx : x ∈ s) (hm : mem l x = true) : best s l ≠ 0 := by
  unfold best
  rw [if_pos (by rw [hs, hl]; rfl)]
  have hc : com s l ≠ [] := by
    intro e
    have : x ∈ com s l := List.mem_filter.mpr ⟨hx, hm⟩
    rw [e] at this
    cases this
  have hi := List.mem_filter.mp (lastD_mem (com s l) hc 0)
  have := areV_mem hs _ hi.1
  omega
theorem drop_mem {s : List Int} {v x : Int} : x ∈ drop s v ↔ x ∈ s ∧ x ≠ v := by
  unfold drop
  rw [List.mem_filter]
  simp
theorem drop_areV {s : List Int} {v x : Int} (hs : areV s = true) (hx : x ∈ s) (hv : x ≠ v) : areV (drop s v) = true := by
  simp only [areV, Bool.and_eq_true, decide_eq_true_eq] at hs ⊢
  exact ⟨vers_filter _ hs.1, List.length_pos_of_mem (drop_mem.mpr ⟨hx, hv⟩)⟩
theorem drop_two {s : List Int} {v : Int} (hs : areV s = true) (h1 : s.length ≠ 1) : areV (drop s v) = true := by
  match s, hs, h1 with
  | [], hs, _ => simp [areV] at hs
  | [a], _, h1 => simp at h1
  | a :: b :: t, hs, _ =>
    have h := hs
    simp only [areV, vers, Bool.and_eq_true, decide_eq_true_eq] at h
    by_cases ha : a = v
    · exact drop_areV hs (x := b) (by simp) (by omega)
    · exact drop_areV hs (x := a) (by simp) ha
theorem left_best {s l : List Int} {v : Int} (h : left s (drop s v) l = true) : best s l = v := by
  simp only [left, Bool.and_eq_true, decide_eq_true_eq] at h
  obtain ⟨_, _, hb⟩ := best_in s l
  obtain ⟨hs, hl, hm, hm2⟩ := hb (by omega)
  by_cases hv : best s l = v
  · exact hv
  · exact absurd h.2 (best_pos (drop_areV hs hm hv) hl (drop_mem.mpr ⟨hm, hv⟩) hm2)
theorem lefts_uses (s : List Int) (v : Int) (r : List (List Int)) : ∀ n, ((lefts s (drop s v) n r).length : Int) ≤ if v < 1 then 0 else uses s v r := by
  induction r with
  | nil =>
    intro n
    simp [lefts, uses]
  | cons l r ih =>
    intro n
    have h := ih (n + 1)
    simp only [lefts]
    by_cases hl : left s (drop s v) l = true
    · have hb := left_best hl
      simp only [left, Bool.and_eq_true, decide_eq_true_eq] at hl
      rw [if_pos (by simp only [left, Bool.and_eq_true, decide_eq_true_eq]; exact hl)]
      rw [if_neg (by omega)] at h ⊢
      simp only [uses, if_pos hb, List.length_cons]
      omega
    · rw [if_neg hl]
      by_cases hv : v < 1
      · rw [if_pos hv] at h ⊢
        exact h
      · rw [if_neg hv] at h ⊢
        simp only [uses]
        split <;> omega
/-- How many lists reach the server. -/
def reach (s : List Int) : List (List Int) → Int
  | [] => 0
  | l :: r => (if best s l = 0 then 0 else 1) + reach s r
theorem reach_all (s : List Int) (r : List (List Int)) : 0 ≤ reach s r ∧ reach s r ≤ r.length ∧ (allR s r = true ↔ reach s r = r.length) := by
  induction r with
  | nil => simp [reach, allR]
  | cons l r ih =>
    obtain ⟨h0, h1, h2⟩ := ih
    have e : allR s (l :: r) = (decide (best s l ≠ 0) && allR s r) := rfl
    rw [e]
    simp only [reach, List.length_cons]
    by_cases hb : best s l = 0
    · rw [if_pos hb]
      simp [hb]
      omega
    · rw [if_neg hb]
      simp only [hb, ne_eq, not_false_eq_true, decide_true, Bool.true_and, h2]
      omega
theorem one_of (b : Int) (h0 : 0 ≤ b) (h9 : b ≤ 9) : (if b = 0 then (0 : Int) else 1) = (if b = 1 then 1 else 0) + (if b = 2 then 1 else 0) + (if b = 3 then 1 else 0) + (if b = 4 then 1 else 0) + (if b = 5 then 1 else 0) + (if b = 6 then 1 else 0) + (if b = 7 then 1 else 0) + (if b = 8 then 1 else 0) + (if b = 9 then 1 else 0) := by
  have h : b = 0 ∨ b = 1 ∨ b = 2 ∨ b = 3 ∨ b = 4 ∨ b = 5 ∨ b = 6 ∨ b = 7 ∨ b = 8 ∨ b = 9 := by omega
  rcases h with rfl | rfl | rfl | rfl | rfl | rfl | rfl | rfl | rfl | rfl <;> decide
theorem uses_sum (s : List Int) (r : List (List Int)) : uses s 1 r + uses s 2 r + uses s 3 r + uses s 4 r + uses s 5 r + uses s 6 r + uses s 7 r + uses s 8 r + uses s 9 r = reach s r := by
  induction r with
  | nil => simp [uses, reach]
  | cons l r ih =>
    have hb := best_in s l
    have := one_of (best s l) hb.1 hb.2.1
    simp only [uses, reach, this]
    rw [← ih]
    omega
/-- Who reached the server still does. -/
theorem still {s : List Int} {r : List (List Int)} {v : Int} : ∀ {n}, (lefts s (drop s v) n r).length = 0 → allR s r = true → allR (drop s v) r = true := by
  induction r with
  | nil =>
    intro n _ _
    rfl
  | cons l r ih =>
    intro n h ha
    have e : ∀ t, allR t (l :: r) = (decide (best t l ≠ 0) && allR t r) := fun _ => rfl
    rw [e, Bool.and_eq_true, decide_eq_true_eq] at ha ⊢
    simp only [lefts] at h
    by_cases hl : left s (drop s v) l = true
    · rw [if_pos hl] at h
      simp at h
    · rw [if_neg hl] at h
      refine ⟨fun h0 => hl ?_, ih h ha.2⟩
      have := best_in s l
      simp only [left, Bool.and_eq_true, decide_eq_true_eq]
      exact ⟨by omega, h0⟩
end Go.Proofs.Ytdoefkloanpliaa.Plain

/- Written by a program of this session (limx.py): the equations of what the printed functions come to. No condition. -/
namespace Go.Proofs.Ytdoefkloanpliaa.Print
open Go.RowKit Go.Proofs.YtdoefkloanpliaaW.PrintWords Go.Proofs.YtdoefkloanpliaaW.PrintLast Go.Proofs.Ytdoefkloanpliaa.Base
set_option linter.unusedVariables false
set_option maxRecDepth 20000
noncomputable def laws_szIntSS.l0v (x0 : List (List Int)) (x1 : Int) (x5 : Int) : Option (Int) := Lim fun k => laws_szIntSS.l0 k x0 x1 x5
noncomputable def laws_szIntSS.fv (l0 : List (List Int)) (a1 : Int) : Option (Int) := Lim fun k => laws_szIntSS.f k l0 a1
theorem laws_szIntSS.l0_is (x0 : List (List Int)) (x1 : Int) (x5 : Int) : Is (fun k => laws_szIntSS.l0 k x0 x1 x5) (laws_szIntSS.l0v x0 x1 x5) := ⟨fun k => (laws_szIntSS.mono_l k) x0 x1 x5, rfl⟩
theorem laws_szIntSS.f_is (l0 : List (List Int)) (a1 : Int) : Is (fun k => laws_szIntSS.f k l0 a1) (laws_szIntSS.fv l0 a1) := ⟨fun k => laws_szIntSS.mono l0 a1 k, rfl⟩
theorem laws_szIntSS.l0v_eq (x0 : List (List Int)) (x1 : Int) (x5 : Int) : laws_szIntSS.l0v x0 x1 x5 = if x5 < (x0.length : Int) then (if 0 ≤ x5 then ((laws_szIntS.f (rd_L1 x0 x5) x1).bind fun t102 => (if t102 < 0 then (some (-1)) else (laws_szIntSS.l0v x0 t102 (wrap64 (x5 + 1))))) else (none)) else (some x1) := by
  refine Is.step (laws_szIntSS.l0_is x0 x1 x5).mo (fun k => by rw [laws_szIntSS.l0]) ?_
  · skip
    repeat' first
    | with_reducible exact laws_szIntSS.l0_is _ _ _
    | with_reducible exact Is.now _
    | with_reducible refine Is.ite ?_ ?_
    | with_reducible refine Is.bind ?_ (fun _ => ?_)
theorem laws_szIntSS.fv_eq (l0 : List (List Int)) (a1 : Int) : laws_szIntSS.fv l0 a1 = if (wrap64 (a1 - (l0.length : Int))) < 0 then (some (-1)) else (laws_szIntSS.l0v l0 (wrap64 (a1 - (l0.length : Int))) 0) := by
  refine Is.lim (g := fun k => laws_szIntSS.f k l0 a1) ?_
  · unfold laws_szIntSS.f
    repeat' first
    | with_reducible exact laws_szIntSS.l0_is _ _ _
    | with_reducible exact Is.now _
    | with_reducible refine Is.ite ?_ ?_
    | with_reducible refine Is.bind ?_ (fun _ => ?_)
noncomputable def spec_AreVersions.l0v (x0 : List Int) (x3 : Int) : Option (Bool) := Lim fun k => spec_AreVersions.l0 k x0 x3
noncomputable def spec_AreVersions.fv (l0 : List Int) : Option (Bool) := Lim fun k => spec_AreVersions.f k l0
theorem spec_AreVersions.l0_is (x0 : List Int) (x3 : Int) : Is (fun k => spec_AreVersions.l0 k x0 x3) (spec_AreVersions.l0v x0 x3) := ⟨fun k => (spec_AreVersions.mono_l k) x0 x3, rfl⟩
theorem spec_AreVersions.f_is (l0 : List Int) : Is (fun k => spec_AreVersions.f k l0) (spec_AreVersions.fv l0) := ⟨fun k => spec_AreVersions.mono l0 k, rfl⟩
theorem spec_AreVersions.l0v_eq (x0 : List Int) (x3 : Int) : spec_AreVersions.l0v x0 x3 = if x3 < (x0.length : Int) then (if 0 ≤ x3 then ((spec_l1In.f (rd x0 x3) 1 9).bind fun t104 => (if t104 = true then (if x3 > 0 then (if 0 ≤ (wrap64 (x3 - 1)) then (if (wrap64 (x3 - 1)) < (x0.length : Int) then (if (rd x0 (wrap64 (x3 - 1))) ≥ (rd x0 x3) then (some false) else (spec_AreVersions.l0v x0 (wrap64 (x3 + 1)))) else (none)) else (none)) else (spec_AreVersions.l0v x0 (wrap64 (x3 + 1)))) else (some false))) else (none)) else (some (decide ((x0.length : Int) > 0))) := by
  refine Is.step (spec_AreVersions.l0_is x0 x3).mo (fun k => by rw [spec_AreVersions.l0]) ?_
  · skip
    repeat' first
    | with_reducible exact spec_AreVersions.l0_is _ _
    | with_reducible exact Is.now _
    | with_reducible refine Is.ite ?_ ?_
    | with_reducible refine Is.bind ?_ (fun _ => ?_)
theorem spec_AreVersions.fv_eq (l0 : List Int) : spec_AreVersions.fv l0 = spec_AreVersions.l0v l0 0 := by
  refine Is.lim (g := fun k => spec_AreVersions.f k l0) ?_
  · unfold spec_AreVersions.f
    repeat' first
    | with_reducible exact spec_AreVersions.l0_is _ _
    | with_reducible exact Is.now _
    | with_reducible refine Is.ite ?_ ?_
    | with_reducible refine Is.bind ?_ (fun _ => ?_)
noncomputable def spec_l9Has.l0v (x0 : List Int) (x1 : Int) (x5 : Int) : Option (Bool) := Lim fun k => spec_l9Has.l0 k x0 x1 x5
noncomputable def spec_l9Has.fv (l0 : List Int) (a1 : Int) : Option (Bool) := Lim fun k => spec_l9Has.f k l0 a1
theorem spec_l9Has.l0_is (x0 : List Int) (x1 : Int) (x5 : Int) : Is (fun k => spec_l9Has.l0 k x0 x1 x5) (spec_l9Has.l0v x0 x1 x5) := ⟨fun k => (spec_l9Has.mono_l k) x0 x1 x5, rfl⟩
theorem spec_l9Has.f_is (l0 : List Int) (a1 : Int) : Is (fun k => spec_l9Has.f k l0 a1) (spec_l9Has.fv l0 a1) := ⟨fun k => spec_l9Has.mono l0 a1 k, rfl⟩
theorem spec_l9Has.l0v_eq (x0 : List Int) (x1 : Int) (x5 : Int) : spec_l9Has.l0v x0 x1 x5 = if x5 < (x0.length : Int) then (if 0 ≤ x5 then (if (rd x0 x5) = x1 then (some true) else (spec_l9Has.l0v x0 x1 (wrap64 (x5 + 1)))) else (none)) else (some false) := by
  refine Is.step (spec_l9Has.l0_is x0 x1 x5).mo (fun k => by rw [spec_l9Has.l0]) ?_
  · skip
    repeat' first
    | with_reducible exact spec_l9Has.l0_is _ _ _
    | with_reducible exact Is.now _
    | with_reducible refine Is.ite ?_ ?_
    | with_reducible refine Is.bind ?_ (fun _ => ?_)
theorem spec_l9Has.fv_eq (l0 : List Int) (a1 : Int) : spec_l9Has.fv l0 a1 = spec_l9Has.l0v l0 a1 0 := by
  refine Is.lim (g := fun k => spec_l9Has.f k l0 a1) ?_
  · unfold spec_l9Has.f
    repeat' first
    | with_reducible exact spec_l9Has.l0_is _ _ _
    | with_reducible exact Is.now _
    | with_reducible refine Is.ite ?_ ?_
    | with_reducible refine Is.bind ?_ (fun _ => ?_)
noncomputable def spec_CommonOf.l0v (x0 : List Int) (x1 : List Int) (x5 : List Int) (x6 : Int) : Option (List Int) := Lim fun k => spec_CommonOf.l0 k x0 x1 x5 x6
noncomputable def spec_CommonOf.fv (l0 : List Int) (l1 : List Int) : Option (List Int) := Lim fun k => spec_CommonOf.f k l0 l1
theorem spec_CommonOf.l0_is (x0 : List Int) (x1 : List Int) (x5 : List Int) (x6 : Int) : Is (fun k => spec_CommonOf.l0 k x0 x1 x5 x6) (spec_CommonOf.l0v x0 x1 x5 x6) := ⟨fun k => (spec_CommonOf.mono_l k) x0 x1 x5 x6, rfl⟩
theorem spec_CommonOf.f_is (l0 : List Int) (l1 : List Int) : Is (fun k => spec_CommonOf.f k l0 l1) (spec_CommonOf.fv l0 l1) := ⟨fun k => spec_CommonOf.mono l0 l1 k, rfl⟩
theorem spec_CommonOf.l0v_eq (x0 : List Int) (x1 : List Int) (x5 : List Int) (x6 : Int) : spec_CommonOf.l0v x0 x1 x5 x6 = if x6 < (x0.length : Int) then (if 0 ≤ x6 then ((spec_l9Has.fv x1 (rd x0 x6)).bind fun t112 => (if t112 = true then (if x5.length < 17592186044416 then (spec_CommonOf.l0v x0 x1 (x5 ++ [rd x0 x6]) (wrap64 (x6 + 1))) else (none)) else (spec_CommonOf.l0v x0 x1 x5 (wrap64 (x6 + 1))))) else (none)) else (some x5) := by
  refine Is.step (spec_CommonOf.l0_is x0 x1 x5 x6).mo (fun k => by rw [spec_CommonOf.l0]) ?_
  · skip
    repeat' first
    | with_reducible exact spec_CommonOf.l0_is _ _ _ _
    | with_reducible exact spec_l9Has.f_is _ _
    | with_reducible exact Is.now _
    | with_reducible refine Is.ite ?_ ?_
    | with_reducible refine Is.bind ?_ (fun _ => ?_)
theorem spec_CommonOf.fv_eq (l0 : List Int) (l1 : List Int) : spec_CommonOf.fv l0 l1 = spec_CommonOf.l0v l0 l1 (([] : List Int)) 0 := by
  refine Is.lim (g := fun k => spec_CommonOf.f k l0 l1) ?_
  · unfold spec_CommonOf.f
    repeat' first
    | with_reducible exact spec_CommonOf.l0_is _ _ _ _
    | with_reducible exact Is.now _
    | with_reducible refine Is.ite ?_ ?_
    | with_reducible refine Is.bind ?_ (fun _ => ?_)
noncomputable def spec_BestCommon.fv (l0 : List Int) (l1 : List Int) : Option (Int) := Lim fun k => spec_BestCommon.f k l0 l1
theorem spec_BestCommon.f_is (l0 : List Int) (l1 : List Int) : Is (fun k => spec_BestCommon.f k l0 l1) (spec_BestCommon.fv l0 l1) := ⟨fun k => spec_BestCommon.mono l0 l1 k, rfl⟩
theorem spec_BestCommon.fv_eq (l0 : List Int) (l1 : List Int) : spec_BestCommon.fv l0 l1 = (spec_CommonOf.fv l0 l1).bind fun t117 => ((spec_AreVersions.fv l0).bind fun t120 => (if t120 = true then ((spec_AreVersions.fv l1).bind fun t121 => (if t121 = true then (if (t117.length : Int) = 0 then (some 0) else (if 0 ≤ (wrap64 ((t117.length : Int) - 1)) then (if (wrap64 ((t117.length : Int) - 1)) < (t117.length : Int) then (some (rd t117 (wrap64 ((t117.length : Int) - 1)))) else (none)) else (none))) else (some 0))) else (some 0))) := by
  refine Is.lim (g := fun k => spec_BestCommon.f k l0 l1) ?_
  · unfold spec_BestCommon.f
    repeat' first
    | with_reducible exact spec_AreVersions.f_is _
    | with_reducible exact spec_CommonOf.f_is _ _
    | with_reducible exact Is.now _
    | with_reducible refine Is.ite ?_ ?_
    | with_reducible refine Is.bind ?_ (fun _ => ?_)
end Go.Proofs.Ytdoefkloanpliaa.Print

/- Written by a program of this session (limx.py): the equations of what the printed functions come to. No condition. -/
namespace Go.Proofs.Ytdoefkloanpliaa.Print
open Go.RowKit Go.Proofs.YtdoefkloanpliaaW.PrintWords Go.Proofs.YtdoefkloanpliaaW.PrintLast Go.Proofs.Ytdoefkloanpliaa.Base
set_option linter.unusedVariables false
set_option maxRecDepth 20000
noncomputable def spec_UseOf.l0v (x0 : List Int) (x1 : List (List Int)) (x2 : Int) (x7 : Int) (x8 : Int) : Option (Int) := Lim fun k => spec_UseOf.l0 k x0 x1 x2 x7 x8
noncomputable def spec_UseOf.j1v (x0 : List Int) (x1 : List (List Int)) (x2 : Int) (x7 : Int) (x8 : Int) (x16 : Bool) : Option (Int) := Lim fun k => spec_UseOf.j1 k x0 x1 x2 x7 x8 x16
noncomputable def spec_UseOf.fv (l0 : List Int) (l1 : List (List Int)) (a2 : Int) : Option (Int) := Lim fun k => spec_UseOf.f k l0 l1 a2
theorem spec_UseOf.l0_is (x0 : List Int) (x1 : List (List Int)) (x2 : Int) (x7 : Int) (x8 : Int) : Is (fun k => spec_UseOf.l0 k x0 x1 x2 x7 x8) (spec_UseOf.l0v x0 x1 x2 x7 x8) := ⟨fun k => (spec_UseOf.mono_l k).1 x0 x1 x2 x7 x8, rfl⟩
theorem spec_UseOf.j1_is (x0 : List Int) (x1 : List (List Int)) (x2 : Int) (x7 : Int) (x8 : Int) (x16 : Bool) : Is (fun k => spec_UseOf.j1 k x0 x1 x2 x7 x8 x16) (spec_UseOf.j1v x0 x1 x2 x7 x8 x16) := ⟨fun k => (spec_UseOf.mono_l k).2 x0 x1 x2 x7 x8 x16, rfl⟩
theorem spec_UseOf.f_is (l0 : List Int) (l1 : List (List Int)) (a2 : Int) : Is (fun k => spec_UseOf.f k l0 l1 a2) (spec_UseOf.fv l0 l1 a2) := ⟨fun k => spec_UseOf.mono l0 l1 a2 k, rfl⟩
theorem spec_UseOf.l0v_eq (x0 : List Int) (x1 : List (List Int)) (x2 : Int) (x7 : Int) (x8 : Int) : spec_UseOf.l0v x0 x1 x2 x7 x8 = if x8 < (x1.length : Int) then (spec_UseOf.j1v x0 x1 x2 x7 x8 (decide (x2 ≥ 1))) else (spec_UseOf.j1v x0 x1 x2 x7 x8 false) := by
  refine Is.step (spec_UseOf.l0_is x0 x1 x2 x7 x8).mo (fun k => by rw [spec_UseOf.l0]) ?_
  · skip
    repeat' first
    | with_reducible exact spec_UseOf.j1_is _ _ _ _ _ _
    | with_reducible exact Is.now _
    | with_reducible refine Is.ite ?_ ?_
    | with_reducible refine Is.bind ?_ (fun _ => ?_)
theorem spec_UseOf.j1v_eq (x0 : List Int) (x1 : List (List Int)) (x2 : Int) (x7 : Int) (x8 : Int) (x16 : Bool) : spec_UseOf.j1v x0 x1 x2 x7 x8 x16 = if x16 = true then (if 0 ≤ x8 then (if x8 < (x1.length : Int) then ((spec_BestCommon.fv x0 (rd_L1 x1 x8)).bind fun t124 => (if t124 = x2 then (spec_UseOf.l0v x0 x1 x2 (wrap64 (x7 + 1)) (wrap64 (x8 + 1))) else (spec_UseOf.l0v x0 x1 x2 x7 (wrap64 (x8 + 1))))) else (none)) else (none)) else (some x7) := by
  refine Is.step (spec_UseOf.j1_is x0 x1 x2 x7 x8 x16).mo (fun k => by rw [spec_UseOf.j1]) ?_
  · skip
    repeat' first
    | with_reducible exact spec_BestCommon.f_is _ _
    | with_reducible exact spec_UseOf.l0_is _ _ _ _ _
    | with_reducible exact Is.now _
    | with_reducible refine Is.ite ?_ ?_
    | with_reducible refine Is.bind ?_ (fun _ => ?_)
theorem spec_UseOf.fv_eq (l0 : List Int) (l1 : List (List Int)) (a2 : Int) : spec_UseOf.fv l0 l1 a2 = spec_UseOf.l0v l0 l1 a2 0 0 := by
  refine Is.lim (g := fun k => spec_UseOf.f k l0 l1 a2) ?_
  · unfold spec_UseOf.f
    repeat' first
    | with_reducible exact spec_UseOf.l0_is _ _ _ _ _
    | with_reducible exact Is.now _
    | with_reducible refine Is.ite ?_ ?_
    | with_reducible refine Is.bind ?_ (fun _ => ?_)
noncomputable def laws_toIntS.l0v (x0 : List Int) (x3 : List Int) (x4 : Int) : Option (List Int) := Lim fun k => laws_toIntS.l0 k x0 x3 x4
noncomputable def laws_toIntS.fv (l0 : List Int) : Option (List Int) := Lim fun k => laws_toIntS.f k l0
theorem laws_toIntS.l0_is (x0 : List Int) (x3 : List Int) (x4 : Int) : Is (fun k => laws_toIntS.l0 k x0 x3 x4) (laws_toIntS.l0v x0 x3 x4) := ⟨fun k => (laws_toIntS.mono_l k) x0 x3 x4, rfl⟩
theorem laws_toIntS.f_is (l0 : List Int) : Is (fun k => laws_toIntS.f k l0) (laws_toIntS.fv l0) := ⟨fun k => laws_toIntS.mono l0 k, rfl⟩
theorem laws_toIntS.l0v_eq (x0 : List Int) (x3 : List Int) (x4 : Int) : laws_toIntS.l0v x0 x3 x4 = if x4 < (x0.length : Int) then (if 0 ≤ x4 then (if x4 < (x3.length : Int) then (laws_toIntS.l0v x0 (x3.set (x4 : Int).toNat (rd x0 x4)) (wrap64 (x4 + 1))) else (none)) else (none)) else (some x3) := by
  refine Is.step (laws_toIntS.l0_is x0 x3 x4).mo (fun k => by rw [laws_toIntS.l0]) ?_
  · skip
    repeat' first
    | with_reducible exact laws_toIntS.l0_is _ _ _
    | with_reducible exact Is.now _
    | with_reducible refine Is.ite ?_ ?_
    | with_reducible refine Is.bind ?_ (fun _ => ?_)
theorem laws_toIntS.fv_eq (l0 : List Int) : laws_toIntS.fv l0 = if 0 ≤ (l0.length : Int) then (if ((l0.length : Int) : Int).toNat ≤ 35184372088832 then (laws_toIntS.l0v l0 (List.replicate ((l0.length : Int) : Int).toNat 0) 0) else (none)) else (none) := by
  refine Is.lim (g := fun k => laws_toIntS.f k l0) ?_
  · unfold laws_toIntS.f
    repeat' first
    | with_reducible exact laws_toIntS.l0_is _ _ _
    | with_reducible exact Is.now _
    | with_reducible refine Is.ite ?_ ?_
    | with_reducible refine Is.bind ?_ (fun _ => ?_)
noncomputable def laws_toIntSS.l0v (x0 : List (List Int)) (x3 : List (List Int)) (x4 : Int) : Option ((List (List Int))) := Lim fun k => laws_toIntSS.l0 k x0 x3 x4
noncomputable def laws_toIntSS.fv (l0 : List (List Int)) : Option ((List (List Int))) := Lim fun k => laws_toIntSS.f k l0
theorem laws_toIntSS.l0_is (x0 : List (List Int)) (x3 : List (List Int)) (x4 : Int) : Is (fun k => laws_toIntSS.l0 k x0 x3 x4) (laws_toIntSS.l0v x0 x3 x4) := ⟨fun k => (laws_toIntSS.mono_l k) x0 x3 x4, rfl⟩
theorem laws_toIntSS.f_is (l0 : List (List Int)) : Is (fun k => laws_toIntSS.f k l0) (laws_toIntSS.fv l0) := ⟨fun k => laws_toIntSS.mono l0 k, rfl⟩
theorem laws_toIntSS.l0v_eq (x0 : List (List Int)) (x3 : List (List Int)) (x4 : Int) : laws_toIntSS.l0v x0 x3 x4 = if x4 < (x0.length : Int) then (if 0 ≤ x4 then ((laws_toIntS.fv (rd_L1 x0 x4)).bind fun t134 => (if x4 < (x3.length : Int) then (laws_toIntSS.l0v x0 (x3.set (x4 : Int).toNat t134) (wrap64 (x4 + 1))) else (none))) else (none)) else (some x3) := by
  refine Is.step (laws_toIntSS.l0_is x0 x3 x4).mo (fun k => by rw [laws_toIntSS.l0]) ?_
  · skip
    repeat' first
    | with_reducible exact laws_toIntS.f_is _
    | with_reducible exact laws_toIntSS.l0_is _ _ _
    | with_reducible exact Is.now _
    | with_reducible refine Is.ite ?_ ?_
    | with_reducible refine Is.bind ?_ (fun _ => ?_)
theorem laws_toIntSS.fv_eq (l0 : List (List Int)) : laws_toIntSS.fv l0 = if 0 ≤ (l0.length : Int) then (if ((l0.length : Int) : Int).toNat ≤ 11728124029610 then (laws_toIntSS.l0v l0 (List.replicate ((l0.length : Int) : Int).toNat []) 0) else (none)) else (none) := by
  refine Is.lim (g := fun k => laws_toIntSS.f k l0) ?_
  · unfold laws_toIntSS.f
    repeat' first
    | with_reducible exact laws_toIntSS.l0_is _ _ _
    | with_reducible exact Is.now _
    | with_reducible refine Is.ite ?_ ?_
    | with_reducible refine Is.bind ?_ (fun _ => ?_)
noncomputable def impl_AreVersions.l0v (x0 : List Int) (x5 : List Int) (x6 : Int) (x7 : Int) : Option (Bool) := Lim fun k => impl_AreVersions.l0 k x0 x5 x6 x7
noncomputable def impl_AreVersions.fv (l0 : List Int) : Option (Bool) := Lim fun k => impl_AreVersions.f k l0
theorem impl_AreVersions.l0_is (x0 : List Int) (x5 : List Int) (x6 : Int) (x7 : Int) : Is (fun k => impl_AreVersions.l0 k x0 x5 x6 x7) (impl_AreVersions.l0v x0 x5 x6 x7) := ⟨fun k => (impl_AreVersions.mono_l k) x0 x5 x6 x7, rfl⟩
theorem impl_AreVersions.f_is (l0 : List Int) : Is (fun k => impl_AreVersions.f k l0) (impl_AreVersions.fv l0) := ⟨fun k => impl_AreVersions.mono l0 k, rfl⟩
theorem impl_AreVersions.l0v_eq (x0 : List Int) (x5 : List Int) (x6 : Int) (x7 : Int) : impl_AreVersions.l0v x0 x5 x6 x7 = if x7 < x6 then (if 0 ≤ x7 then (if x7 < (x5.length : Int) then ((impl_InRange.f (rd x5 x7) 1 9).bind fun t139 => (if t139 = true then (if x7 > 0 then (if 0 ≤ (wrap64 (x7 - 1)) then (if (wrap64 (x7 - 1)) < (x0.length : Int) then (if (rd x0 (wrap64 (x7 - 1))) ≥ (rd x5 x7) then (some false) else (impl_AreVersions.l0v x0 x5 x6 (wrap64 (x7 + 1)))) else (none)) else (none)) else (impl_AreVersions.l0v x0 x5 x6 (wrap64 (x7 + 1)))) else (some false))) else (none)) else (none)) else (some (decide ((x0.length : Int) > 0))) := by
  refine Is.step (impl_AreVersions.l0_is x0 x5 x6 x7).mo (fun k => by rw [impl_AreVersions.l0]) ?_
  · skip
    repeat' first
    | with_reducible exact impl_AreVersions.l0_is _ _ _ _
    | with_reducible exact Is.now _
    | with_reducible refine Is.ite ?_ ?_
    | with_reducible refine Is.bind ?_ (fun _ => ?_)
theorem impl_AreVersions.fv_eq (l0 : List Int) : impl_AreVersions.fv l0 = impl_AreVersions.l0v l0 l0 (l0.length : Int) 0 := by
  refine Is.lim (g := fun k => impl_AreVersions.f k l0) ?_
  · unfold impl_AreVersions.f
    repeat' first
    | with_reducible exact impl_AreVersions.l0_is _ _ _ _
    | with_reducible exact Is.now _
    | with_reducible refine Is.ite ?_ ?_
    | with_reducible refine Is.bind ?_ (fun _ => ?_)
noncomputable def slices_Index_int_int.l0v (x0 : List Int) (x1 : Int) (x7 : Int) (x8 : Int) : Option (Int) := Lim fun k => slices_Index_int_int.l0 k x0 x1 x7 x8
noncomputable def slices_Index_int_int.fv (l0 : List Int) (a1 : Int) : Option (Int) := Lim fun k => slices_Index_int_int.f k l0 a1
theorem slices_Index_int_int.l0_is (x0 : List Int) (x1 : Int) (x7 : Int) (x8 : Int) : Is (fun k => slices_Index_int_int.l0 k x0 x1 x7 x8) (slices_Index_int_int.l0v x0 x1 x7 x8) := ⟨fun k => (slices_Index_int_int.mono_l k) x0 x1 x7 x8, rfl⟩
theorem slices_Index_int_int.f_is (l0 : List Int) (a1 : Int) : Is (fun k => slices_Index_int_int.f k l0 a1) (slices_Index_int_int.fv l0 a1) := ⟨fun k => slices_Index_int_int.mono l0 a1 k, rfl⟩
theorem slices_Index_int_int.l0v_eq (x0 : List Int) (x1 : Int) (x7 : Int) (x8 : Int) : slices_Index_int_int.l0v x0 x1 x7 x8 = if x8 < x7 then (if 0 ≤ x8 then (if x8 < (x0.length : Int) then (if x1 = (rd x0 x8) then (some x8) else (slices_Index_int_int.l0v x0 x1 x7 (wrap64 (x8 + 1)))) else (none)) else (none)) else (some (-1)) := by
  refine Is.step (slices_Index_int_int.l0_is x0 x1 x7 x8).mo (fun k => by rw [slices_Index_int_int.l0]) ?_
  · skip
    repeat' first
    | with_reducible exact slices_Index_int_int.l0_is _ _ _ _
    | with_reducible exact Is.now _
    | with_reducible refine Is.ite ?_ ?_
    | with_reducible refine Is.bind ?_ (fun _ => ?_)
theorem slices_Index_int_int.fv_eq (l0 : List Int) (a1 : Int) : slices_Index_int_int.fv l0 a1 = slices_Index_int_int.l0v l0 a1 (l0.length : Int) 0 := by
  refine Is.lim (g := fun k => slices_Index_int_int.f k l0 a1) ?_
  · unfold slices_Index_int_int.f
    repeat' first
    | with_reducible exact slices_Index_int_int.l0_is _ _ _ _
    | with_reducible exact Is.now _
    | with_reducible refine Is.ite ?_ ?_
    | with_reducible refine Is.bind ?_ (fun _ => ?_)
noncomputable def slices_Contains_int_int.fv (l0 : List Int) (a1 : Int) : Option (Bool) := Lim fun k => slices_Contains_int_int.f k l0 a1
theorem slices_Contains_int_int.f_is (l0 : List Int) (a1 : Int) : Is (fun k => slices_Contains_int_int.f k l0 a1) (slices_Contains_int_int.fv l0 a1) := ⟨fun k => slices_Contains_int_int.mono l0 a1 k, rfl⟩
theorem slices_Contains_int_int.fv_eq (l0 : List Int) (a1 : Int) : slices_Contains_int_int.fv l0 a1 = (slices_Index_int_int.fv l0 a1).bind fun t142 => (some (decide (t142 ≥ 0))) := by
  refine Is.lim (g := fun k => slices_Contains_int_int.f k l0 a1) ?_
  · unfold slices_Contains_int_int.f
    repeat' first
    | with_reducible exact slices_Index_int_int.f_is _ _
    | with_reducible exact Is.now _
    | with_reducible refine Is.ite ?_ ?_
    | with_reducible refine Is.bind ?_ (fun _ => ?_)
end Go.Proofs.Ytdoefkloanpliaa.Print

/- Written by a program of this session (limx.py): the equations of what the printed functions come to. No condition. -/
namespace Go.Proofs.Ytdoefkloanpliaa.Print
open Go.RowKit Go.Proofs.YtdoefkloanpliaaW.PrintWords Go.Proofs.YtdoefkloanpliaaW.PrintLast Go.Proofs.Ytdoefkloanpliaa.Base
set_option linter.unusedVariables false
set_option maxRecDepth 20000
noncomputable def impl_CommonOf.l0v (x1 : List Int) (x5 : List Int) (x9 : List Int) (x10 : Int) (x11 : Int) : Option (List Int) := Lim fun k => impl_CommonOf.l0 k x1 x5 x9 x10 x11
noncomputable def impl_CommonOf.fv (l0 : List Int) (l1 : List Int) : Option (List Int) := Lim fun k => impl_CommonOf.f k l0 l1
theorem impl_CommonOf.l0_is (x1 : List Int) (x5 : List Int) (x9 : List Int) (x10 : Int) (x11 : Int) : Is (fun k => impl_CommonOf.l0 k x1 x5 x9 x10 x11) (impl_CommonOf.l0v x1 x5 x9 x10 x11) := ⟨fun k => (impl_CommonOf.mono_l k) x1 x5 x9 x10 x11, rfl⟩
theorem impl_CommonOf.f_is (l0 : List Int) (l1 : List Int) : Is (fun k => impl_CommonOf.f k l0 l1) (impl_CommonOf.fv l0 l1) := ⟨fun k => impl_CommonOf.mono l0 l1 k, rfl⟩
theorem impl_CommonOf.l0v_eq (x1 : List Int) (x5 : List Int) (x9 : List Int) (x10 : Int) (x11 : Int) : impl_CommonOf.l0v x1 x5 x9 x10 x11 = if x11 < x10 then (if 0 ≤ x11 then (if x11 < (x9.length : Int) then ((slices_Contains_int_int.fv x1 (rd x9 x11)).bind fun t147 => (if t147 = true then (if x5.length < 17592186044416 then (impl_CommonOf.l0v x1 (x5 ++ [rd x9 x11]) x9 x10 (wrap64 (x11 + 1))) else (none)) else (impl_CommonOf.l0v x1 x5 x9 x10 (wrap64 (x11 + 1))))) else (none)) else (none)) else (some x5) := by
  refine Is.step (impl_CommonOf.l0_is x1 x5 x9 x10 x11).mo (fun k => by rw [impl_CommonOf.l0]) ?_
  · skip
    repeat' first
    | with_reducible exact impl_CommonOf.l0_is _ _ _ _ _
    | with_reducible exact slices_Contains_int_int.f_is _ _
    | with_reducible exact Is.now _
    | with_reducible refine Is.ite ?_ ?_
    | with_reducible refine Is.bind ?_ (fun _ => ?_)
theorem impl_CommonOf.fv_eq (l0 : List Int) (l1 : List Int) : impl_CommonOf.fv l0 l1 = impl_CommonOf.l0v l1 (([] : List Int)) l0 (l0.length : Int) 0 := by
  refine Is.lim (g := fun k => impl_CommonOf.f k l0 l1) ?_
  · unfold impl_CommonOf.f
    repeat' first
    | with_reducible exact impl_CommonOf.l0_is _ _ _ _ _
    | with_reducible exact Is.now _
    | with_reducible refine Is.ite ?_ ?_
    | with_reducible refine Is.bind ?_ (fun _ => ?_)
noncomputable def impl_BestCommon.j0v (x0 : List Int) (x1 : List Int) (x15 : Bool) : Option (Int) := Lim fun k => impl_BestCommon.j0 k x0 x1 x15
noncomputable def impl_BestCommon.l0v (x5 : Int) (x18 : List Int) (x19 : Int) (x20 : Int) : Option (Int) := Lim fun k => impl_BestCommon.l0 k x5 x18 x19 x20
noncomputable def impl_BestCommon.fv (l0 : List Int) (l1 : List Int) : Option (Int) := Lim fun k => impl_BestCommon.f k l0 l1
theorem impl_BestCommon.j0_is (x0 : List Int) (x1 : List Int) (x15 : Bool) : Is (fun k => impl_BestCommon.j0 k x0 x1 x15) (impl_BestCommon.j0v x0 x1 x15) := ⟨fun k => (impl_BestCommon.mono_l k).1 x0 x1 x15, rfl⟩
theorem impl_BestCommon.l0_is (x5 : Int) (x18 : List Int) (x19 : Int) (x20 : Int) : Is (fun k => impl_BestCommon.l0 k x5 x18 x19 x20) (impl_BestCommon.l0v x5 x18 x19 x20) := ⟨fun k => (impl_BestCommon.mono_l k).2 x5 x18 x19 x20, rfl⟩
theorem impl_BestCommon.f_is (l0 : List Int) (l1 : List Int) : Is (fun k => impl_BestCommon.f k l0 l1) (impl_BestCommon.fv l0 l1) := ⟨fun k => impl_BestCommon.mono l0 l1 k, rfl⟩
theorem impl_BestCommon.j0v_eq (x0 : List Int) (x1 : List Int) (x15 : Bool) : impl_BestCommon.j0v x0 x1 x15 = if x15 = true then (some 0) else ((impl_CommonOf.fv x0 x1).bind fun t153 => (impl_BestCommon.l0v 0 t153 (t153.length : Int) 0)) := by
  refine Is.step (impl_BestCommon.j0_is x0 x1 x15).mo (fun k => by rw [impl_BestCommon.j0]) ?_
  · skip
    repeat' first
    | with_reducible exact impl_BestCommon.l0_is _ _ _ _
    | with_reducible exact impl_CommonOf.f_is _ _
    | with_reducible exact Is.now _
    | with_reducible refine Is.ite ?_ ?_
    | with_reducible refine Is.bind ?_ (fun _ => ?_)
theorem impl_BestCommon.l0v_eq (x5 : Int) (x18 : List Int) (x19 : Int) (x20 : Int) : impl_BestCommon.l0v x5 x18 x19 x20 = if x20 < x19 then (if 0 ≤ x20 then (if x20 < (x18.length : Int) then (impl_BestCommon.l0v (mx x5 (rd x18 x20)) x18 x19 (wrap64 (x20 + 1))) else (none)) else (none)) else (some x5) := by
  refine Is.step (impl_BestCommon.l0_is x5 x18 x19 x20).mo (fun k => by rw [impl_BestCommon.l0]) ?_
  · skip
    repeat' first
    | with_reducible exact impl_BestCommon.l0_is _ _ _ _
    | with_reducible exact Is.now _
    | with_reducible refine Is.ite ?_ ?_
    | with_reducible refine Is.bind ?_ (fun _ => ?_)
theorem impl_BestCommon.fv_eq (l0 : List Int) (l1 : List Int) : impl_BestCommon.fv l0 l1 = (impl_AreVersions.fv l0).bind fun t151 => (if t151 = true then ((impl_AreVersions.fv l1).bind fun t152 => (impl_BestCommon.j0v l0 l1 (!t152))) else (impl_BestCommon.j0v l0 l1 true)) := by
  refine Is.lim (g := fun k => impl_BestCommon.f k l0 l1) ?_
  · unfold impl_BestCommon.f
    repeat' first
    | with_reducible exact impl_AreVersions.f_is _
    | with_reducible exact impl_BestCommon.j0_is _ _ _
    | with_reducible exact Is.now _
    | with_reducible refine Is.ite ?_ ?_
    | with_reducible refine Is.bind ?_ (fun _ => ?_)
noncomputable def impl_UseOf.l0v (x0 : List Int) (x2 : Int) (x7 : Int) (x12 : List (List Int)) (x13 : Int) (x14 : Int) : Option (Int) := Lim fun k => impl_UseOf.l0 k x0 x2 x7 x12 x13 x14
noncomputable def impl_UseOf.fv (l0 : List Int) (l1 : List (List Int)) (a2 : Int) : Option (Int) := Lim fun k => impl_UseOf.f k l0 l1 a2
theorem impl_UseOf.l0_is (x0 : List Int) (x2 : Int) (x7 : Int) (x12 : List (List Int)) (x13 : Int) (x14 : Int) : Is (fun k => impl_UseOf.l0 k x0 x2 x7 x12 x13 x14) (impl_UseOf.l0v x0 x2 x7 x12 x13 x14) := ⟨fun k => (impl_UseOf.mono_l k) x0 x2 x7 x12 x13 x14, rfl⟩
theorem impl_UseOf.f_is (l0 : List Int) (l1 : List (List Int)) (a2 : Int) : Is (fun k => impl_UseOf.f k l0 l1 a2) (impl_UseOf.fv l0 l1 a2) := ⟨fun k => impl_UseOf.mono l0 l1 a2 k, rfl⟩
theorem impl_UseOf.l0v_eq (x0 : List Int) (x2 : Int) (x7 : Int) (x12 : List (List Int)) (x13 : Int) (x14 : Int) : impl_UseOf.l0v x0 x2 x7 x12 x13 x14 = if x14 < x13 then (if 0 ≤ x14 then (if x14 < (x12.length : Int) then ((impl_BestCommon.fv x0 (rd_L1 x12 x14)).bind fun t158 => (if t158 = x2 then (impl_UseOf.l0v x0 x2 (wrap64 (x7 + 1)) x12 x13 (wrap64 (x14 + 1))) else (impl_UseOf.l0v x0 x2 x7 x12 x13 (wrap64 (x14 + 1))))) else (none)) else (none)) else (some x7) := by
  refine Is.step (impl_UseOf.l0_is x0 x2 x7 x12 x13 x14).mo (fun k => by rw [impl_UseOf.l0]) ?_
  · skip
    repeat' first
    | with_reducible exact impl_BestCommon.f_is _ _
    | with_reducible exact impl_UseOf.l0_is _ _ _ _ _ _
    | with_reducible exact Is.now _
    | with_reducible refine Is.ite ?_ ?_
    | with_reducible refine Is.bind ?_ (fun _ => ?_)
theorem impl_UseOf.fv_eq (l0 : List Int) (l1 : List (List Int)) (a2 : Int) : impl_UseOf.fv l0 l1 a2 = if a2 < 1 then (some 0) else (impl_UseOf.l0v l0 a2 0 l1 (l1.length : Int) 0) := by
  refine Is.lim (g := fun k => impl_UseOf.f k l0 l1 a2) ?_
  · unfold impl_UseOf.f
    repeat' first
    | with_reducible exact impl_UseOf.l0_is _ _ _ _ _ _
    | with_reducible exact Is.now _
    | with_reducible refine Is.ite ?_ ?_
    | with_reducible refine Is.bind ?_ (fun _ => ?_)
noncomputable def laws_eqIntS.l0v (x0 : List Int) (x1 : List Int) (x5 : Int) : Option (Bool) := Lim fun k => laws_eqIntS.l0 k x0 x1 x5
noncomputable def laws_eqIntS.fv (l0 : List Int) (l1 : List Int) : Option (Bool) := Lim fun k => laws_eqIntS.f k l0 l1
theorem laws_eqIntS.l0_is (x0 : List Int) (x1 : List Int) (x5 : Int) : Is (fun k => laws_eqIntS.l0 k x0 x1 x5) (laws_eqIntS.l0v x0 x1 x5) := ⟨fun k => (laws_eqIntS.mono_l k) x0 x1 x5, rfl⟩
theorem laws_eqIntS.f_is (l0 : List Int) (l1 : List Int) : Is (fun k => laws_eqIntS.f k l0 l1) (laws_eqIntS.fv l0 l1) := ⟨fun k => laws_eqIntS.mono l0 l1 k, rfl⟩
theorem laws_eqIntS.l0v_eq (x0 : List Int) (x1 : List Int) (x5 : Int) : laws_eqIntS.l0v x0 x1 x5 = if x5 < (x0.length : Int) then (if 0 ≤ x5 then (if x5 < (x1.length : Int) then (if (rd x0 x5) = (rd x1 x5) then (laws_eqIntS.l0v x0 x1 (wrap64 (x5 + 1))) else (some false)) else (none)) else (none)) else (some true) := by
  refine Is.step (laws_eqIntS.l0_is x0 x1 x5).mo (fun k => by rw [laws_eqIntS.l0]) ?_
  · skip
    repeat' first
    | with_reducible exact laws_eqIntS.l0_is _ _ _
    | with_reducible exact Is.now _
    | with_reducible refine Is.ite ?_ ?_
    | with_reducible refine Is.bind ?_ (fun _ => ?_)
theorem laws_eqIntS.fv_eq (l0 : List Int) (l1 : List Int) : laws_eqIntS.fv l0 l1 = if (l0.length : Int) = (l1.length : Int) then (laws_eqIntS.l0v l0 l1 0) else (some false) := by
  refine Is.lim (g := fun k => laws_eqIntS.f k l0 l1) ?_
  · unfold laws_eqIntS.f
    repeat' first
    | with_reducible exact laws_eqIntS.l0_is _ _ _
    | with_reducible exact Is.now _
    | with_reducible refine Is.ite ?_ ?_
    | with_reducible refine Is.bind ?_ (fun _ => ?_)
noncomputable def laws_eqIntSS.l0v (x0 : List (List Int)) (x1 : List (List Int)) (x5 : Int) : Option (Bool) := Lim fun k => laws_eqIntSS.l0 k x0 x1 x5
noncomputable def laws_eqIntSS.fv (l0 : List (List Int)) (l1 : List (List Int)) : Option (Bool) := Lim fun k => laws_eqIntSS.f k l0 l1
theorem laws_eqIntSS.l0_is (x0 : List (List Int)) (x1 : List (List Int)) (x5 : Int) : Is (fun k => laws_eqIntSS.l0 k x0 x1 x5) (laws_eqIntSS.l0v x0 x1 x5) := ⟨fun k => (laws_eqIntSS.mono_l k) x0 x1 x5, rfl⟩
theorem laws_eqIntSS.f_is (l0 : List (List Int)) (l1 : List (List Int)) : Is (fun k => laws_eqIntSS.f k l0 l1) (laws_eqIntSS.fv l0 l1) := ⟨fun k => laws_eqIntSS.mono l0 l1 k, rfl⟩
theorem laws_eqIntSS.l0v_eq (x0 : List (List Int)) (x1 : List (List Int)) (x5 : Int) : laws_eqIntSS.l0v x0 x1 x5 = if x5 < (x0.length : Int) then (if 0 ≤ x5 then (if x5 < (x1.length : Int) then ((laws_eqIntS.fv (rd_L1 x0 x5) (rd_L1 x1 x5)).bind fun t163 => (if t163 = true then (laws_eqIntSS.l0v x0 x1 (wrap64 (x5 + 1))) else (some false))) else (none)) else (none)) else (some true) := by
  refine Is.step (laws_eqIntSS.l0_is x0 x1 x5).mo (fun k => by rw [laws_eqIntSS.l0]) ?_
  · skip
    repeat' first
    | with_reducible exact laws_eqIntS.f_is _ _
    | with_reducible exact laws_eqIntSS.l0_is _ _ _
    | with_reducible exact Is.now _
    | with_reducible refine Is.ite ?_ ?_
    | with_reducible refine Is.bind ?_ (fun _ => ?_)
theorem laws_eqIntSS.fv_eq (l0 : List (List Int)) (l1 : List (List Int)) : laws_eqIntSS.fv l0 l1 = if (l0.length : Int) = (l1.length : Int) then (laws_eqIntSS.l0v l0 l1 0) else (some false) := by
  refine Is.lim (g := fun k => laws_eqIntSS.f k l0 l1) ?_
  · unfold laws_eqIntSS.f
    repeat' first
    | with_reducible exact laws_eqIntSS.l0_is _ _ _
    | with_reducible exact Is.now _
    | with_reducible refine Is.ite ?_ ?_
    | with_reducible refine Is.bind ?_ (fun _ => ?_)
end Go.Proofs.Ytdoefkloanpliaa.Print

/- What the law's own helpers on slices of whole numbers come to: a copy, equality, marks. Condition: the slice has at most 2 to the 40 numbers. -/
set_option linter.unusedSimpArgs false
set_option linter.unusedVariables false
namespace Go.Proofs.Ytdoefkloanpliaa.Plain
open Go.RowKit Go.Proofs.YtdoefkloanpliaaW.PrintWords Go.Proofs.Ytdoefkloanpliaa.Base Go.Proofs.Ytdoefkloanpliaa.Print

theorem toIntS_l0 (suf : List Int) : ∀ (pre rest : List Int), rest.length = suf.length → (pre ++ suf).length ≤ 1000000000000 → laws_toIntS.l0v (pre ++ suf) (pre ++ rest) (pre.length : Int) = some (pre ++ suf) := by
  induction suf with
  | nil =>
    intro pre rest hr _
    rw [laws_toIntS.l0v_eq, if_neg (nlt_end pre)]
    simp at hr
    rw [hr]
  | cons x suf ih =>
    intro pre rest hr hl
    cases rest with
    | nil => simp at hr
    | cons y rest =>
      have hn : pre.length < (pre ++ x :: suf).length := by simp
      rw [laws_toIntS.l0v_eq, if_pos (lt_mid pre suf x), if_pos (by omega), if_pos (lt_mid pre rest y), rd_mid, set_mid, up_mid pre x hn hl]
      rw [mid_snoc pre suf x] at hl ⊢
      have h1 := ih (pre ++ [x]) rest (by simpa using hr) hl
      simp only [List.length_append, List.length_cons, List.length_nil] at h1 ⊢
      exact h1

theorem toIntS_v (l : List Int) (hl : l.length ≤ 1000000000000) : laws_toIntS.fv l = some l := by
  rw [laws_toIntS.fv_eq, if_pos (by omega), if_pos (by omega)]
  have h := toIntS_l0 l [] (List.replicate ((l.length : Int) : Int).toNat 0) (by simp) (by simpa using hl)
  simpa using h

theorem eqIntS_l0 (sa : List Int) : ∀ (pre sb : List Int), sb.length = sa.length → (pre ++ sa).length ≤ 1000000000000 → laws_eqIntS.l0v (pre ++ sa) (pre ++ sb) (pre.length : Int) = some (decide (sa = sb)) := by
  induction sa with
  | nil =>
    intro pre sb hr _
    rw [laws_eqIntS.l0v_eq, if_neg (nlt_end pre)]
    simp at hr
    simp [hr]
  | cons x sa ih =>
    intro pre sb hr hl
    cases sb with
    | nil => simp at hr
    | cons y sb =>
      have hn : pre.length < (pre ++ x :: sa).length := by simp
      rw [laws_eqIntS.l0v_eq, if_pos (lt_mid pre sa x), if_pos (by omega), if_pos (lt_mid pre sb y), rd_mid, rd_mid, up_mid pre x hn hl]
      by_cases hxy : x = y
      · subst hxy
        rw [if_pos rfl]
        rw [mid_snoc pre sa x] at hl ⊢
        rw [mid_snoc pre sb x]
        rw [ih (pre ++ [x]) sb (by simpa using hr) hl]
        simp
      · rw [if_neg hxy]
        simp [hxy]

theorem eqIntS_v (a b : List Int) (hl : a.length ≤ 1000000000000) : laws_eqIntS.fv a b = some (decide (a = b)) := by
  rw [laws_eqIntS.fv_eq]
  by_cases h : a.length = b.length
  · rw [if_pos (by omega)]
    have h1 := eqIntS_l0 a [] b h.symm (by simpa using hl)
    simpa using h1
  · rw [if_neg (by omega)]
    have : a ≠ b := fun e => h (by rw [e])
    simp [this]
end Go.Proofs.Ytdoefkloanpliaa.Plain

/- What is left of a size, row by row. Condition: at most 2 to the 20 is left. -/
set_option linter.unusedSimpArgs false
set_option linter.unusedVariables false
namespace Go.Proofs.Ytdoefkloanpliaa.Plain
open Go.RowKit Go.Proofs.YtdoefkloanpliaaW.PrintWords Go.Proofs.Ytdoefkloanpliaa.Base Go.Proofs.Ytdoefkloanpliaa.Print

theorem szIntS_f (l : List Int) (n : Int) (h0 : 0 ≤ n) (h : n ≤ 1048576) (hl : l.length ≤ 1000000000000000000) : laws_szIntS.f l n = some (if n < l.length then -1 else n - l.length) := by
  unfold laws_szIntS.f
  rw [w64 (by omega) (by omega)]
  by_cases hc : n < l.length
  · rw [if_pos (by omega), if_pos hc]
  · rw [if_neg (by omega), if_neg hc]
/-- What is left of n behind the rows, each with a size of its own; -1 where they are too large. -/
def sizes {α : Type} (f : α → Nat) : List α → Int → Int
  | [], n => n
  | x :: l, n => if n < (f x : Int) then -1 else sizes f l (n - (f x : Int))
/-- The same, with one for each row. -/
def sizeOf1 {α : Type} (f : α → Nat) (l : List α) (n : Int) : Int := if n < (l.length : Int) then -1 else sizes f l (n - (l.length : Int))
theorem sizes_le {α : Type} (f : α → Nat) (l : List α) : ∀ n : Int, 0 ≤ sizes f l n → sizes f l n ≤ n ∧ ∀ x ∈ l, (f x : Int) ≤ n := by
  induction l with
  | nil =>
    intro n h
    exact ⟨Int.le_refl _, fun x hx => by cases hx⟩
  | cons y l ih =>
    intro n h
    simp only [sizes] at h ⊢
    by_cases hc : n < (f y : Int)
    · rw [if_pos hc] at h
      omega
    · rw [if_neg hc] at h ⊢
      obtain ⟨h1, h2⟩ := ih _ h
      refine ⟨by omega, fun x hx => ?_⟩
      cases hx with
      | head => omega
      | tail _ hx =>
        have := h2 x hx
        omega
theorem sizeOf1_le {α : Type} (f : α → Nat) (l : List α) (n : Int) (h : 0 ≤ sizeOf1 f l n) : sizeOf1 f l n ≤ n ∧ (l.length : Int) ≤ n ∧ ∀ x ∈ l, (f x : Int) ≤ n := by
  unfold sizeOf1 at h ⊢
  by_cases hc : n < (l.length : Int)
  · rw [if_pos hc] at h
    omega
  · rw [if_neg hc] at h ⊢
    obtain ⟨h1, h2⟩ := sizes_le f l _ h
    exact ⟨by omega, by omega, fun x hx => by
      have := h2 x hx
      omega⟩
theorem sizes_neg {α : Type} (f : α → Nat) (l : List α) : ∀ n : Int, 0 ≤ n → sizes f l n < 0 → sizes f l n = -1 := by
  induction l with
  | nil =>
    intro n h0 h
    simp only [sizes] at h
    omega
  | cons y l ih =>
    intro n h0 h
    simp only [sizes] at h ⊢
    by_cases hc : n < (f y : Int)
    · rw [if_pos hc]
    · rw [if_neg hc] at h ⊢
      exact ih _ (by omega) h
end Go.Proofs.Ytdoefkloanpliaa.Plain

/- What the law's own helpers on slices of slices of whole numbers come to: the size, a copy, equality. Condition: at most 10 to the 12 of each. -/
set_option linter.unusedSimpArgs false
set_option linter.unusedVariables false
namespace Go.Proofs.Ytdoefkloanpliaa.Plain
open Go.RowKit Go.Proofs.YtdoefkloanpliaaW.PrintWords Go.Proofs.Ytdoefkloanpliaa.Base Go.Proofs.Ytdoefkloanpliaa.Print

theorem rdL1_mid (pre suf : List (List Int)) (x : List Int) : rd_L1 (pre ++ x :: suf) (pre.length : Int) = x := by simp [rd_L1]
theorem szIntSS_l0 (suf : List (List Int)) : ∀ (pre : List (List Int)) (n : Int), (pre ++ suf).length ≤ 1000000000000 → 0 ≤ n → n ≤ 1048576 → (∀ x ∈ suf, x.length ≤ 1000000000000000000) →
    laws_szIntSS.l0v (pre ++ suf) n (pre.length : Int) = some (sizes List.length suf n) := by
  induction suf with
  | nil =>
    intro pre n _ _ _ _
    rw [laws_szIntSS.l0v_eq, if_neg (nlt_end pre)]
    rfl
  | cons x suf ih =>
    intro pre n hl h0 h1 hs
    have hn : pre.length < (pre ++ x :: suf).length := by simp
    rw [laws_szIntSS.l0v_eq, if_pos (lt_mid pre suf x), if_pos (by omega), rdL1_mid, szIntS_f x n h0 h1 (hs x List.mem_cons_self)]
    simp only [Option.bind_some, sizes]
    by_cases hc : n < (x.length : Int)
    · rw [if_pos hc, if_pos (by omega), if_pos hc]
    · rw [if_neg hc, if_neg (by omega), if_neg hc, up_mid pre x hn hl]
      rw [mid_snoc pre suf x] at hl ⊢
      exact ih (pre ++ [x]) _ hl (by omega) (by omega) (fun y hy => hs y (List.mem_cons_of_mem _ hy))
theorem szIntSS_v (l : List (List Int)) (n : Int) (h0 : 0 ≤ n) (h1 : n ≤ 1048576) (hl : l.length ≤ 100000000000000000) (hs : ∀ x ∈ l, x.length ≤ 1000000000000000000) :
    laws_szIntSS.fv l n = some (sizeOf1 List.length l n) := by
  rw [laws_szIntSS.fv_eq, w64 (by omega) (by omega)]
  unfold sizeOf1
  by_cases hc : n < (l.length : Int)
  · rw [if_pos (by omega), if_pos hc]
  · rw [if_neg (by omega), if_neg hc]
    have h := szIntSS_l0 l [] (n - (l.length : Int)) (by simp; omega) (by omega) (by omega) hs
    simpa using h
theorem toIntSS_l0 (suf : List (List Int)) : ∀ (pre rest : List (List Int)), rest.length = suf.length → (pre ++ suf).length ≤ 1000000000000 → (∀ x ∈ suf, x.length ≤ 1000000000000) → laws_toIntSS.l0v (pre ++ suf) (pre ++ rest) (pre.length : Int) = some (pre ++ suf) := by
  induction suf with
  | nil =>
    intro pre rest hr _ _
    rw [laws_toIntSS.l0v_eq, if_neg (nlt_end pre)]
    simp at hr
    rw [hr]
  | cons x suf ih =>
    intro pre rest hr hl hs
    cases rest with
    | nil => simp at hr
    | cons y rest =>
      have hn : pre.length < (pre ++ x :: suf).length := by simp
      rw [laws_toIntSS.l0v_eq, if_pos (lt_mid pre suf x), if_pos (by omega), rdL1_mid, toIntS_v x (hs x List.mem_cons_self)]
      simp only [Option.bind_some]
      rw [if_pos (lt_mid pre rest y), set_mid, up_mid pre x hn hl]
      rw [mid_snoc pre suf x] at hl ⊢
      have h1 := ih (pre ++ [x]) rest (by simpa using hr) hl (fun y hy => hs y (List.mem_cons_of_mem _ hy))
      simp only [List.length_append, List.length_cons, List.length_nil] at h1 ⊢
      exact h1
theorem toIntSS_v (l : List (List Int)) (hl : l.length ≤ 1000000000000) (hs : ∀ x ∈ l, x.length ≤ 1000000000000) : laws_toIntSS.fv l = some l := by
  rw [laws_toIntSS.fv_eq, if_pos (by omega), if_pos (by omega)]
  have h := toIntSS_l0 l [] (List.replicate ((l.length : Int) : Int).toNat []) (by simp) (by simpa using hl) hs
  simpa using h
theorem eqIntSS_l0 (sa : List (List Int)) : ∀ (pre : List (List Int)), (pre ++ sa).length ≤ 1000000000000 → (∀ x ∈ sa, x.length ≤ 1000000000000) → laws_eqIntSS.l0v (pre ++ sa) (pre ++ sa) (pre.length : Int) = some true := by
  induction sa with
  | nil =>
    intro pre _ _
    rw [laws_eqIntSS.l0v_eq, if_neg (nlt_end pre)]
  | cons x sa ih =>
    intro pre hl hs
    have hn : pre.length < (pre ++ x :: sa).length := by simp
    rw [laws_eqIntSS.l0v_eq, if_pos (lt_mid pre sa x), if_pos (by omega), if_pos (lt_mid pre sa x), rdL1_mid, eqIntS_v x x (hs x List.mem_cons_self), up_mid pre x hn hl]
    simp only [Option.bind_some, decide_true, if_true]
    rw [mid_snoc pre sa x] at hl ⊢
    exact ih (pre ++ [x]) hl (fun y hy => hs y (List.mem_cons_of_mem _ hy))
theorem eqIntSS_v (l : List (List Int)) (hl : l.length ≤ 1000000000000) (hs : ∀ x ∈ l, x.length ≤ 1000000000000) : laws_eqIntSS.fv l l = some true := by
  rw [laws_eqIntSS.fv_eq, if_pos rfl]
  exact eqIntSS_l0 l [] (by simpa using hl) hs
end Go.Proofs.Ytdoefkloanpliaa.Plain

/- AreVersions, of the program. Condition: at most 10 to the 12 numbers. -/
set_option linter.unusedSimpArgs false
set_option linter.unusedVariables false
namespace Go.Proofs.Ytdoefkloanpliaa.Plain
open Go.RowKit Go.Proofs.YtdoefkloanpliaaW.PrintWords Go.Proofs.Ytdoefkloanpliaa.Base Go.Proofs.Ytdoefkloanpliaa.Print

theorem implVers_l0 (suf : List Int) : ∀ pre : List Int, (pre ++ suf).length ≤ 1000000000000 →
    impl_AreVersions.l0v (pre ++ suf) (pre ++ suf) ((pre ++ suf).length : Int) (pre.length : Int) = some (vers (pre.getLastD 0) suf && decide (0 < (pre ++ suf).length)) := by
  induction suf with
  | nil =>
    intro pre hl
    rw [impl_AreVersions.l0v_eq, if_neg (nlt_end pre)]
    by_cases h : 0 < pre.length <;> simp [vers, h]
  | cons x suf ih =>
    intro pre hl
    have hn : pre.length < (pre ++ x :: suf).length := by simp
    rw [impl_AreVersions.l0v_eq, if_pos (lt_mid pre suf x), if_pos (by omega), if_pos (lt_mid pre suf x), rd_mid, inRange_f]
    simp only [Option.bind_some, vers]
    cases hx : inR 1 9 x with
    | false => simp
    | true =>
      rw [if_pos rfl, up_mid pre x hn hl]
      have h1 := ih (pre ++ [x]) (by simpa using hl)
      rw [← mid_snoc pre suf x] at h1
      rw [h1]
      have hr := inR_true.mp hx
      by_cases hp : pre = []
      · subst hp
        rw [if_neg (by simp)]
        have h0 : (0 : Int) < x := by omega
        simp [h0]
      · have hpl : 0 < pre.length := List.length_pos_iff.mpr hp
        rw [if_pos (by omega), w64 (x := (pre.length : Int) - 1) (by omega) (by omega), if_pos (by omega), if_pos (by omega), rd_lastD pre _ hp]
        by_cases hlt : pre.getLastD 0 < x
        · rw [if_neg (by omega)]
          generalize pre.getLastD 0 = q at hlt
          simp [hlt]
        · rw [if_pos (by omega)]
          generalize pre.getLastD 0 = q at hlt
          simp [hlt]
theorem implVers_v (l : List Int) (hl : l.length ≤ 1000000000000) : impl_AreVersions.fv l = some (areV l) := by
  rw [impl_AreVersions.fv_eq]
  simpa [areV] using implVers_l0 l [] (by simpa using hl)
end Go.Proofs.Ytdoefkloanpliaa.Plain

/- slices.Contains on whole numbers. Condition: at most 10 to the 12 numbers. -/
set_option linter.unusedSimpArgs false
set_option linter.unusedVariables false
namespace Go.Proofs.Ytdoefkloanpliaa.Plain
open Go.RowKit Go.Proofs.YtdoefkloanpliaaW.PrintWords Go.Proofs.Ytdoefkloanpliaa.Base Go.Proofs.Ytdoefkloanpliaa.Print

theorem slIndex_l0 (x : Int) (suf : List Int) : ∀ (pre : List Int), (pre ++ suf).length ≤ 1000000000000 →
    ∃ r, slices_Index_int_int.l0v (pre ++ suf) x ((pre ++ suf).length : Int) (pre.length : Int) = some r ∧ decide (r ≥ 0) = mem suf x := by
  induction suf with
  | nil =>
    intro pre _
    refine ⟨-1, ?_, by simp [mem]⟩
    rw [slices_Index_int_int.l0v_eq, if_neg (nlt_end pre)]
  | cons y suf ih =>
    intro pre hl
    have hn : pre.length < (pre ++ y :: suf).length := by simp
    rw [slices_Index_int_int.l0v_eq, if_pos (lt_mid pre suf y), if_pos (by omega), if_pos (lt_mid pre suf y), rd_mid]
    by_cases hxy : x = y
    · rw [if_pos hxy]
      refine ⟨(pre.length : Int), rfl, ?_⟩
      rw [mem_cons, hxy]
      simp
    · rw [if_neg hxy, up_mid pre y hn hl]
      rw [mid_snoc pre suf y] at hl ⊢
      obtain ⟨r, h1, h2⟩ := ih (pre ++ [y]) hl
      refine ⟨r, h1, ?_⟩
      rw [h2, mem_cons]
      simp [show ¬ y = x from fun e => hxy e.symm]
theorem slHas_v (l : List Int) (x : Int) (hl : l.length ≤ 1000000000000) : slices_Contains_int_int.fv l x = some (mem l x) := by
  obtain ⟨r, h1, h2⟩ := slIndex_l0 x l [] (by simpa using hl)
  rw [slices_Contains_int_int.fv_eq, slices_Index_int_int.fv_eq]
  simp only [List.nil_append, List.length_nil, Int.natCast_zero] at h1
  rw [h1]
  simp [h2]
end Go.Proofs.Ytdoefkloanpliaa.Plain

/- CommonOf, BestCommon and without, of the program. Condition: at most 10 to the 12 numbers each. -/
set_option linter.unusedSimpArgs false
set_option linter.unusedVariables false
namespace Go.Proofs.Ytdoefkloanpliaa.Plain
open Go.RowKit Go.Proofs.YtdoefkloanpliaaW.PrintWords Go.Proofs.Ytdoefkloanpliaa.Base Go.Proofs.Ytdoefkloanpliaa.Print

theorem implCom_l0 (b : List Int) (hb : b.length ≤ 1000000000000) (suf : List Int) : ∀ (pre out : List Int), (pre ++ suf).length ≤ 1000000000000 → out.length ≤ pre.length →
    impl_CommonOf.l0v b out (pre ++ suf) ((pre ++ suf).length : Int) (pre.length : Int) = some (out ++ com suf b) := by
  induction suf with
  | nil =>
    intro pre out _ _
    rw [impl_CommonOf.l0v_eq, if_neg (nlt_end pre)]
    simp [com]
  | cons x suf ih =>
    intro pre out hl ho
    have hn : pre.length < (pre ++ x :: suf).length := by simp
    have hp : pre.length < 1000000000000 := by omega
    rw [impl_CommonOf.l0v_eq, if_pos (lt_mid pre suf x), if_pos (by omega), if_pos (lt_mid pre suf x), rd_mid, slHas_v b x hb, up_mid pre x hn hl]
    simp only [Option.bind_some]
    rw [mid_snoc pre suf x] at hl ⊢
    cases hx : mem b x with
    | true =>
      rw [if_pos rfl, if_pos (by omega), ih (pre ++ [x]) (out ++ [x]) hl (by simp; omega)]
      simp [com, hx]
    | false =>
      rw [if_neg (by simp), ih (pre ++ [x]) out hl (by simp; omega)]
      simp [com, hx]
theorem implCom_v (a b : List Int) (ha : a.length ≤ 1000000000000) (hb : b.length ≤ 1000000000000) : impl_CommonOf.fv a b = some (com a b) := by
  rw [impl_CommonOf.fv_eq]
  simpa using implCom_l0 b hb a [] [] (by simpa using ha) (by simp)
theorem implMax_l0 (suf : List Int) : ∀ (pre : List Int) (m : Int), (pre ++ suf).length ≤ 1000000000000 → vers m suf = true →
    impl_BestCommon.l0v m (pre ++ suf) ((pre ++ suf).length : Int) (pre.length : Int) = some (suf.getLastD m) := by
  induction suf with
  | nil =>
    intro pre m _ _
    rw [impl_BestCommon.l0v_eq, if_neg (nlt_end pre)]
    simp
  | cons x suf ih =>
    intro pre m hl hv
    have hn : pre.length < (pre ++ x :: suf).length := by simp
    have hp : pre.length < 1000000000000 := by omega
    simp only [vers, Bool.and_eq_true, decide_eq_true_eq] at hv
    have hm : mx m x = x := by
      unfold mx
      split <;> omega
    rw [impl_BestCommon.l0v_eq, if_pos (lt_mid pre suf x), if_pos (by omega), if_pos (lt_mid pre suf x), rd_mid, up_mid pre x hn hl, hm]
    rw [mid_snoc pre suf x] at hl ⊢
    rw [ih (pre ++ [x]) x hl hv.2.2]
    rw [lastD_cons]
theorem implBest_v (a b : List Int) (ha : a.length ≤ 1000000000000) (hb : b.length ≤ 1000000000000) : impl_BestCommon.fv a b = some (best a b) := by
  rw [impl_BestCommon.fv_eq, implVers_v a ha, implVers_v b hb]
  simp only [Option.bind_some, impl_BestCommon.j0v_eq, implCom_v a b ha hb]
  unfold best
  cases h1 : areV a with
  | false => simp
  | true =>
    cases areV b with
    | false => simp
    | true =>
      have hc := com_len a b
      have hv : vers 0 (com a b) = true := vers_filter _ (by simp only [areV, Bool.and_eq_true] at h1; exact h1.1)
      have h := implMax_l0 (com a b) [] 0 (by simp; omega) hv
      simp only [List.nil_append, List.length_nil, Int.natCast_zero] at h
      simp [h]
end Go.Proofs.Ytdoefkloanpliaa.Plain

/- UseOf, of the program. Condition: at most 10 to the 12 of each. -/
set_option linter.unusedSimpArgs false
set_option linter.unusedVariables false
namespace Go.Proofs.Ytdoefkloanpliaa.Plain
open Go.RowKit Go.Proofs.YtdoefkloanpliaaW.PrintWords Go.Proofs.Ytdoefkloanpliaa.Base Go.Proofs.Ytdoefkloanpliaa.Print

theorem implUse_l0 (s : List Int) (v : Int) (hs : s.length ≤ 1000000000000) (hv : 1 ≤ v) (r : List (List Int)) : ∀ (pre : List (List Int)) (c : Int), (pre ++ r).length ≤ 1000000000000 → (∀ x ∈ r, x.length ≤ 1000000000000) → 0 ≤ c → c ≤ pre.length →
    impl_UseOf.l0v s v c (pre ++ r) ((pre ++ r).length : Int) (pre.length : Int) = some (c + uses s v r) := by
  induction r with
  | nil =>
    intro pre c _ _ _ _
    rw [impl_UseOf.l0v_eq, if_neg (nlt_end pre)]
    simp [uses]
  | cons x r ih =>
    intro pre c hl hr h0 hc
    have hn : pre.length < (pre ++ x :: r).length := by simp
    rw [impl_UseOf.l0v_eq, if_pos (lt_mid pre r x), if_pos (by omega), if_pos (lt_mid pre r x), rdL1_mid, implBest_v s x hs (hr x List.mem_cons_self)]
    simp only [Option.bind_some, uses]
    rw [up_mid pre x hn hl, w64 (x := c + 1) (by omega) (by omega)]
    rw [mid_snoc pre r x] at hl ⊢
    have hr' : ∀ y ∈ r, y.length ≤ 1000000000000 := fun y hy => hr y (List.mem_cons_of_mem _ hy)
    by_cases hx : best s x = v
    · rw [if_pos hx, if_pos hx, ih (pre ++ [x]) (c + 1) hl hr' (by omega) (by simp; omega), Int.add_assoc]
    · rw [if_neg hx, if_neg hx, ih (pre ++ [x]) c hl hr' h0 (by simp; omega), Int.zero_add]
theorem implUse_v (s : List Int) (r : List (List Int)) (v : Int) (hs : s.length ≤ 1000000000000) (hl : r.length ≤ 1000000000000) (hr : ∀ x ∈ r, x.length ≤ 1000000000000) : impl_UseOf.fv s r v = some (if v < 1 then 0 else uses s v r) := by
  rw [impl_UseOf.fv_eq]
  by_cases h : v < 1
  · rw [if_pos h, if_pos h]
  · rw [if_neg h, if_neg h]
    have h1 := implUse_l0 s v hs (by omega) r [] 0 (by simpa using hl) hr (by omega) (by simp)
    simpa using h1
end Go.Proofs.Ytdoefkloanpliaa.Plain

/- Written by a program of this session (limx.py): the equations of what the printed functions come to. No condition. -/
namespace Go.Proofs.Ytdoefkloanpliaa.Print
open Go.RowKit Go.Proofs.YtdoefkloanpliaaW.PrintWords Go.Proofs.YtdoefkloanpliaaW.PrintLast Go.Proofs.Ytdoefkloanpliaa.Base
set_option linter.unusedVariables false
set_option maxRecDepth 20000
noncomputable def spec_AllReach.l0v (x0 : List Int) (x1 : List (List Int)) (x5 : Int) : Option (Bool) := Lim fun k => spec_AllReach.l0 k x0 x1 x5
noncomputable def spec_AllReach.fv (l0 : List Int) (l1 : List (List Int)) : Option (Bool) := Lim fun k => spec_AllReach.f k l0 l1
theorem spec_AllReach.l0_is (x0 : List Int) (x1 : List (List Int)) (x5 : Int) : Is (fun k => spec_AllReach.l0 k x0 x1 x5) (spec_AllReach.l0v x0 x1 x5) := ⟨fun k => (spec_AllReach.mono_l k) x0 x1 x5, rfl⟩
theorem spec_AllReach.f_is (l0 : List Int) (l1 : List (List Int)) : Is (fun k => spec_AllReach.f k l0 l1) (spec_AllReach.fv l0 l1) := ⟨fun k => spec_AllReach.mono l0 l1 k, rfl⟩
theorem spec_AllReach.l0v_eq (x0 : List Int) (x1 : List (List Int)) (x5 : Int) : spec_AllReach.l0v x0 x1 x5 = if x5 < (x1.length : Int) then (if 0 ≤ x5 then ((spec_BestCommon.fv x0 (rd_L1 x1 x5)).bind fun t188 => (if t188 = 0 then (some false) else (spec_AllReach.l0v x0 x1 (wrap64 (x5 + 1))))) else (none)) else ((spec_AreVersions.fv x0).bind fun t189 => (some t189)) := by
  refine Is.step (spec_AllReach.l0_is x0 x1 x5).mo (fun k => by rw [spec_AllReach.l0]) ?_
  · skip
    repeat' first
    | with_reducible exact spec_AllReach.l0_is _ _ _
    | with_reducible exact spec_AreVersions.f_is _
    | with_reducible exact spec_BestCommon.f_is _ _
    | with_reducible exact Is.now _
    | with_reducible refine Is.ite ?_ ?_
    | with_reducible refine Is.bind ?_ (fun _ => ?_)
theorem spec_AllReach.fv_eq (l0 : List Int) (l1 : List (List Int)) : spec_AllReach.fv l0 l1 = spec_AllReach.l0v l0 l1 0 := by
  refine Is.lim (g := fun k => spec_AllReach.f k l0 l1) ?_
  · unfold spec_AllReach.f
    repeat' first
    | with_reducible exact spec_AllReach.l0_is _ _ _
    | with_reducible exact Is.now _
    | with_reducible refine Is.ite ?_ ?_
    | with_reducible refine Is.bind ?_ (fun _ => ?_)
noncomputable def impl_AllReach_1.fv (l0 : List Int) (l1_0 : List Int) : Option (Bool) := Lim fun k => impl_AllReach_1.f k l0 l1_0
theorem impl_AllReach_1.f_is (l0 : List Int) (l1_0 : List Int) : Is (fun k => impl_AllReach_1.f k l0 l1_0) (impl_AllReach_1.fv l0 l1_0) := ⟨fun k => impl_AllReach_1.mono l0 l1_0 k, rfl⟩
theorem impl_AllReach_1.fv_eq (l0 : List Int) (l1_0 : List Int) : impl_AllReach_1.fv l0 l1_0 = (impl_BestCommon.fv l1_0 l0).bind fun t190 => (some (t190 == 0)) := by
  refine Is.lim (g := fun k => impl_AllReach_1.f k l0 l1_0) ?_
  · unfold impl_AllReach_1.f
    repeat' first
    | with_reducible exact impl_BestCommon.f_is _ _
    | with_reducible exact Is.now _
    | with_reducible refine Is.ite ?_ ?_
    | with_reducible refine Is.bind ?_ (fun _ => ?_)
noncomputable def slices_IndexFunc_int_int_with_impl_AllReach_1.l0v (x0 : List (List Int)) (x7 : Int) (x8 : Int) (x2000 : List Int) : Option (Int) := Lim fun k => slices_IndexFunc_int_int_with_impl_AllReach_1.l0 k x0 x7 x8 x2000
noncomputable def slices_IndexFunc_int_int_with_impl_AllReach_1.fv (l0 : List (List Int)) (l1_0 : List Int) : Option (Int) := Lim fun k => slices_IndexFunc_int_int_with_impl_AllReach_1.f k l0 l1_0
theorem slices_IndexFunc_int_int_with_impl_AllReach_1.l0_is (x0 : List (List Int)) (x7 : Int) (x8 : Int) (x2000 : List Int) : Is (fun k => slices_IndexFunc_int_int_with_impl_AllReach_1.l0 k x0 x7 x8 x2000) (slices_IndexFunc_int_int_with_impl_AllReach_1.l0v x0 x7 x8 x2000) := ⟨fun k => (slices_IndexFunc_int_int_with_impl_AllReach_1.mono_l k) x0 x7 x8 x2000, rfl⟩
theorem slices_IndexFunc_int_int_with_impl_AllReach_1.f_is (l0 : List (List Int)) (l1_0 : List Int) : Is (fun k => slices_IndexFunc_int_int_with_impl_AllReach_1.f k l0 l1_0) (slices_IndexFunc_int_int_with_impl_AllReach_1.fv l0 l1_0) := ⟨fun k => slices_IndexFunc_int_int_with_impl_AllReach_1.mono l0 l1_0 k, rfl⟩
theorem slices_IndexFunc_int_int_with_impl_AllReach_1.l0v_eq (x0 : List (List Int)) (x7 : Int) (x8 : Int) (x2000 : List Int) : slices_IndexFunc_int_int_with_impl_AllReach_1.l0v x0 x7 x8 x2000 = if x8 < x7 then (if 0 ≤ x8 then (if x8 < (x0.length : Int) then ((impl_AllReach_1.fv (rd_L1 x0 x8) x2000).bind fun t192 => (if t192 = true then (some x8) else (slices_IndexFunc_int_int_with_impl_AllReach_1.l0v x0 x7 (wrap64 (x8 + 1)) x2000))) else (none)) else (none)) else (some (-1)) := by
  refine Is.step (slices_IndexFunc_int_int_with_impl_AllReach_1.l0_is x0 x7 x8 x2000).mo (fun k => by rw [slices_IndexFunc_int_int_with_impl_AllReach_1.l0]) ?_
  · skip
    repeat' first
    | with_reducible exact impl_AllReach_1.f_is _ _
    | with_reducible exact slices_IndexFunc_int_int_with_impl_AllReach_1.l0_is _ _ _ _
    | with_reducible exact Is.now _
    | with_reducible refine Is.ite ?_ ?_
    | with_reducible refine Is.bind ?_ (fun _ => ?_)
theorem slices_IndexFunc_int_int_with_impl_AllReach_1.fv_eq (l0 : List (List Int)) (l1_0 : List Int) : slices_IndexFunc_int_int_with_impl_AllReach_1.fv l0 l1_0 = slices_IndexFunc_int_int_with_impl_AllReach_1.l0v l0 (l0.length : Int) 0 l1_0 := by
  refine Is.lim (g := fun k => slices_IndexFunc_int_int_with_impl_AllReach_1.f k l0 l1_0) ?_
  · unfold slices_IndexFunc_int_int_with_impl_AllReach_1.f
    repeat' first
    | with_reducible exact slices_IndexFunc_int_int_with_impl_AllReach_1.l0_is _ _ _ _
    | with_reducible exact Is.now _
    | with_reducible refine Is.ite ?_ ?_
    | with_reducible refine Is.bind ?_ (fun _ => ?_)
noncomputable def slices_ContainsFunc_int_int_with_impl_AllReach_1.fv (l0 : List (List Int)) (l1_0 : List Int) : Option (Bool) := Lim fun k => slices_ContainsFunc_int_int_with_impl_AllReach_1.f k l0 l1_0
theorem slices_ContainsFunc_int_int_with_impl_AllReach_1.f_is (l0 : List (List Int)) (l1_0 : List Int) : Is (fun k => slices_ContainsFunc_int_int_with_impl_AllReach_1.f k l0 l1_0) (slices_ContainsFunc_int_int_with_impl_AllReach_1.fv l0 l1_0) := ⟨fun k => slices_ContainsFunc_int_int_with_impl_AllReach_1.mono l0 l1_0 k, rfl⟩
theorem slices_ContainsFunc_int_int_with_impl_AllReach_1.fv_eq (l0 : List (List Int)) (l1_0 : List Int) : slices_ContainsFunc_int_int_with_impl_AllReach_1.fv l0 l1_0 = (slices_IndexFunc_int_int_with_impl_AllReach_1.fv l0 l1_0).bind fun t193 => (some (decide (t193 ≥ 0))) := by
  refine Is.lim (g := fun k => slices_ContainsFunc_int_int_with_impl_AllReach_1.f k l0 l1_0) ?_
  · unfold slices_ContainsFunc_int_int_with_impl_AllReach_1.f
    repeat' first
    | with_reducible exact slices_IndexFunc_int_int_with_impl_AllReach_1.f_is _ _
    | with_reducible exact Is.now _
    | with_reducible refine Is.ite ?_ ?_
    | with_reducible refine Is.bind ?_ (fun _ => ?_)
noncomputable def impl_AllReach.fv (l0 : List Int) (l1 : List (List Int)) : Option (Bool) := Lim fun k => impl_AllReach.f k l0 l1
theorem impl_AllReach.f_is (l0 : List Int) (l1 : List (List Int)) : Is (fun k => impl_AllReach.f k l0 l1) (impl_AllReach.fv l0 l1) := ⟨fun k => impl_AllReach.mono l0 l1 k, rfl⟩
theorem impl_AllReach.fv_eq (l0 : List Int) (l1 : List (List Int)) : impl_AllReach.fv l0 l1 = (impl_AreVersions.fv l0).bind fun t195 => (if t195 = true then ((slices_ContainsFunc_int_int_with_impl_AllReach_1.fv l1 l0).bind fun t196 => (some (!t196))) else (some false)) := by
  refine Is.lim (g := fun k => impl_AllReach.f k l0 l1) ?_
  · unfold impl_AllReach.f
    repeat' first
    | with_reducible exact impl_AreVersions.f_is _
    | with_reducible exact slices_ContainsFunc_int_int_with_impl_AllReach_1.f_is _ _
    | with_reducible exact Is.now _
    | with_reducible refine Is.ite ?_ ?_
    | with_reducible refine Is.bind ?_ (fun _ => ?_)
noncomputable def spec_l12Without.l0v (x0 : List Int) (x1 : Int) (x5 : List Int) (x6 : Int) : Option (List Int) := Lim fun k => spec_l12Without.l0 k x0 x1 x5 x6
noncomputable def spec_l12Without.fv (l0 : List Int) (a1 : Int) : Option (List Int) := Lim fun k => spec_l12Without.f k l0 a1
theorem spec_l12Without.l0_is (x0 : List Int) (x1 : Int) (x5 : List Int) (x6 : Int) : Is (fun k => spec_l12Without.l0 k x0 x1 x5 x6) (spec_l12Without.l0v x0 x1 x5 x6) := ⟨fun k => (spec_l12Without.mono_l k) x0 x1 x5 x6, rfl⟩
theorem spec_l12Without.f_is (l0 : List Int) (a1 : Int) : Is (fun k => spec_l12Without.f k l0 a1) (spec_l12Without.fv l0 a1) := ⟨fun k => spec_l12Without.mono l0 a1 k, rfl⟩
theorem spec_l12Without.l0v_eq (x0 : List Int) (x1 : Int) (x5 : List Int) (x6 : Int) : spec_l12Without.l0v x0 x1 x5 x6 = if x6 < (x0.length : Int) then (if 0 ≤ x6 then (if (rd x0 x6) = x1 then (spec_l12Without.l0v x0 x1 x5 (wrap64 (x6 + 1))) else (if x5.length < 17592186044416 then (spec_l12Without.l0v x0 x1 (x5 ++ [rd x0 x6]) (wrap64 (x6 + 1))) else (none))) else (none)) else (some x5) := by
  refine Is.step (spec_l12Without.l0_is x0 x1 x5 x6).mo (fun k => by rw [spec_l12Without.l0]) ?_
  · skip
    repeat' first
    | with_reducible exact spec_l12Without.l0_is _ _ _ _
    | with_reducible exact Is.now _
    | with_reducible refine Is.ite ?_ ?_
    | with_reducible refine Is.bind ?_ (fun _ => ?_)
theorem spec_l12Without.fv_eq (l0 : List Int) (a1 : Int) : spec_l12Without.fv l0 a1 = spec_l12Without.l0v l0 a1 (([] : List Int)) 0 := by
  refine Is.lim (g := fun k => spec_l12Without.f k l0 a1) ?_
  · unfold spec_l12Without.f
    repeat' first
    | with_reducible exact spec_l12Without.l0_is _ _ _ _
    | with_reducible exact Is.now _
    | with_reducible refine Is.ite ?_ ?_
    | with_reducible refine Is.bind ?_ (fun _ => ?_)
noncomputable def spec_Stranded.l0v (x0 : List Int) (x1 : List (List Int)) (x7 : List Int) (x8 : List Int) (x9 : Int) : Option (List Int) := Lim fun k => spec_Stranded.l0 k x0 x1 x7 x8 x9
noncomputable def spec_Stranded.fv (l0 : List Int) (l1 : List (List Int)) (a2 : Int) : Option (List Int) := Lim fun k => spec_Stranded.f k l0 l1 a2
theorem spec_Stranded.l0_is (x0 : List Int) (x1 : List (List Int)) (x7 : List Int) (x8 : List Int) (x9 : Int) : Is (fun k => spec_Stranded.l0 k x0 x1 x7 x8 x9) (spec_Stranded.l0v x0 x1 x7 x8 x9) := ⟨fun k => (spec_Stranded.mono_l k) x0 x1 x7 x8 x9, rfl⟩
theorem spec_Stranded.f_is (l0 : List Int) (l1 : List (List Int)) (a2 : Int) : Is (fun k => spec_Stranded.f k l0 l1 a2) (spec_Stranded.fv l0 l1 a2) := ⟨fun k => spec_Stranded.mono l0 l1 a2 k, rfl⟩
theorem spec_Stranded.l0v_eq (x0 : List Int) (x1 : List (List Int)) (x7 : List Int) (x8 : List Int) (x9 : Int) : spec_Stranded.l0v x0 x1 x7 x8 x9 = if x9 < (x1.length : Int) then (if 0 ≤ x9 then ((spec_BestCommon.fv x0 (rd_L1 x1 x9)).bind fun t235 => (if t235 > 0 then ((spec_BestCommon.fv x8 (rd_L1 x1 x9)).bind fun t237 => (if t237 = 0 then (if x7.length < 17592186044416 then (spec_Stranded.l0v x0 x1 (x7 ++ [x9]) x8 (wrap64 (x9 + 1))) else (none)) else (spec_Stranded.l0v x0 x1 x7 x8 (wrap64 (x9 + 1))))) else (spec_Stranded.l0v x0 x1 x7 x8 (wrap64 (x9 + 1))))) else (none)) else (some x7) := by
  refine Is.step (spec_Stranded.l0_is x0 x1 x7 x8 x9).mo (fun k => by rw [spec_Stranded.l0]) ?_
  · skip
    repeat' first
    | with_reducible exact spec_BestCommon.f_is _ _
    | with_reducible exact spec_Stranded.l0_is _ _ _ _ _
    | with_reducible exact Is.now _
    | with_reducible refine Is.ite ?_ ?_
    | with_reducible refine Is.bind ?_ (fun _ => ?_)
theorem spec_Stranded.fv_eq (l0 : List Int) (l1 : List (List Int)) (a2 : Int) : spec_Stranded.fv l0 l1 a2 = (spec_l12Without.fv l0 a2).bind fun t231 => (spec_Stranded.l0v l0 l1 (([] : List Int)) t231 0) := by
  refine Is.lim (g := fun k => spec_Stranded.f k l0 l1 a2) ?_
  · unfold spec_Stranded.f
    repeat' first
    | with_reducible exact spec_Stranded.l0_is _ _ _ _ _
    | with_reducible exact spec_l12Without.f_is _ _
    | with_reducible exact Is.now _
    | with_reducible refine Is.ite ?_ ?_
    | with_reducible refine Is.bind ?_ (fun _ => ?_)
end Go.Proofs.Ytdoefkloanpliaa.Print

/- Written by a program of this session (limx.py): the equations of what the printed functions come to. No condition. -/
namespace Go.Proofs.Ytdoefkloanpliaa.Print
open Go.RowKit Go.Proofs.YtdoefkloanpliaaW.PrintWords Go.Proofs.YtdoefkloanpliaaW.PrintLast Go.Proofs.Ytdoefkloanpliaa.Base
set_option linter.unusedVariables false
set_option maxRecDepth 20000
noncomputable def spec_MayRetire.j0v (x0 : List Int) (x1 : List (List Int)) (x2 : Int) (x3 : Int) (x27 : Bool) : Option (Bool) := Lim fun k => spec_MayRetire.j0 k x0 x1 x2 x3 x27
noncomputable def spec_MayRetire.fv (l0 : List Int) (l1 : List (List Int)) (a2 : Int) (a3 : Int) : Option (Bool) := Lim fun k => spec_MayRetire.f k l0 l1 a2 a3
theorem spec_MayRetire.j0_is (x0 : List Int) (x1 : List (List Int)) (x2 : Int) (x3 : Int) (x27 : Bool) : Is (fun k => spec_MayRetire.j0 k x0 x1 x2 x3 x27) (spec_MayRetire.j0v x0 x1 x2 x3 x27) := ⟨fun k => (spec_MayRetire.mono_l k) x0 x1 x2 x3 x27, rfl⟩
theorem spec_MayRetire.f_is (l0 : List Int) (l1 : List (List Int)) (a2 : Int) (a3 : Int) : Is (fun k => spec_MayRetire.f k l0 l1 a2 a3) (spec_MayRetire.fv l0 l1 a2 a3) := ⟨fun k => spec_MayRetire.mono l0 l1 a2 a3 k, rfl⟩
theorem spec_MayRetire.j0v_eq (x0 : List Int) (x1 : List (List Int)) (x2 : Int) (x3 : Int) (x27 : Bool) : spec_MayRetire.j0v x0 x1 x2 x3 x27 = if x27 = true then (some false) else ((spec_Stranded.fv x0 x1 x2).bind fun t244 => (if (t244.length : Int) = 0 then ((spec_UseOf.fv x0 x1 x2).bind fun t247 => (some (decide ((wrap64 (1000 * t247)) ≤ (wrap64 (x3 * (x1.length : Int))))))) else (some false))) := by
  refine Is.step (spec_MayRetire.j0_is x0 x1 x2 x3 x27).mo (fun k => by rw [spec_MayRetire.j0]) ?_
  · skip
    repeat' first
    | with_reducible exact spec_Stranded.f_is _ _ _
    | with_reducible exact spec_UseOf.f_is _ _ _
    | with_reducible exact Is.now _
    | with_reducible refine Is.ite ?_ ?_
    | with_reducible refine Is.bind ?_ (fun _ => ?_)
theorem spec_MayRetire.fv_eq (l0 : List Int) (l1 : List (List Int)) (a2 : Int) (a3 : Int) : spec_MayRetire.fv l0 l1 a2 a3 = (spec_AreVersions.fv l0).bind fun t241 => (if t241 = true then ((spec_l9Has.fv l0 a2).bind fun t242 => (if t242 = true then (if (l0.length : Int) = 1 then (spec_MayRetire.j0v l0 l1 a2 a3 true) else ((spec_l1In.f a3 0 1000).bind fun t243 => (spec_MayRetire.j0v l0 l1 a2 a3 (!t243)))) else (spec_MayRetire.j0v l0 l1 a2 a3 true))) else (spec_MayRetire.j0v l0 l1 a2 a3 true)) := by
  refine Is.lim (g := fun k => spec_MayRetire.f k l0 l1 a2 a3) ?_
  · unfold spec_MayRetire.f
    repeat' first
    | with_reducible exact spec_AreVersions.f_is _
    | with_reducible exact spec_MayRetire.j0_is _ _ _ _ _
    | with_reducible exact spec_l9Has.f_is _ _
    | with_reducible exact Is.now _
    | with_reducible refine Is.ite ?_ ?_
    | with_reducible refine Is.bind ?_ (fun _ => ?_)
noncomputable def impl_without.l0v (x1 : List Int) (x5 : List Int) (x9 : List Int) (x10 : Int) (x11 : Int) : Option (List Int) := Lim fun k => impl_without.l0 k x1 x5 x9 x10 x11
noncomputable def impl_without.fv (l0 : List Int) (l1 : List Int) : Option (List Int) := Lim fun k => impl_without.f k l0 l1
theorem impl_without.l0_is (x1 : List Int) (x5 : List Int) (x9 : List Int) (x10 : Int) (x11 : Int) : Is (fun k => impl_without.l0 k x1 x5 x9 x10 x11) (impl_without.l0v x1 x5 x9 x10 x11) := ⟨fun k => (impl_without.mono_l k) x1 x5 x9 x10 x11, rfl⟩
theorem impl_without.f_is (l0 : List Int) (l1 : List Int) : Is (fun k => impl_without.f k l0 l1) (impl_without.fv l0 l1) := ⟨fun k => impl_without.mono l0 l1 k, rfl⟩
theorem impl_without.l0v_eq (x1 : List Int) (x5 : List Int) (x9 : List Int) (x10 : Int) (x11 : Int) : impl_without.l0v x1 x5 x9 x10 x11 = if x11 < x10 then (if 0 ≤ x11 then (if x11 < (x9.length : Int) then ((slices_Contains_int_int.fv x1 (rd x9 x11)).bind fun t252 => (if t252 = true then (impl_without.l0v x1 x5 x9 x10 (wrap64 (x11 + 1))) else (if x5.length < 17592186044416 then (impl_without.l0v x1 (x5 ++ [rd x9 x11]) x9 x10 (wrap64 (x11 + 1))) else (none)))) else (none)) else (none)) else (some x5) := by
  refine Is.step (impl_without.l0_is x1 x5 x9 x10 x11).mo (fun k => by rw [impl_without.l0]) ?_
  · skip
    repeat' first
    | with_reducible exact impl_without.l0_is _ _ _ _ _
    | with_reducible exact slices_Contains_int_int.f_is _ _
    | with_reducible exact Is.now _
    | with_reducible refine Is.ite ?_ ?_
    | with_reducible refine Is.bind ?_ (fun _ => ?_)
theorem impl_without.fv_eq (l0 : List Int) (l1 : List Int) : impl_without.fv l0 l1 = impl_without.l0v l1 (([] : List Int)) l0 (l0.length : Int) 0 := by
  refine Is.lim (g := fun k => impl_without.f k l0 l1) ?_
  · unfold impl_without.f
    repeat' first
    | with_reducible exact impl_without.l0_is _ _ _ _ _
    | with_reducible exact Is.now _
    | with_reducible refine Is.ite ?_ ?_
    | with_reducible refine Is.bind ?_ (fun _ => ?_)
noncomputable def impl_Stranded.l0v (x0 : List Int) (x7 : List Int) (x8 : List Int) (x16 : List (List Int)) (x17 : Int) (x18 : Int) : Option (List Int) := Lim fun k => impl_Stranded.l0 k x0 x7 x8 x16 x17 x18
noncomputable def impl_Stranded.fv (l0 : List Int) (l1 : List (List Int)) (a2 : Int) : Option (List Int) := Lim fun k => impl_Stranded.f k l0 l1 a2
theorem impl_Stranded.l0_is (x0 : List Int) (x7 : List Int) (x8 : List Int) (x16 : List (List Int)) (x17 : Int) (x18 : Int) : Is (fun k => impl_Stranded.l0 k x0 x7 x8 x16 x17 x18) (impl_Stranded.l0v x0 x7 x8 x16 x17 x18) := ⟨fun k => (impl_Stranded.mono_l k) x0 x7 x8 x16 x17 x18, rfl⟩
theorem impl_Stranded.f_is (l0 : List Int) (l1 : List (List Int)) (a2 : Int) : Is (fun k => impl_Stranded.f k l0 l1 a2) (impl_Stranded.fv l0 l1 a2) := ⟨fun k => impl_Stranded.mono l0 l1 a2 k, rfl⟩
theorem impl_Stranded.l0v_eq (x0 : List Int) (x7 : List Int) (x8 : List Int) (x16 : List (List Int)) (x17 : Int) (x18 : Int) : impl_Stranded.l0v x0 x7 x8 x16 x17 x18 = if x18 < x17 then (if 0 ≤ x18 then (if x18 < (x16.length : Int) then ((impl_BestCommon.fv x0 (rd_L1 x16 x18)).bind fun t266 => (if t266 > 0 then ((impl_BestCommon.fv x8 (rd_L1 x16 x18)).bind fun t267 => (if t267 = 0 then (if x7.length < 17592186044416 then (impl_Stranded.l0v x0 (x7 ++ [x18]) x8 x16 x17 (wrap64 (x18 + 1))) else (none)) else (impl_Stranded.l0v x0 x7 x8 x16 x17 (wrap64 (x18 + 1))))) else (impl_Stranded.l0v x0 x7 x8 x16 x17 (wrap64 (x18 + 1))))) else (none)) else (none)) else (some x7) := by
  refine Is.step (impl_Stranded.l0_is x0 x7 x8 x16 x17 x18).mo (fun k => by rw [impl_Stranded.l0]) ?_
  · skip
    repeat' first
    | with_reducible exact impl_BestCommon.f_is _ _
    | with_reducible exact impl_Stranded.l0_is _ _ _ _ _ _
    | with_reducible exact Is.now _
    | with_reducible refine Is.ite ?_ ?_
    | with_reducible refine Is.bind ?_ (fun _ => ?_)
theorem impl_Stranded.fv_eq (l0 : List Int) (l1 : List (List Int)) (a2 : Int) : impl_Stranded.fv l0 l1 a2 = (impl_without.fv l0 (([a2] : List Int))).bind fun t262 => (impl_Stranded.l0v l0 (([] : List Int)) t262 l1 (l1.length : Int) 0) := by
  refine Is.lim (g := fun k => impl_Stranded.f k l0 l1 a2) ?_
  · unfold impl_Stranded.f
    repeat' first
    | with_reducible exact impl_Stranded.l0_is _ _ _ _ _ _
    | with_reducible exact impl_without.f_is _ _
    | with_reducible exact Is.now _
    | with_reducible refine Is.ite ?_ ?_
    | with_reducible refine Is.bind ?_ (fun _ => ?_)
noncomputable def impl_MayRetire.j0v (x0 : List Int) (x1 : List (List Int)) (x2 : Int) (x3 : Int) (x27 : Bool) : Option (Bool) := Lim fun k => impl_MayRetire.j0 k x0 x1 x2 x3 x27
noncomputable def impl_MayRetire.fv (l0 : List Int) (l1 : List (List Int)) (a2 : Int) (a3 : Int) : Option (Bool) := Lim fun k => impl_MayRetire.f k l0 l1 a2 a3
theorem impl_MayRetire.j0_is (x0 : List Int) (x1 : List (List Int)) (x2 : Int) (x3 : Int) (x27 : Bool) : Is (fun k => impl_MayRetire.j0 k x0 x1 x2 x3 x27) (impl_MayRetire.j0v x0 x1 x2 x3 x27) := ⟨fun k => (impl_MayRetire.mono_l k) x0 x1 x2 x3 x27, rfl⟩
theorem impl_MayRetire.f_is (l0 : List Int) (l1 : List (List Int)) (a2 : Int) (a3 : Int) : Is (fun k => impl_MayRetire.f k l0 l1 a2 a3) (impl_MayRetire.fv l0 l1 a2 a3) := ⟨fun k => impl_MayRetire.mono l0 l1 a2 a3 k, rfl⟩
theorem impl_MayRetire.j0v_eq (x0 : List Int) (x1 : List (List Int)) (x2 : Int) (x3 : Int) (x27 : Bool) : impl_MayRetire.j0v x0 x1 x2 x3 x27 = if x27 = true then (some false) else ((impl_Stranded.fv x0 x1 x2).bind fun t274 => (if (t274.length : Int) = 0 then ((impl_UseOf.fv x0 x1 x2).bind fun t277 => (some (decide ((wrap64 (1000 * t277)) ≤ (wrap64 (x3 * (x1.length : Int))))))) else (some false))) := by
  refine Is.step (impl_MayRetire.j0_is x0 x1 x2 x3 x27).mo (fun k => by rw [impl_MayRetire.j0]) ?_
  · skip
    repeat' first
    | with_reducible exact impl_Stranded.f_is _ _ _
    | with_reducible exact impl_UseOf.f_is _ _ _
    | with_reducible exact Is.now _
    | with_reducible refine Is.ite ?_ ?_
    | with_reducible refine Is.bind ?_ (fun _ => ?_)
theorem impl_MayRetire.fv_eq (l0 : List Int) (l1 : List (List Int)) (a2 : Int) (a3 : Int) : impl_MayRetire.fv l0 l1 a2 a3 = (impl_AreVersions.fv l0).bind fun t271 => (if t271 = true then ((slices_Contains_int_int.fv l0 a2).bind fun t272 => (if t272 = true then (if (l0.length : Int) = 1 then (impl_MayRetire.j0v l0 l1 a2 a3 true) else ((impl_InRange.f a3 0 1000).bind fun t273 => (impl_MayRetire.j0v l0 l1 a2 a3 (!t273)))) else (impl_MayRetire.j0v l0 l1 a2 a3 true))) else (impl_MayRetire.j0v l0 l1 a2 a3 true)) := by
  refine Is.lim (g := fun k => impl_MayRetire.f k l0 l1 a2 a3) ?_
  · unfold impl_MayRetire.f
    repeat' first
    | with_reducible exact impl_AreVersions.f_is _
    | with_reducible exact impl_MayRetire.j0_is _ _ _ _ _
    | with_reducible exact slices_Contains_int_int.f_is _ _
    | with_reducible exact Is.now _
    | with_reducible refine Is.ite ?_ ?_
    | with_reducible refine Is.bind ?_ (fun _ => ?_)
noncomputable def impl_RetireVersion.fv (l0 : List Int) (l1 : List (List Int)) (a2 : Int) (a3 : Int) : Option (List Int × Bool) := Lim fun k => impl_RetireVersion.f k l0 l1 a2 a3
theorem impl_RetireVersion.f_is (l0 : List Int) (l1 : List (List Int)) (a2 : Int) (a3 : Int) : Is (fun k => impl_RetireVersion.f k l0 l1 a2 a3) (impl_RetireVersion.fv l0 l1 a2 a3) := ⟨fun k => impl_RetireVersion.mono l0 l1 a2 a3 k, rfl⟩
theorem impl_RetireVersion.fv_eq (l0 : List Int) (l1 : List (List Int)) (a2 : Int) (a3 : Int) : impl_RetireVersion.fv l0 l1 a2 a3 = (impl_MayRetire.fv l0 l1 a2 a3).bind fun t301 => (if t301 = true then ((impl_without.fv l0 (([a2] : List Int))).bind fun t305 => (some (t305, true))) else ((some (([] : List Int) : List Int)).bind fun y308 => (if y308.length + l0.length < 17592186044416 then (some ((y308 ++ l0), false)) else (none)))) := by
  refine Is.lim (g := fun k => impl_RetireVersion.f k l0 l1 a2 a3) ?_
  · unfold impl_RetireVersion.f
    repeat' first
    | with_reducible exact impl_MayRetire.f_is _ _ _ _
    | with_reducible exact impl_without.f_is _ _
    | with_reducible exact Is.now _
    | with_reducible refine Is.ite ?_ ?_
    | with_reducible refine Is.bind ?_ (fun _ => ?_)
end Go.Proofs.Ytdoefkloanpliaa.Print

/- Stranded and MayRetire, of the program. Condition: at most 10 to the 12 of each. -/
set_option linter.unusedSimpArgs false
set_option linter.unusedVariables false
namespace Go.Proofs.Ytdoefkloanpliaa.Plain
open Go.RowKit Go.Proofs.YtdoefkloanpliaaW.PrintWords Go.Proofs.Ytdoefkloanpliaa.Base Go.Proofs.Ytdoefkloanpliaa.Print

theorem implDrop_l0 (v : Int) (suf : List Int) : ∀ (pre out : List Int), (pre ++ suf).length ≤ 1000000000000 → out.length ≤ pre.length →
    impl_without.l0v [v] out (pre ++ suf) ((pre ++ suf).length : Int) (pre.length : Int) = some (out ++ drop suf v) := by
  induction suf with
  | nil =>
    intro pre out _ _
    rw [impl_without.l0v_eq, if_neg (nlt_end pre)]
    simp [drop]
  | cons x suf ih =>
    intro pre out hl ho
    have hn : pre.length < (pre ++ x :: suf).length := by simp
    have hp : pre.length < 1000000000000 := by omega
    rw [impl_without.l0v_eq, if_pos (lt_mid pre suf x), if_pos (by omega), if_pos (lt_mid pre suf x), rd_mid, slHas_v [v] x (by simp), up_mid pre x hn hl]
    simp only [Option.bind_some, mem_cons, mem_nil, Bool.or_false]
    rw [mid_snoc pre suf x] at hl ⊢
    by_cases hx : x = v
    · rw [if_pos (by simp [hx]), ih (pre ++ [x]) out hl (by simp; omega)]
      simp [drop, hx]
    · rw [if_neg (by simp [show ¬ v = x from fun e => hx e.symm]), if_pos (by omega), ih (pre ++ [x]) (out ++ [x]) hl (by simp; omega)]
      simp [drop, hx]
theorem implDrop_v (s : List Int) (v : Int) (hs : s.length ≤ 1000000000000) : impl_without.fv s [v] = some (drop s v) := by
  rw [impl_without.fv_eq]
  simpa using implDrop_l0 v s [] [] (by simpa using hs) (by simp)
theorem implLeft_l0 (s t : List Int) (hs : s.length ≤ 1000000000000) (ht : t.length ≤ 1000000000000) (r : List (List Int)) : ∀ (pre : List (List Int)) (out : List Int), (pre ++ r).length ≤ 1000000000000 → (∀ x ∈ r, x.length ≤ 1000000000000) → out.length ≤ pre.length →
    impl_Stranded.l0v s out t (pre ++ r) ((pre ++ r).length : Int) (pre.length : Int) = some (out ++ lefts s t (pre.length : Int) r) := by
  induction r with
  | nil =>
    intro pre out _ _ _
    rw [impl_Stranded.l0v_eq, if_neg (nlt_end pre)]
    simp [lefts]
  | cons x r ih =>
    intro pre out hl hr ho
    have hn : pre.length < (pre ++ x :: r).length := by simp
    have hp : pre.length < 1000000000000 := by omega
    have e1 : ((pre ++ [x]).length : Int) = (pre.length : Int) + 1 := by simp
    rw [impl_Stranded.l0v_eq, if_pos (lt_mid pre r x), if_pos (by omega), if_pos (lt_mid pre r x), rdL1_mid, implBest_v s x hs (hr x List.mem_cons_self), implBest_v t x ht (hr x List.mem_cons_self), up_mid pre x hn hl]
    simp only [Option.bind_some, lefts, left]
    rw [mid_snoc pre r x] at hl ⊢
    have hr' : ∀ y ∈ r, y.length ≤ 1000000000000 := fun y hy => hr y (List.mem_cons_of_mem _ hy)
    by_cases h1 : best s x > 0
    · rw [if_pos h1]
      by_cases h2 : best t x = 0
      · rw [if_pos h2, if_pos (by omega), ih (pre ++ [x]) (out ++ [(pre.length : Int)]) hl hr' (by simp; omega), e1]
        simp [h1, h2]
      · rw [if_neg h2, ih (pre ++ [x]) out hl hr' (by simp; omega), e1]
        simp [h1, h2]
    · rw [if_neg h1, ih (pre ++ [x]) out hl hr' (by simp; omega), e1]
      simp [h1]
theorem implLeft_v (s : List Int) (r : List (List Int)) (v : Int) (hs : s.length ≤ 1000000000000) (hl : r.length ≤ 1000000000000) (hr : ∀ x ∈ r, x.length ≤ 1000000000000) : impl_Stranded.fv s r v = some (lefts s (drop s v) 0 r) := by
  rw [impl_Stranded.fv_eq, implDrop_v s v hs]
  have := drop_len s v
  simpa using implLeft_l0 s (drop s v) hs (by omega) r [] [] (by simpa using hl) hr (by simp)
theorem implMay_v (s : List Int) (r : List (List Int)) (v p : Int) (hs : s.length ≤ 1000000000000) (hl : r.length ≤ 1000000000000) (hr : ∀ x ∈ r, x.length ≤ 1000000000000) : impl_MayRetire.fv s r v p = some (mayR s r v p) := by
  rw [impl_MayRetire.fv_eq, implVers_v s hs, slHas_v s v hs, inRange_f]
  simp only [Option.bind_some, impl_MayRetire.j0v_eq, implLeft_v s r v hs hl hr, implUse_v s r v hs hl hr, mayR]
  cases areV s with
  | false => simp
  | true =>
    cases mem s v with
    | false => simp
    | true =>
      by_cases h1 : s.length = 1
      · simp [h1]
      · have h1' : ¬ (s.length : Int) = 1 := by omega
        cases inR 0 1000 p with
        | false => simp [h1, h1']
        | true =>
          by_cases h2 : (lefts s (drop s v) 0 r).length = 0
          · simp [h1, h1', h2]
          · simp [h1, h1', h2]
end Go.Proofs.Ytdoefkloanpliaa.Plain

/- AllReach, of the program. Condition: at most 10 to the 12 of each. -/
set_option linter.unusedSimpArgs false
set_option linter.unusedVariables false
namespace Go.Proofs.Ytdoefkloanpliaa.Plain
open Go.RowKit Go.Proofs.YtdoefkloanpliaaW.PrintWords Go.Proofs.Ytdoefkloanpliaa.Base Go.Proofs.Ytdoefkloanpliaa.Print

theorem implReach_l0 (s : List Int) (hs : s.length ≤ 1000000000000) (r : List (List Int)) : ∀ (pre : List (List Int)), (pre ++ r).length ≤ 1000000000000 → (∀ x ∈ r, x.length ≤ 1000000000000) →
    ∃ q, slices_IndexFunc_int_int_with_impl_AllReach_1.l0v (pre ++ r) ((pre ++ r).length : Int) (pre.length : Int) s = some q ∧ decide (q ≥ 0) = !(allR s r) := by
  induction r with
  | nil =>
    intro pre _ _
    refine ⟨-1, ?_, by simp [allR]⟩
    rw [slices_IndexFunc_int_int_with_impl_AllReach_1.l0v_eq, if_neg (nlt_end pre)]
  | cons x r ih =>
    intro pre hl hr
    have hn : pre.length < (pre ++ x :: r).length := by simp
    rw [slices_IndexFunc_int_int_with_impl_AllReach_1.l0v_eq, if_pos (lt_mid pre r x), if_pos (by omega), if_pos (lt_mid pre r x), rdL1_mid, impl_AllReach_1.fv_eq, implBest_v s x hs (hr x List.mem_cons_self)]
    simp only [Option.bind_some, beq_iff_eq]
    by_cases hx : best s x = 0
    · rw [if_pos hx]
      refine ⟨(pre.length : Int), rfl, ?_⟩
      simp [allR, hx]
    · rw [if_neg hx, up_mid pre x hn hl]
      rw [mid_snoc pre r x] at hl ⊢
      obtain ⟨q, h1, h2⟩ := ih (pre ++ [x]) hl (fun y hy => hr y (List.mem_cons_of_mem _ hy))
      refine ⟨q, h1, ?_⟩
      rw [h2]
      simp [allR, hx]
theorem implReach_v (s : List Int) (r : List (List Int)) (hs : s.length ≤ 1000000000000) (hl : r.length ≤ 1000000000000) (hr : ∀ x ∈ r, x.length ≤ 1000000000000) : impl_AllReach.fv s r = some (areV s && allR s r) := by
  obtain ⟨q, h1, h2⟩ := implReach_l0 s hs r [] (by simpa using hl) hr
  simp only [List.nil_append, List.length_nil, Int.natCast_zero] at h1
  rw [impl_AllReach.fv_eq, slices_ContainsFunc_int_int_with_impl_AllReach_1.fv_eq, slices_IndexFunc_int_int_with_impl_AllReach_1.fv_eq, implVers_v s hs, h1]
  simp only [Option.bind_some, h2]
  cases areV s <;> simp
end Go.Proofs.Ytdoefkloanpliaa.Plain

/- Written by a program of this session (limx.py): the equations of what the printed functions come to. No condition. -/
namespace Go.Proofs.Ytdoefkloanpliaa.Print
open Go.RowKit Go.Proofs.YtdoefkloanpliaaW.PrintWords Go.Proofs.YtdoefkloanpliaaW.PrintLast Go.Proofs.Ytdoefkloanpliaa.Base
set_option linter.unusedVariables false
set_option maxRecDepth 20000
noncomputable def spec_l1New.l0v (x0 : List Int) (x3 : Int) (x4 : Int) : Option (List Int × Int × Int) := Lim fun k => spec_l1New.l0 k x0 x3 x4
noncomputable def spec_l1New.fv (l0 : List Int) : Option (List Int × Int × Int) := Lim fun k => spec_l1New.f k l0
theorem spec_l1New.l0_is (x0 : List Int) (x3 : Int) (x4 : Int) : Is (fun k => spec_l1New.l0 k x0 x3 x4) (spec_l1New.l0v x0 x3 x4) := ⟨fun k => (spec_l1New.mono_l k) x0 x3 x4, rfl⟩
theorem spec_l1New.f_is (l0 : List Int) : Is (fun k => spec_l1New.f k l0) (spec_l1New.fv l0) := ⟨fun k => spec_l1New.mono l0 k, rfl⟩
theorem spec_l1New.l0v_eq (x0 : List Int) (x3 : Int) (x4 : Int) : spec_l1New.l0v x0 x3 x4 = if x4 < (x0.length : Int) then (if x4 < 4000 then (if 0 ≤ x4 then (spec_l1New.l0v x0 (Go.bits .and .i64 (wrap64 ((wrap64 ((wrap64 (x3 * 137)) + (wrap64 (rd x0 x4)))) + 11)) 1073741823) (wrap64 (x4 + 1))) else (none)) else (some (x0, 0, x3))) else (some (x0, 0, x3)) := by
  refine Is.step (spec_l1New.l0_is x0 x3 x4).mo (fun k => by rw [spec_l1New.l0]) ?_
  · skip
    repeat' first
    | with_reducible exact spec_l1New.l0_is _ _ _
    | with_reducible exact Is.now _
    | with_reducible refine Is.ite ?_ ?_
    | with_reducible refine Is.bind ?_ (fun _ => ?_)
theorem spec_l1New.fv_eq (l0 : List Int) : spec_l1New.fv l0 = spec_l1New.l0v l0 (wrap64 (193017 + (l0.length : Int))) 0 := by
  refine Is.lim (g := fun k => spec_l1New.f k l0) ?_
  · unfold spec_l1New.f
    repeat' first
    | with_reducible exact spec_l1New.l0_is _ _ _
    | with_reducible exact Is.now _
    | with_reducible refine Is.ite ?_ ?_
    | with_reducible refine Is.bind ?_ (fun _ => ?_)
end Go.Proofs.Ytdoefkloanpliaa.Print

/- The numbers that the laws draw from bytes: each draw comes to an answer, in its range, and leaves a place in the bytes. Condition: at most 2 to the 40 bytes; the place lies in the bytes. -/
set_option linter.unusedSimpArgs false
set_option linter.unusedVariables false
namespace Go.Proofs.Ytdoefkloanpliaa.Plain
open Go.RowKit Go.Proofs.YtdoefkloanpliaaW.PrintWords Go.Proofs.Ytdoefkloanpliaa.Base Go.Proofs.Ytdoefkloanpliaa.Print

/-- A place in the bytes. -/
def St (l : List Int) (p : Int) : Prop := 0 ≤ p ∧ p ≤ l.length ∧ l.length ≤ 1000000000000
theorem and255 (x : Int) : 0 ≤ Go.bits .and .i64 x 255 ∧ Go.bits .and .i64 x 255 ≤ 255 := by
  have hle : (BitVec.ofInt 64 x &&& BitVec.ofInt 64 255).toNat ≤ 255 := by
    rw [BitVec.toNat_and]
    exact Nat.and_le_right
  have h : Go.bits .and .i64 x 255 = wrap64 ((BitVec.ofInt 64 x &&& BitVec.ofInt 64 255).toNat : Int) := by
    unfold wrap64
    exact Go.IntKind.wrap_i64 _
  rw [h, w64 (by omega) (by omega)]
  omega
theorem l1Byte_ex (l : List Int) (p r : Int) (h : St l p) : ∃ b p' r', spec_l1Byte.f l p r = some (b, p', r') ∧ St l p' ∧ 0 ≤ b ∧ b ≤ 255 := by
  obtain ⟨h0, h1, h2⟩ := h
  unfold spec_l1Byte.f
  by_cases hp : p < (l.length : Int)
  · rw [if_pos hp, if_pos h0]
    refine ⟨_, _, _, rfl, ⟨?_, ?_, h2⟩, (and255 _).1, (and255 _).2⟩
    · rw [w64 (by omega) (by omega)]
      omega
    · rw [w64 (by omega) (by omega)]
      omega
  · rw [if_neg hp]
    exact ⟨_, _, _, rfl, ⟨h0, h1, h2⟩, (and255 _).1, (and255 _).2⟩
theorem tmod_in (x n : Int) (hx : 0 ≤ x) (hn : 0 < n) : 0 ≤ Int.tmod x n ∧ Int.tmod x n < n := ⟨Int.tmod_nonneg _ hx, Int.tmod_lt_of_pos _ hn⟩
theorem l1Below_ex (l : List Int) (p r n : Int) (h : St l p) (hn : 0 < n) : ∃ b p' r', spec_l1Below.f l p r n = some (b, p', r') ∧ St l p' ∧ 0 ≤ b ∧ b < n := by
  unfold spec_l1Below.f
  rw [if_neg (by omega)]
  obtain ⟨b, p', r', e, h', b0, b1⟩ := l1Byte_ex l p r h
  rw [e]
  by_cases h256 : n ≤ 256
  · rw [if_pos h256]
    simp only [Option.bind_some]
    rw [if_neg (by omega)]
    exact ⟨_, _, _, rfl, h', tmod_in _ _ b0 hn⟩
  · rw [if_neg h256]
    simp only [Option.bind_some]
    obtain ⟨c, p2, r2, e2, h2, c0, c1⟩ := l1Byte_ex l p' r' h'
    rw [e2]
    simp only [Option.bind_some]
    obtain ⟨d, p3, r3, e3, h3, d0, d1⟩ := l1Byte_ex l p2 r2 h2
    rw [e3]
    simp only [Option.bind_some]
    rw [if_neg (by omega)]
    refine ⟨_, _, _, rfl, h3, tmod_in _ _ ?_ hn⟩
    rw [w64 (x := b * 65536) (by omega) (by omega), w64 (x := c * 256) (by omega) (by omega), w64 (x := b * 65536 + c * 256) (by omega) (by omega), w64 (by omega) (by omega)]
    omega
theorem l1Int_ex (l : List Int) (p r : Int) (xs : List Int) (h : St l p) (hx : xs ≠ []) : ∃ b p' r', spec_l1Int.f l p r xs = some (b, p', r') ∧ St l p' ∧ b ∈ xs := by
  unfold spec_l1Int.f
  have hl : 0 < xs.length := List.length_pos_iff.mpr hx
  obtain ⟨b, p', r', e, h', b0, b1⟩ := l1Below_ex l p r (xs.length : Int) h (by omega)
  rw [e]
  simp only [Option.bind_some]
  rw [if_pos b0, if_pos b1]
  refine ⟨_, _, _, rfl, h', ?_⟩
  have hb : b.toNat < xs.length := by omega
  have e1 : rd xs b = xs[b.toNat] := by simp [rd, hb]
  rw [e1]
  exact List.getElem_mem hb
theorem l1Once_ex (l : List Int) (p r n : Int) (h : St l p) (hn : 0 < n) : ∃ (b : Bool) (p' r' : Int), spec_l1Once.f l p r n = some (b, p', r') ∧ St l p' := by
  unfold spec_l1Once.f
  obtain ⟨b, p', r', e, h', b0, b1⟩ := l1Below_ex l p r n h hn
  rw [e]
  exact ⟨_, _, _, rfl, h'⟩
theorem l1New_l0 (suf : List Int) : ∀ (pre : List Int) (s : Int), (pre ++ suf).length ≤ 1000000000000 → ∃ r, spec_l1New.l0v (pre ++ suf) s (pre.length : Int) = some (pre ++ suf, 0, r) := by
  induction suf with
  | nil =>
    intro pre s _
    rw [spec_l1New.l0v_eq, if_neg (nlt_end pre)]
    exact ⟨_, rfl⟩
  | cons x suf ih =>
    intro pre s hl
    have hn : pre.length < (pre ++ x :: suf).length := by simp
    rw [spec_l1New.l0v_eq, if_pos (lt_mid pre suf x)]
    by_cases h4 : (pre.length : Int) < 4000
    · rw [if_pos h4, if_pos (by omega), up_mid pre x hn hl]
      rw [mid_snoc pre suf x] at hl ⊢
      exact ih (pre ++ [x]) _ hl
    · rw [if_neg h4]
      exact ⟨_, rfl⟩
theorem l1New_ex (l : List Int) (hl : l.length ≤ 1000000000000) : ∃ r, spec_l1New.fv l = some (l, 0, r) ∧ St l 0 := by
  rw [spec_l1New.fv_eq]
  obtain ⟨r, h⟩ := l1New_l0 l [] (wrap64 (193017 + (l.length : Int))) (by simpa using hl)
  exact ⟨r, h, by omega, by omega, hl⟩
end Go.Proofs.Ytdoefkloanpliaa.Plain

/- Written by a program of this session (limx.py): the equations of what the printed functions come to. No condition. -/
namespace Go.Proofs.Ytdoefkloanpliaa.Print
open Go.RowKit Go.Proofs.YtdoefkloanpliaaW.PrintWords Go.Proofs.YtdoefkloanpliaaW.PrintLast Go.Proofs.Ytdoefkloanpliaa.Base
set_option linter.unusedVariables false
set_option maxRecDepth 20000
noncomputable def spec_l4Put.l0v (x0 : List Int) (x1 : Int) (x5 : Int) : Option (List Int) := Lim fun k => spec_l4Put.l0 k x0 x1 x5
noncomputable def spec_l4Put.fv (l0 : List Int) (a1 : Int) : Option (List Int) := Lim fun k => spec_l4Put.f k l0 a1
theorem spec_l4Put.l0_is (x0 : List Int) (x1 : Int) (x5 : Int) : Is (fun k => spec_l4Put.l0 k x0 x1 x5) (spec_l4Put.l0v x0 x1 x5) := ⟨fun k => (spec_l4Put.mono_l k) x0 x1 x5, rfl⟩
theorem spec_l4Put.f_is (l0 : List Int) (a1 : Int) : Is (fun k => spec_l4Put.f k l0 a1) (spec_l4Put.fv l0 a1) := ⟨fun k => spec_l4Put.mono l0 a1 k, rfl⟩
theorem spec_l4Put.l0v_eq (x0 : List Int) (x1 : Int) (x5 : Int) : spec_l4Put.l0v x0 x1 x5 = if x5 < (x0.length : Int) then (if 0 ≤ x5 then (if (rd x0 x5) < x1 then (spec_l4Put.l0v x0 x1 (wrap64 (x5 + 1))) else (if (rd x0 x5) = x1 then ((some (([] : List Int) : List Int)).bind fun y336 => (if y336.length + x0.length < 17592186044416 then (some (y336 ++ x0)) else (none))) else ((some (([] : List Int) : List Int)).bind fun y342 => (if x5 ≤ (x0.length : Int) then (if y342.length + (x0.take (x5 : Int).toNat).length < 17592186044416 then ((some (y342 ++ (x0.take (x5 : Int).toNat) : List Int)).bind fun y346 => ((some (([x1] : List Int) : List Int)).bind fun y349 => (if y346.length + y349.length < 17592186044416 then ((some (y346 ++ y349 : List Int)).bind fun y352 => (if y352.length + (x0.drop (x5 : Int).toNat).length < 17592186044416 then (some (y352 ++ (x0.drop (x5 : Int).toNat))) else (none))) else (none)))) else (none)) else (none))))) else (none)) else ((some (([] : List Int) : List Int)).bind fun y359 => (if 0 ≤ x5 then (if x5 ≤ (x0.length : Int) then (if y359.length + (x0.take (x5 : Int).toNat).length < 17592186044416 then ((some (y359 ++ (x0.take (x5 : Int).toNat) : List Int)).bind fun y363 => ((some (([x1] : List Int) : List Int)).bind fun y366 => (if y363.length + y366.length < 17592186044416 then ((some (y363 ++ y366 : List Int)).bind fun y369 => (if y369.length + (x0.drop (x5 : Int).toNat).length < 17592186044416 then (some (y369 ++ (x0.drop (x5 : Int).toNat))) else (none))) else (none)))) else (none)) else (none)) else (none))) := by
  refine Is.step (spec_l4Put.l0_is x0 x1 x5).mo (fun k => by rw [spec_l4Put.l0]) ?_
  · skip
    repeat' first
    | with_reducible exact spec_l4Put.l0_is _ _ _
    | with_reducible exact Is.now _
    | with_reducible refine Is.ite ?_ ?_
    | with_reducible refine Is.bind ?_ (fun _ => ?_)
theorem spec_l4Put.fv_eq (l0 : List Int) (a1 : Int) : spec_l4Put.fv l0 a1 = spec_l4Put.l0v l0 a1 0 := by
  refine Is.lim (g := fun k => spec_l4Put.f k l0 a1) ?_
  · unfold spec_l4Put.f
    repeat' first
    | with_reducible exact spec_l4Put.l0_is _ _ _
    | with_reducible exact Is.now _
    | with_reducible refine Is.ite ?_ ?_
    | with_reducible refine Is.bind ?_ (fun _ => ?_)
end Go.Proofs.Ytdoefkloanpliaa.Print

/- Written by a program of this session (limx.py): the equations of what the printed functions come to. No condition. -/
namespace Go.Proofs.Ytdoefkloanpliaa.Print
open Go.RowKit Go.Proofs.YtdoefkloanpliaaW.PrintWords Go.Proofs.YtdoefkloanpliaaW.PrintLast Go.Proofs.Ytdoefkloanpliaa.Base
set_option linter.unusedVariables false
set_option maxRecDepth 20000
noncomputable def spec_l12Draw.l0v (x3 : List Int) (x4 : Int) (x1000 : List Int) (x1001 : Int) (x1002 : Int) : Option (List Int × Int × Int) := Lim fun k => spec_l12Draw.l0 k x3 x4 x1000 x1001 x1002
noncomputable def spec_l12Draw.fv (s0_0 : List Int) (s0_1 : Int) (s0_2 : Int) : Option (List Int × Int × Int) := Lim fun k => spec_l12Draw.f k s0_0 s0_1 s0_2
theorem spec_l12Draw.l0_is (x3 : List Int) (x4 : Int) (x1000 : List Int) (x1001 : Int) (x1002 : Int) : Is (fun k => spec_l12Draw.l0 k x3 x4 x1000 x1001 x1002) (spec_l12Draw.l0v x3 x4 x1000 x1001 x1002) := ⟨fun k => (spec_l12Draw.mono_l k) x3 x4 x1000 x1001 x1002, rfl⟩
theorem spec_l12Draw.f_is (s0_0 : List Int) (s0_1 : Int) (s0_2 : Int) : Is (fun k => spec_l12Draw.f k s0_0 s0_1 s0_2) (spec_l12Draw.fv s0_0 s0_1 s0_2) := ⟨fun k => spec_l12Draw.mono s0_0 s0_1 s0_2 k, rfl⟩
theorem spec_l12Draw.l0v_eq (x3 : List Int) (x4 : Int) (x1000 : List Int) (x1001 : Int) (x1002 : Int) : spec_l12Draw.l0v x3 x4 x1000 x1001 x1002 = if x4 > 0 then ((spec_l1Below.f x1000 x1001 x1002 6).bind fun bt385 => ((spec_l4Put.fv x3 (wrap64 (1 + bt385.1))).bind fun t388 => (spec_l12Draw.l0v t388 (wrap64 (x4 - 1)) x1000 bt385.2.1 bt385.2.2))) else (some (x3, x1001, x1002)) := by
  refine Is.step (spec_l12Draw.l0_is x3 x4 x1000 x1001 x1002).mo (fun k => by rw [spec_l12Draw.l0]) ?_
  · skip
    repeat' first
    | with_reducible exact spec_l12Draw.l0_is _ _ _ _ _
    | with_reducible exact spec_l4Put.f_is _ _
    | with_reducible exact Is.now _
    | with_reducible refine Is.ite ?_ ?_
    | with_reducible refine Is.bind ?_ (fun _ => ?_)
theorem spec_l12Draw.fv_eq (s0_0 : List Int) (s0_1 : Int) (s0_2 : Int) : spec_l12Draw.fv s0_0 s0_1 s0_2 = (spec_l1Below.f s0_0 s0_1 s0_2 4).bind fun bt376 => ((spec_l1Below.f s0_0 bt376.2.1 bt376.2.2 4).bind fun bt382 => (spec_l12Draw.l0v (([wrap64 (1 + bt376.1)] : List Int)) bt382.1 s0_0 bt382.2.1 bt382.2.2)) := by
  refine Is.lim (g := fun k => spec_l12Draw.f k s0_0 s0_1 s0_2) ?_
  · unfold spec_l12Draw.f
    repeat' first
    | with_reducible exact spec_l12Draw.l0_is _ _ _ _ _
    | with_reducible exact Is.now _
    | with_reducible refine Is.ite ?_ ?_
    | with_reducible refine Is.bind ?_ (fun _ => ?_)
noncomputable def spec_l12Any.fv (s0_0 : List Int) (s0_1 : Int) (s0_2 : Int) : Option (List Int × Int × Int) := Lim fun k => spec_l12Any.f k s0_0 s0_1 s0_2
theorem spec_l12Any.f_is (s0_0 : List Int) (s0_1 : Int) (s0_2 : Int) : Is (fun k => spec_l12Any.f k s0_0 s0_1 s0_2) (spec_l12Any.fv s0_0 s0_1 s0_2) := ⟨fun k => spec_l12Any.mono s0_0 s0_1 s0_2 k, rfl⟩
theorem spec_l12Any.fv_eq (s0_0 : List Int) (s0_1 : Int) (s0_2 : Int) : spec_l12Any.fv s0_0 s0_1 s0_2 = (spec_l12Draw.fv s0_0 s0_1 s0_2).bind fun bt391 => ((spec_l1Below.f s0_0 bt391.2.1 bt391.2.2 9).bind fun bt396 => (if bt396.1 = 0 then ((spec_l1Int.f s0_0 bt396.2.1 bt396.2.2 (([0, (-1), 9, 10] : List Int))).bind fun bt402 => (if 0 < (bt391.1.length : Int) then (some ((bt391.1.set (0 : Int).toNat bt402.1), bt402.2.1, bt402.2.2)) else (none))) else (if bt396.1 = 1 then (if 0 < (bt391.1.length : Int) then (if bt391.1.length < 17592186044416 then (some ((bt391.1 ++ [rd bt391.1 0]), bt396.2.1, bt396.2.2)) else (none)) else (none)) else (if bt396.1 = 2 then (some ((([] : List Int)), bt396.2.1, bt396.2.2)) else (some (bt391.1, bt396.2.1, bt396.2.2)))))) := by
  refine Is.lim (g := fun k => spec_l12Any.f k s0_0 s0_1 s0_2) ?_
  · unfold spec_l12Any.f
    repeat' first
    | with_reducible exact spec_l12Draw.f_is _ _ _
    | with_reducible exact Is.now _
    | with_reducible refine Is.ite ?_ ?_
    | with_reducible refine Is.bind ?_ (fun _ => ?_)
noncomputable def spec_l28Any.j0v (x4 : List Int) (x1000 : List Int) (x1001 : Int) (x1002 : Int) : Option (List Int × (List (List Int)) × Int × Int) := Lim fun k => spec_l28Any.j0 k x4 x1000 x1001 x1002
noncomputable def spec_l28Any.l0v (x4 : List Int) (x5 : List (List Int)) (x6 : Int) (x1000 : List Int) (x1001 : Int) (x1002 : Int) : Option (List Int × (List (List Int)) × Int × Int) := Lim fun k => spec_l28Any.l0 k x4 x5 x6 x1000 x1001 x1002
noncomputable def spec_l28Any.fv (s0_0 : List Int) (s0_1 : Int) (s0_2 : Int) : Option (List Int × (List (List Int)) × Int × Int) := Lim fun k => spec_l28Any.f k s0_0 s0_1 s0_2
theorem spec_l28Any.j0_is (x4 : List Int) (x1000 : List Int) (x1001 : Int) (x1002 : Int) : Is (fun k => spec_l28Any.j0 k x4 x1000 x1001 x1002) (spec_l28Any.j0v x4 x1000 x1001 x1002) := ⟨fun k => (spec_l28Any.mono_l k).1 x4 x1000 x1001 x1002, rfl⟩
theorem spec_l28Any.l0_is (x4 : List Int) (x5 : List (List Int)) (x6 : Int) (x1000 : List Int) (x1001 : Int) (x1002 : Int) : Is (fun k => spec_l28Any.l0 k x4 x5 x6 x1000 x1001 x1002) (spec_l28Any.l0v x4 x5 x6 x1000 x1001 x1002) := ⟨fun k => (spec_l28Any.mono_l k).2 x4 x5 x6 x1000 x1001 x1002, rfl⟩
theorem spec_l28Any.f_is (s0_0 : List Int) (s0_1 : Int) (s0_2 : Int) : Is (fun k => spec_l28Any.f k s0_0 s0_1 s0_2) (spec_l28Any.fv s0_0 s0_1 s0_2) := ⟨fun k => spec_l28Any.mono s0_0 s0_1 s0_2 k, rfl⟩
theorem spec_l28Any.j0v_eq (x4 : List Int) (x1000 : List Int) (x1001 : Int) (x1002 : Int) : spec_l28Any.j0v x4 x1000 x1001 x1002 = (spec_l1Below.f x1000 x1001 x1002 6).bind fun bt432 => (spec_l28Any.l0v x4 (([] : List (List Int))) bt432.1 x1000 bt432.2.1 bt432.2.2) := by
  refine Is.step (spec_l28Any.j0_is x4 x1000 x1001 x1002).mo (fun k => by rw [spec_l28Any.j0]) ?_
  · skip
    repeat' first
    | with_reducible exact spec_l28Any.l0_is _ _ _ _ _ _
    | with_reducible exact Is.now _
    | with_reducible refine Is.ite ?_ ?_
    | with_reducible refine Is.bind ?_ (fun _ => ?_)
theorem spec_l28Any.l0v_eq (x4 : List Int) (x5 : List (List Int)) (x6 : Int) (x1000 : List Int) (x1001 : Int) (x1002 : Int) : spec_l28Any.l0v x4 x5 x6 x1000 x1001 x1002 = if x6 > 0 then ((spec_l12Draw.fv x1000 x1001 x1002).bind fun bt435 => (if x5.length < 5864062014805 then (spec_l28Any.l0v x4 (x5 ++ [bt435.1]) (wrap64 (x6 - 1)) x1000 bt435.2.1 bt435.2.2) else (none))) else (if (x5.length : Int) > 0 then ((spec_l1Once.f x1000 x1001 x1002 9).bind fun bt443 => (if bt443.1 = true then ((spec_l12Any.fv x1000 bt443.2.1 bt443.2.2).bind fun bt446 => (if 0 < (x5.length : Int) then (some (x4, (x5.set (0 : Int).toNat bt446.1), bt446.2.1, bt446.2.2)) else (none))) else (some (x4, x5, bt443.2.1, bt443.2.2)))) else (some (x4, x5, x1001, x1002))) := by
  refine Is.step (spec_l28Any.l0_is x4 x5 x6 x1000 x1001 x1002).mo (fun k => by rw [spec_l28Any.l0]) ?_
  · skip
    repeat' first
    | with_reducible exact spec_l12Any.f_is _ _ _
    | with_reducible exact spec_l12Draw.f_is _ _ _
    | with_reducible exact spec_l28Any.l0_is _ _ _ _ _ _
    | with_reducible exact Is.now _
    | with_reducible refine Is.ite ?_ ?_
    | with_reducible refine Is.bind ?_ (fun _ => ?_)
theorem spec_l28Any.fv_eq (s0_0 : List Int) (s0_1 : Int) (s0_2 : Int) : spec_l28Any.fv s0_0 s0_1 s0_2 = (spec_l12Draw.fv s0_0 s0_1 s0_2).bind fun bt416 => ((spec_l1Once.f s0_0 bt416.2.1 bt416.2.2 9).bind fun bt421 => (if bt421.1 = true then ((spec_l12Any.fv s0_0 bt421.2.1 bt421.2.2).bind fun bt424 => (spec_l28Any.j0v bt424.1 s0_0 bt424.2.1 bt424.2.2)) else (spec_l28Any.j0v bt416.1 s0_0 bt421.2.1 bt421.2.2))) := by
  refine Is.lim (g := fun k => spec_l28Any.f k s0_0 s0_1 s0_2) ?_
  · unfold spec_l28Any.f
    repeat' first
    | with_reducible exact spec_l12Any.f_is _ _ _
    | with_reducible exact spec_l12Draw.f_is _ _ _
    | with_reducible exact spec_l28Any.j0_is _ _ _ _
    | with_reducible exact Is.now _
    | with_reducible refine Is.ite ?_ ?_
    | with_reducible refine Is.bind ?_ (fun _ => ?_)
noncomputable def spec_DrawUseOf.fv (l0 : List Int) : Option (List Int × (List (List Int)) × Int) := Lim fun k => spec_DrawUseOf.f k l0
theorem spec_DrawUseOf.f_is (l0 : List Int) : Is (fun k => spec_DrawUseOf.f k l0) (spec_DrawUseOf.fv l0) := ⟨fun k => spec_DrawUseOf.mono l0 k, rfl⟩
theorem spec_DrawUseOf.fv_eq (l0 : List Int) : spec_DrawUseOf.fv l0 = (spec_l1New.fv l0).bind fun bt452 => ((spec_l28Any.fv bt452.1 bt452.2.1 bt452.2.2).bind fun bt456 => ((spec_l1Below.f bt452.1 bt456.2.2.1 bt456.2.2.2 8).bind fun bt464 => (some (bt456.1, bt456.2.1, wrap64 (bt464.1 - 1))))) := by
  refine Is.lim (g := fun k => spec_DrawUseOf.f k l0) ?_
  · unfold spec_DrawUseOf.f
    repeat' first
    | with_reducible exact spec_l1New.f_is _
    | with_reducible exact spec_l28Any.f_is _ _ _
    | with_reducible exact Is.now _
    | with_reducible refine Is.ite ?_ ?_
    | with_reducible refine Is.bind ?_ (fun _ => ?_)
noncomputable def spec_DrawMayRetire.fv (l0 : List Int) : Option (List Int × (List (List Int)) × Int × Int) := Lim fun k => spec_DrawMayRetire.f k l0
theorem spec_DrawMayRetire.f_is (l0 : List Int) : Is (fun k => spec_DrawMayRetire.f k l0) (spec_DrawMayRetire.fv l0) := ⟨fun k => spec_DrawMayRetire.mono l0 k, rfl⟩
theorem spec_DrawMayRetire.fv_eq (l0 : List Int) : spec_DrawMayRetire.fv l0 = (spec_DrawUseOf.fv l0).bind fun bt467 => ((spec_l1New.fv l0).bind fun bt474 => ((spec_l1Int.f bt474.1 bt474.2.1 bt474.2.2 (([0, 200, 500, 1000, 1000, 1001, (-1)] : List Int))).bind fun bt481 => (some (bt467.1, bt467.2.1, bt467.2.2, bt481.1)))) := by
  refine Is.lim (g := fun k => spec_DrawMayRetire.f k l0) ?_
  · unfold spec_DrawMayRetire.f
    repeat' first
    | with_reducible exact spec_DrawUseOf.f_is _
    | with_reducible exact spec_l1New.f_is _
    | with_reducible exact Is.now _
    | with_reducible refine Is.ite ?_ ?_
    | with_reducible refine Is.bind ?_ (fun _ => ?_)
noncomputable def spec_DrawRetireVersion.fv (l0 : List Int) : Option (List Int × (List (List Int)) × Int × Int) := Lim fun k => spec_DrawRetireVersion.f k l0
theorem spec_DrawRetireVersion.f_is (l0 : List Int) : Is (fun k => spec_DrawRetireVersion.f k l0) (spec_DrawRetireVersion.fv l0) := ⟨fun k => spec_DrawRetireVersion.mono l0 k, rfl⟩
theorem spec_DrawRetireVersion.fv_eq (l0 : List Int) : spec_DrawRetireVersion.fv l0 = (spec_DrawMayRetire.fv l0).bind fun bt484 => (some (bt484.1, bt484.2.1, bt484.2.2.1, bt484.2.2.2)) := by
  refine Is.lim (g := fun k => spec_DrawRetireVersion.f k l0) ?_
  · unfold spec_DrawRetireVersion.f
    repeat' first
    | with_reducible exact spec_DrawMayRetire.f_is _
    | with_reducible exact Is.now _
    | with_reducible refine Is.ite ?_ ?_
    | with_reducible refine Is.bind ?_ (fun _ => ?_)
noncomputable def slices_Equal_int_int.l0v (x0 : List Int) (x1 : List Int) (x12 : Int) (x13 : Int) : Option (Bool) := Lim fun k => slices_Equal_int_int.l0 k x0 x1 x12 x13
noncomputable def slices_Equal_int_int.fv (l0 : List Int) (l1 : List Int) : Option (Bool) := Lim fun k => slices_Equal_int_int.f k l0 l1
theorem slices_Equal_int_int.l0_is (x0 : List Int) (x1 : List Int) (x12 : Int) (x13 : Int) : Is (fun k => slices_Equal_int_int.l0 k x0 x1 x12 x13) (slices_Equal_int_int.l0v x0 x1 x12 x13) := ⟨fun k => (slices_Equal_int_int.mono_l k) x0 x1 x12 x13, rfl⟩
theorem slices_Equal_int_int.f_is (l0 : List Int) (l1 : List Int) : Is (fun k => slices_Equal_int_int.f k l0 l1) (slices_Equal_int_int.fv l0 l1) := ⟨fun k => slices_Equal_int_int.mono l0 l1 k, rfl⟩
theorem slices_Equal_int_int.l0v_eq (x0 : List Int) (x1 : List Int) (x12 : Int) (x13 : Int) : slices_Equal_int_int.l0v x0 x1 x12 x13 = if x13 < x12 then (if 0 ≤ x13 then (if x13 < (x0.length : Int) then (if x13 < (x1.length : Int) then (if (rd x0 x13) = (rd x1 x13) then (slices_Equal_int_int.l0v x0 x1 x12 (wrap64 (x13 + 1))) else (some false)) else (none)) else (none)) else (none)) else (some true) := by
  refine Is.step (slices_Equal_int_int.l0_is x0 x1 x12 x13).mo (fun k => by rw [slices_Equal_int_int.l0]) ?_
  · skip
    repeat' first
    | with_reducible exact slices_Equal_int_int.l0_is _ _ _ _
    | with_reducible exact Is.now _
    | with_reducible refine Is.ite ?_ ?_
    | with_reducible refine Is.bind ?_ (fun _ => ?_)
theorem slices_Equal_int_int.fv_eq (l0 : List Int) (l1 : List Int) : slices_Equal_int_int.fv l0 l1 = if (l0.length : Int) = (l1.length : Int) then (slices_Equal_int_int.l0v l0 l1 (l0.length : Int) 0) else (some false) := by
  refine Is.lim (g := fun k => slices_Equal_int_int.f k l0 l1) ?_
  · unfold slices_Equal_int_int.f
    repeat' first
    | with_reducible exact slices_Equal_int_int.l0_is _ _ _ _
    | with_reducible exact Is.now _
    | with_reducible refine Is.ite ?_ ?_
    | with_reducible refine Is.bind ?_ (fun _ => ?_)
noncomputable def impl_EqualInts.fv (l0 : List Int) (l1 : List Int) : Option (Bool) := Lim fun k => impl_EqualInts.f k l0 l1
theorem impl_EqualInts.f_is (l0 : List Int) (l1 : List Int) : Is (fun k => impl_EqualInts.f k l0 l1) (impl_EqualInts.fv l0 l1) := ⟨fun k => impl_EqualInts.mono l0 l1 k, rfl⟩
theorem impl_EqualInts.fv_eq (l0 : List Int) (l1 : List Int) : impl_EqualInts.fv l0 l1 = (slices_Equal_int_int.fv l0 l1).bind fun t494 => (some t494) := by
  refine Is.lim (g := fun k => impl_EqualInts.f k l0 l1) ?_
  · unfold impl_EqualInts.f
    repeat' first
    | with_reducible exact slices_Equal_int_int.f_is _ _
    | with_reducible exact Is.now _
    | with_reducible refine Is.ite ?_ ?_
    | with_reducible refine Is.bind ?_ (fun _ => ?_)
end Go.Proofs.Ytdoefkloanpliaa.Print

/- The lists of versions that the laws draw from bytes: each draw comes to an answer, and the lists are short. Condition: at most 2 to the 40 bytes; the place lies in the bytes. -/
set_option linter.unusedSimpArgs false
set_option linter.unusedVariables false
namespace Go.Proofs.Ytdoefkloanpliaa.Plain
open Go.RowKit Go.Proofs.YtdoefkloanpliaaW.PrintWords Go.Proofs.Ytdoefkloanpliaa.Base Go.Proofs.Ytdoefkloanpliaa.Print

theorem put_l0 (x : Int) (l : List Int) (hl : l.length ≤ 1000) (m : Nat) : ∀ i : Nat, i + m = l.length → ∃ r, spec_l4Put.l0v l x (i : Int) = some r ∧ l.length ≤ r.length ∧ r.length ≤ l.length + 1 := by
  induction m with
  | zero =>
    intro i hi
    rw [spec_l4Put.l0v_eq, if_neg (by omega)]
    simp only [Option.bind_some, List.nil_append, List.length_nil, Nat.zero_add, List.length_append, List.length_take, List.length_drop, List.length_cons, Int.toNat_natCast]
    rw [if_pos (by omega), if_pos (by omega), if_pos (by omega), if_pos (by omega), if_pos (by omega)]
    refine ⟨_, rfl, ?_, ?_⟩ <;> simp only [List.length_append, List.length_take, List.length_drop, List.length_cons, List.length_nil] <;> omega
  | succ m ih =>
    intro i hi
    rw [spec_l4Put.l0v_eq, if_pos (by omega), if_pos (by omega)]
    by_cases h1 : rd l (i : Int) < x
    · rw [if_pos h1, w64 (by omega) (by omega)]
      exact ih (i + 1) (by omega)
    · rw [if_neg h1]
      by_cases h2 : rd l (i : Int) = x
      · rw [if_pos h2]
        simp only [Option.bind_some, List.nil_append, List.length_nil, Nat.zero_add]
        rw [if_pos (by omega)]
        exact ⟨_, rfl, by omega, by omega⟩
      · rw [if_neg h2]
        simp only [Option.bind_some, List.nil_append, List.length_nil, Nat.zero_add, List.length_append, List.length_take, List.length_drop, List.length_cons, Int.toNat_natCast]
        rw [if_pos (by omega), if_pos (by omega), if_pos (by omega), if_pos (by omega)]
        refine ⟨_, rfl, ?_, ?_⟩ <;> simp only [List.length_append, List.length_take, List.length_drop, List.length_cons, List.length_nil] <;> omega
theorem put_ex (x : Int) (l : List Int) (hl : l.length ≤ 1000) : ∃ r, spec_l4Put.fv l x = some r ∧ l.length ≤ r.length ∧ r.length ≤ l.length + 1 := by
  rw [spec_l4Put.fv_eq]
  exact put_l0 x l hl l.length 0 (by omega)
theorem l12Draw_l0 (m : Nat) : ∀ (xs l : List Int) (p r : Int), St l p → xs.length + m ≤ 900 → 1 ≤ xs.length → ∃ ys p' r', spec_l12Draw.l0v xs (m : Int) l p r = some (ys, p', r') ∧ St l p' ∧ 1 ≤ ys.length ∧ ys.length ≤ xs.length + m := by
  induction m with
  | zero =>
    intro xs l p r h hx h1
    rw [spec_l12Draw.l0v_eq, if_neg (by omega)]
    exact ⟨_, _, _, rfl, h, h1, by omega⟩
  | succ m ih =>
    intro xs l p r h hx h1
    rw [spec_l12Draw.l0v_eq, if_pos (by omega)]
    obtain ⟨b, p', r', e, h', b0, b1⟩ := l1Below_ex l p r 6 h (by decide)
    rw [e]
    simp only [Option.bind_some]
    obtain ⟨zs, ez, z1, z2⟩ := put_ex (wrap64 (1 + b)) xs (by omega)
    rw [ez]
    simp only [Option.bind_some]
    rw [w64 (by omega) (by omega), show ((m + 1 : Nat) : Int) - 1 = (m : Int) by omega]
    obtain ⟨ys, p2, r2, e2, h2, y1, y2⟩ := ih zs l p' r' h' (by omega) (by omega)
    exact ⟨ys, p2, r2, e2, h2, y1, by omega⟩
theorem l12Draw_ex (l : List Int) (p r : Int) (h : St l p) : ∃ ys p' r', spec_l12Draw.fv l p r = some (ys, p', r') ∧ St l p' ∧ 1 ≤ ys.length ∧ ys.length ≤ 4 := by
  rw [spec_l12Draw.fv_eq]
  obtain ⟨b, p1, r1, e1, h1, b0, b1⟩ := l1Below_ex l p r 4 h (by decide)
  rw [e1]
  simp only [Option.bind_some]
  obtain ⟨c, p2, r2, e2, h2, c0, c1⟩ := l1Below_ex l p1 r1 4 h1 (by decide)
  rw [e2]
  simp only [Option.bind_some]
  obtain ⟨n, rfl⟩ : ∃ n : Nat, c = (n : Int) := ⟨c.toNat, by omega⟩
  obtain ⟨ys, p3, r3, e3, h3, y1, y2⟩ := l12Draw_l0 n [wrap64 (1 + b)] l p2 r2 h2 (by simp; omega) (by simp)
  exact ⟨ys, p3, r3, e3, h3, y1, by simp only [List.length_cons, List.length_nil] at y2; omega⟩
theorem l12Any_ex (l : List Int) (p r : Int) (h : St l p) : ∃ ys p' r', spec_l12Any.fv l p r = some (ys, p', r') ∧ St l p' ∧ ys.length ≤ 5 := by
  rw [spec_l12Any.fv_eq]
  obtain ⟨xs, p1, r1, e1, h1, x1, x2⟩ := l12Draw_ex l p r h
  rw [e1]
  simp only [Option.bind_some]
  obtain ⟨c, p2, r2, e2, h2, c0, c1⟩ := l1Below_ex l p1 r1 9 h1 (by decide)
  rw [e2]
  simp only [Option.bind_some]
  by_cases k0 : c = 0
  · rw [if_pos k0]
    obtain ⟨b, p3, r3, e3, h3, _⟩ := l1Int_ex l p2 r2 [0, (-1), 9, 10] h2 (by simp)
    rw [e3]
    simp only [Option.bind_some]
    rw [if_pos (by omega)]
    exact ⟨_, _, _, rfl, h3, by simp; omega⟩
  · rw [if_neg k0]
    by_cases k1 : c = 1
    · rw [if_pos k1, if_pos (by omega), if_pos (by omega)]
      exact ⟨_, _, _, rfl, h2, by simp; omega⟩
    · rw [if_neg k1]
      by_cases k2 : c = 2
      · rw [if_pos k2]
        exact ⟨_, _, _, rfl, h2, by simp⟩
      · rw [if_neg k2]
        exact ⟨_, _, _, rfl, h2, by omega⟩
end Go.Proofs.Ytdoefkloanpliaa.Plain

/- The server and the lists that FnRetired draws. Condition: at most 2 to the 40 bytes; the place lies in the bytes. -/
set_option linter.unusedSimpArgs false
set_option linter.unusedVariables false
namespace Go.Proofs.Ytdoefkloanpliaa.Plain
open Go.RowKit Go.Proofs.YtdoefkloanpliaaW.PrintWords Go.Proofs.Ytdoefkloanpliaa.Base Go.Proofs.Ytdoefkloanpliaa.Print

/-- Few lists, all short. -/
def Few (r : List (List Int)) : Prop := r.length ≤ 1000 ∧ ∀ x ∈ r, x.length ≤ 1000
theorem few_snoc {r : List (List Int)} {x : List Int} (h : ∀ y ∈ r, y.length ≤ 1000) (hx : x.length ≤ 1000) : ∀ y ∈ r ++ [x], y.length ≤ 1000 := by
  intro y hy
  rcases List.mem_append.1 hy with hy | hy
  · exact h y hy
  · rw [List.mem_singleton.1 hy]
    exact hx
theorem few_set {r : List (List Int)} {x : List Int} (h : ∀ y ∈ r, y.length ≤ 1000) (hx : x.length ≤ 1000) (i : Nat) : ∀ y ∈ r.set i x, y.length ≤ 1000 := by
  intro y hy
  rcases List.mem_or_eq_of_mem_set hy with hy | hy
  · exact h y hy
  · rw [hy]
    exact hx
theorem l28_l0 (s : List Int) (m : Nat) : ∀ (xs : List (List Int)) (l : List Int) (p r : Int), St l p → xs.length + m ≤ 900 → (∀ y ∈ xs, y.length ≤ 1000) → ∃ ys p' r', spec_l28Any.l0v s xs (m : Int) l p r = some (s, ys, p', r') ∧ St l p' ∧ Few ys := by
  induction m with
  | zero =>
    intro xs l p r h hx hy
    rw [spec_l28Any.l0v_eq, if_neg (by omega)]
    by_cases h0 : (xs.length : Int) > 0
    · rw [if_pos h0]
      obtain ⟨b, p1, r1, e1, h1⟩ := l1Once_ex l p r 9 h (by decide)
      rw [e1]
      simp only [Option.bind_some]
      cases b with
      | false =>
        rw [if_neg (by simp)]
        exact ⟨_, _, _, rfl, h1, by omega, hy⟩
      | true =>
        obtain ⟨zs, p2, r2, e2, h2, z1⟩ := l12Any_ex l p1 r1 h1
        rw [if_pos rfl, e2]
        simp only [Option.bind_some]
        rw [if_pos (by omega)]
        exact ⟨_, _, _, rfl, h2, by rw [List.length_set]; omega, few_set hy (by omega) _⟩
    · rw [if_neg h0]
      exact ⟨_, _, _, rfl, h, by omega, hy⟩
  | succ m ih =>
    intro xs l p r h hx hy
    rw [spec_l28Any.l0v_eq, if_pos (by omega)]
    obtain ⟨zs, p1, r1, e1, h1, z1, z2⟩ := l12Draw_ex l p r h
    rw [e1]
    simp only [Option.bind_some]
    rw [if_pos (by omega), w64 (by omega) (by omega), show ((m + 1 : Nat) : Int) - 1 = (m : Int) by omega]
    exact ih (xs ++ [zs]) l p1 r1 h1 (by simp; omega) (few_snoc hy (by omega))
theorem l28_j0 (s l : List Int) (p r : Int) (h : St l p) : ∃ ys p' r', spec_l28Any.j0v s l p r = some (s, ys, p', r') ∧ St l p' ∧ Few ys := by
  rw [spec_l28Any.j0v_eq]
  obtain ⟨b, p1, r1, e1, h1, b0, b1⟩ := l1Below_ex l p r 6 h (by decide)
  rw [e1]
  simp only [Option.bind_some]
  obtain ⟨n, rfl⟩ : ∃ n : Nat, b = (n : Int) := ⟨b.toNat, by omega⟩
  exact l28_l0 s n [] l p1 r1 h1 (by simp; omega) (by simp)
theorem l28_ex (l : List Int) (p r : Int) (h : St l p) : ∃ s ys p' r', spec_l28Any.fv l p r = some (s, ys, p', r') ∧ St l p' ∧ s.length ≤ 1000 ∧ Few ys := by
  rw [spec_l28Any.fv_eq]
  obtain ⟨s, p1, r1, e1, h1, s1, s2⟩ := l12Draw_ex l p r h
  rw [e1]
  simp only [Option.bind_some]
  obtain ⟨b, p2, r2, e2, h2⟩ := l1Once_ex l p1 r1 9 h1 (by decide)
  rw [e2]
  simp only [Option.bind_some]
  cases b with
  | false =>
    obtain ⟨ys, p3, r3, e3, h3, hy⟩ := l28_j0 s l p2 r2 h2
    rw [if_neg (by simp)]
    exact ⟨s, ys, p3, r3, e3, h3, by omega, hy⟩
  | true =>
    rw [if_pos rfl]
    obtain ⟨zs, p4, r4, e4, h4, z1⟩ := l12Any_ex l p2 r2 h2
    rw [e4]
    simp only [Option.bind_some]
    obtain ⟨ys, p3, r3, e3, h3, hy⟩ := l28_j0 zs l p4 r4 h4
    exact ⟨zs, ys, p3, r3, e3, h3, by omega, hy⟩
theorem drawRetire_ex (l : List Int) (hl : l.length ≤ 1000000000000) : ∃ s ys v q, spec_DrawRetireVersion.fv l = some (s, ys, v, q) ∧ s.length ≤ 1000 ∧ Few ys := by
  obtain ⟨r, en, hn⟩ := l1New_ex l hl
  obtain ⟨s, ys, p1, r1, e1, h1, s1, hy⟩ := l28_ex l 0 r hn
  obtain ⟨b, p2, r2, e2, h2, b0, b1⟩ := l1Below_ex l p1 r1 8 h1 (by decide)
  obtain ⟨c, p3, r3, e3, h3, _⟩ := l1Int_ex l 0 r [0, 200, 500, 1000, 1000, 1001, (-1)] hn (by simp)
  refine ⟨s, ys, wrap64 (b - 1), c, ?_, s1, hy⟩
  rw [spec_DrawRetireVersion.fv_eq, spec_DrawMayRetire.fv_eq, spec_DrawUseOf.fv_eq]
  simp only [en, e1, e2, e3, Option.bind_some]
end Go.Proofs.Ytdoefkloanpliaa.Plain

/- slices.Equal on whole numbers. Condition: at most 10 to the 12 numbers. -/
set_option linter.unusedSimpArgs false
set_option linter.unusedVariables false
namespace Go.Proofs.Ytdoefkloanpliaa.Plain
open Go.RowKit Go.Proofs.YtdoefkloanpliaaW.PrintWords Go.Proofs.Ytdoefkloanpliaa.Base Go.Proofs.Ytdoefkloanpliaa.Print

theorem slicesEqual_l0 (sa : List Int) : ∀ (pre sb : List Int), sb.length = sa.length → (pre ++ sa).length ≤ 1000000000000 → slices_Equal_int_int.l0v (pre ++ sa) (pre ++ sb) ((pre ++ sa).length : Int) (pre.length : Int) = some (decide (sa = sb)) := by
  induction sa with
  | nil =>
    intro pre sb hr _
    rw [slices_Equal_int_int.l0v_eq, if_neg (nlt_end pre)]
    simp at hr
    simp [hr]
  | cons x sa ih =>
    intro pre sb hr hl
    cases sb with
    | nil => simp at hr
    | cons y sb =>
      have hn : pre.length < (pre ++ x :: sa).length := by simp
      rw [slices_Equal_int_int.l0v_eq, if_pos (lt_mid pre sa x), if_pos (by omega), if_pos (lt_mid pre sa x), if_pos (lt_mid pre sb y), rd_mid, rd_mid, up_mid pre x hn hl]
      by_cases hxy : x = y
      · subst hxy
        rw [if_pos rfl]
        rw [mid_snoc pre sa x] at hl ⊢
        rw [mid_snoc pre sb x]
        rw [ih (pre ++ [x]) sb (by simpa using hr) hl]
        simp
      · rw [if_neg hxy]
        simp [hxy]
theorem slicesEqual_v (a b : List Int) (hl : a.length ≤ 1000000000000) : slices_Equal_int_int.fv a b = some (decide (a = b)) := by
  rw [slices_Equal_int_int.fv_eq]
  by_cases h : a.length = b.length
  · rw [if_pos (by omega)]
    have h1 := slicesEqual_l0 a [] b h.symm (by simpa using hl)
    simpa using h1
  · rw [if_neg (by omega)]
    have : a ≠ b := fun e => h (by rw [e])
    simp [this]
end Go.Proofs.Ytdoefkloanpliaa.Plain

/- Written by a program of this session (limx.py): the equations of what the printed functions come to. No condition. -/
namespace Go.Proofs.Ytdoefkloanpliaa.Print
open Go.RowKit Go.Proofs.YtdoefkloanpliaaW.PrintWords Go.Proofs.YtdoefkloanpliaaW.PrintLast Go.Proofs.Ytdoefkloanpliaa.Base
set_option linter.unusedVariables false
set_option maxRecDepth 20000
noncomputable def laws_contains.l0v (x0 : List Int) (x1 : Int) (x5 : Int) : Option (Bool) := Lim fun k => laws_contains.l0 k x0 x1 x5
noncomputable def laws_contains.fv (l0 : List Int) (a1 : Int) : Option (Bool) := Lim fun k => laws_contains.f k l0 a1
theorem laws_contains.l0_is (x0 : List Int) (x1 : Int) (x5 : Int) : Is (fun k => laws_contains.l0 k x0 x1 x5) (laws_contains.l0v x0 x1 x5) := ⟨fun k => (laws_contains.mono_l k) x0 x1 x5, rfl⟩
theorem laws_contains.f_is (l0 : List Int) (a1 : Int) : Is (fun k => laws_contains.f k l0 a1) (laws_contains.fv l0 a1) := ⟨fun k => laws_contains.mono l0 a1 k, rfl⟩
theorem laws_contains.l0v_eq (x0 : List Int) (x1 : Int) (x5 : Int) : laws_contains.l0v x0 x1 x5 = if x5 < (x0.length : Int) then (if 0 ≤ x5 then (if (rd x0 x5) = x1 then (some true) else (laws_contains.l0v x0 x1 (wrap64 (x5 + 1)))) else (none)) else (some false) := by
  refine Is.step (laws_contains.l0_is x0 x1 x5).mo (fun k => by rw [laws_contains.l0]) ?_
  · skip
    repeat' first
    | with_reducible exact laws_contains.l0_is _ _ _
    | with_reducible exact Is.now _
    | with_reducible refine Is.ite ?_ ?_
    | with_reducible refine Is.bind ?_ (fun _ => ?_)
theorem laws_contains.fv_eq (l0 : List Int) (a1 : Int) : laws_contains.fv l0 a1 = laws_contains.l0v l0 a1 0 := by
  refine Is.lim (g := fun k => laws_contains.f k l0 a1) ?_
  · unfold laws_contains.f
    repeat' first
    | with_reducible exact laws_contains.l0_is _ _ _
    | with_reducible exact Is.now _
    | with_reducible refine Is.ite ?_ ?_
    | with_reducible refine Is.bind ?_ (fun _ => ?_)
noncomputable def laws_szDialedS.l0v (x0 : List (S94)) (x1 : Int) (x5 : Int) : Option (Int) := Lim fun k => laws_szDialedS.l0 k x0 x1 x5
noncomputable def laws_szDialedS.fv (l0 : List (S94)) (a1 : Int) : Option (Int) := Lim fun k => laws_szDialedS.f k l0 a1
theorem laws_szDialedS.l0_is (x0 : List (S94)) (x1 : Int) (x5 : Int) : Is (fun k => laws_szDialedS.l0 k x0 x1 x5) (laws_szDialedS.l0v x0 x1 x5) := ⟨fun k => (laws_szDialedS.mono_l k) x0 x1 x5, rfl⟩
theorem laws_szDialedS.f_is (l0 : List (S94)) (a1 : Int) : Is (fun k => laws_szDialedS.f k l0 a1) (laws_szDialedS.fv l0 a1) := ⟨fun k => laws_szDialedS.mono l0 a1 k, rfl⟩
theorem laws_szDialedS.l0v_eq (x0 : List (S94)) (x1 : Int) (x5 : Int) : laws_szDialedS.l0v x0 x1 x5 = if x5 < (x0.length : Int) then (if 0 ≤ x5 then ((laws_szDialed.f ((rd_T94 x0 x5).f0.f0) ((rd_T94 x0 x5).f0.f1) ((rd_T94 x0 x5).f0.f2) ((rd_T94 x0 x5).f1) ((rd_T94 x0 x5).f2) x1).bind fun t528 => (if t528 < 0 then (some (-1)) else (laws_szDialedS.l0v x0 t528 (wrap64 (x5 + 1))))) else (none)) else (some x1) := by
  refine Is.step (laws_szDialedS.l0_is x0 x1 x5).mo (fun k => by rw [laws_szDialedS.l0]) ?_
  · skip
    repeat' first
    | with_reducible exact laws_szDialedS.l0_is _ _ _
    | with_reducible exact Is.now _
    | with_reducible refine Is.ite ?_ ?_
    | with_reducible refine Is.bind ?_ (fun _ => ?_)
theorem laws_szDialedS.fv_eq (l0 : List (S94)) (a1 : Int) : laws_szDialedS.fv l0 a1 = if (wrap64 (a1 - (l0.length : Int))) < 0 then (some (-1)) else (laws_szDialedS.l0v l0 (wrap64 (a1 - (l0.length : Int))) 0) := by
  refine Is.lim (g := fun k => laws_szDialedS.f k l0 a1) ?_
  · unfold laws_szDialedS.f
    repeat' first
    | with_reducible exact laws_szDialedS.l0_is _ _ _
    | with_reducible exact Is.now _
    | with_reducible refine Is.ite ?_ ?_
    | with_reducible refine Is.bind ?_ (fun _ => ?_)
noncomputable def spec_MaskedBy.l0v (x0 : List (S97)) (x1 : Int) (x6 : Int) (x7 : Int) (x8 : Int) : Option (Int × Int) := Lim fun k => spec_MaskedBy.l0 k x0 x1 x6 x7 x8
noncomputable def spec_MaskedBy.j1v (x0 : List (S97)) (x1 : Int) (x6 : Int) (x7 : Int) (x8 : Int) (x20 : Bool) (x531000 : Bool) (x531001 : Int) (x531002 : List Int) (x531003 : Int) (x531004 : List Int) : Option (Int × Int) := Lim fun k => spec_MaskedBy.j1 k x0 x1 x6 x7 x8 x20 x531000 x531001 x531002 x531003 x531004
noncomputable def spec_MaskedBy.fv (l0 : List (S97)) (a1 : Int) : Option (Int × Int) := Lim fun k => spec_MaskedBy.f k l0 a1
theorem spec_MaskedBy.l0_is (x0 : List (S97)) (x1 : Int) (x6 : Int) (x7 : Int) (x8 : Int) : Is (fun k => spec_MaskedBy.l0 k x0 x1 x6 x7 x8) (spec_MaskedBy.l0v x0 x1 x6 x7 x8) := ⟨fun k => (spec_MaskedBy.mono_l k).1 x0 x1 x6 x7 x8, rfl⟩
theorem spec_MaskedBy.j1_is (x0 : List (S97)) (x1 : Int) (x6 : Int) (x7 : Int) (x8 : Int) (x20 : Bool) (x531000 : Bool) (x531001 : Int) (x531002 : List Int) (x531003 : Int) (x531004 : List Int) : Is (fun k => spec_MaskedBy.j1 k x0 x1 x6 x7 x8 x20 x531000 x531001 x531002 x531003 x531004) (spec_MaskedBy.j1v x0 x1 x6 x7 x8 x20 x531000 x531001 x531002 x531003 x531004) := ⟨fun k => (spec_MaskedBy.mono_l k).2 x0 x1 x6 x7 x8 x20 x531000 x531001 x531002 x531003 x531004, rfl⟩
theorem spec_MaskedBy.f_is (l0 : List (S97)) (a1 : Int) : Is (fun k => spec_MaskedBy.f k l0 a1) (spec_MaskedBy.fv l0 a1) := ⟨fun k => spec_MaskedBy.mono l0 a1 k, rfl⟩
theorem spec_MaskedBy.l0v_eq (x0 : List (S97)) (x1 : Int) (x6 : Int) (x7 : Int) (x8 : Int) : spec_MaskedBy.l0v x0 x1 x6 x7 x8 = if x8 < (x0.length : Int) then (if 0 ≤ x8 then (if ((rd_T97 x0 x8).f0.f0 = true) then (if ((rd_T97 x0 x8).f0.f1) < x1 then ((spec_l9Has.fv ((rd_T97 x0 x8).f2) x1).bind fun t531 => (spec_MaskedBy.j1v x0 x1 x6 x7 x8 t531 ((rd_T97 x0 x8).f0.f0) ((rd_T97 x0 x8).f0.f1) ((rd_T97 x0 x8).f0.f2) ((rd_T97 x0 x8).f1) ((rd_T97 x0 x8).f2))) else (spec_MaskedBy.j1v x0 x1 x6 x7 x8 false ((rd_T97 x0 x8).f0.f0) ((rd_T97 x0 x8).f0.f1) ((rd_T97 x0 x8).f0.f2) ((rd_T97 x0 x8).f1) ((rd_T97 x0 x8).f2))) else (spec_MaskedBy.j1v x0 x1 x6 x7 x8 true ((rd_T97 x0 x8).f0.f0) ((rd_T97 x0 x8).f0.f1) ((rd_T97 x0 x8).f0.f2) ((rd_T97 x0 x8).f1) ((rd_T97 x0 x8).f2))) else (none)) else (some (x6, x7)) := by
  refine Is.step (spec_MaskedBy.l0_is x0 x1 x6 x7 x8).mo (fun k => by rw [spec_MaskedBy.l0]) ?_
  · skip
    repeat' first
    | with_reducible exact spec_MaskedBy.j1_is _ _ _ _ _ _ _ _ _ _ _
    | with_reducible exact spec_l9Has.f_is _ _
    | with_reducible exact Is.now _
    | with_reducible refine Is.ite ?_ ?_
    | with_reducible refine Is.bind ?_ (fun _ => ?_)
theorem spec_MaskedBy.j1v_eq (x0 : List (S97)) (x1 : Int) (x6 : Int) (x7 : Int) (x8 : Int) (x20 : Bool) (x531000 : Bool) (x531001 : Int) (x531002 : List Int) (x531003 : Int) (x531004 : List Int) : spec_MaskedBy.j1v x0 x1 x6 x7 x8 x20 x531000 x531001 x531002 x531003 x531004 = if x20 = true then (spec_MaskedBy.l0v x0 x1 x6 (wrap64 (x7 + 1)) (wrap64 (x8 + 1))) else (if x531001 ≥ x1 then (spec_MaskedBy.l0v x0 x1 (wrap64 (x6 + 1)) x7 (wrap64 (x8 + 1))) else (spec_MaskedBy.l0v x0 x1 x6 x7 (wrap64 (x8 + 1)))) := by
  refine Is.step (spec_MaskedBy.j1_is x0 x1 x6 x7 x8 x20 x531000 x531001 x531002 x531003 x531004).mo (fun k => by rw [spec_MaskedBy.j1]) ?_
  · skip
    repeat' first
    | with_reducible exact spec_MaskedBy.l0_is _ _ _ _ _
    | with_reducible exact Is.now _
    | with_reducible refine Is.ite ?_ ?_
    | with_reducible refine Is.bind ?_ (fun _ => ?_)
theorem spec_MaskedBy.fv_eq (l0 : List (S97)) (a1 : Int) : spec_MaskedBy.fv l0 a1 = spec_MaskedBy.l0v l0 a1 0 0 0 := by
  refine Is.lim (g := fun k => spec_MaskedBy.f k l0 a1) ?_
  · unfold spec_MaskedBy.f
    repeat' first
    | with_reducible exact spec_MaskedBy.l0_is _ _ _ _ _
    | with_reducible exact Is.now _
    | with_reducible refine Is.ite ?_ ?_
    | with_reducible refine Is.bind ?_ (fun _ => ?_)
noncomputable def laws_toDeal.fv (a0_0 : Bool) (a0_1 : Int) (l0_2 : List Int) : Option (Bool × Int × List Int) := Lim fun k => laws_toDeal.f k a0_0 a0_1 l0_2
theorem laws_toDeal.f_is (a0_0 : Bool) (a0_1 : Int) (l0_2 : List Int) : Is (fun k => laws_toDeal.f k a0_0 a0_1 l0_2) (laws_toDeal.fv a0_0 a0_1 l0_2) := ⟨fun k => laws_toDeal.mono a0_0 a0_1 l0_2 k, rfl⟩
theorem laws_toDeal.fv_eq (a0_0 : Bool) (a0_1 : Int) (l0_2 : List Int) : laws_toDeal.fv a0_0 a0_1 l0_2 = (laws_toIntS.fv l0_2).bind fun t535 => (some (a0_0, a0_1, t535)) := by
  refine Is.lim (g := fun k => laws_toDeal.f k a0_0 a0_1 l0_2) ?_
  · unfold laws_toDeal.f
    repeat' first
    | with_reducible exact laws_toIntS.f_is _
    | with_reducible exact Is.now _
    | with_reducible refine Is.ite ?_ ?_
    | with_reducible refine Is.bind ?_ (fun _ => ?_)
noncomputable def laws_toDialed.fv (a0_0 : Bool) (a0_1 : Int) (l0_2 : List Int) (a0_3 : Int) (l0_4 : List Int) : Option (Bool × Int × List Int × Int × List Int) := Lim fun k => laws_toDialed.f k a0_0 a0_1 l0_2 a0_3 l0_4
theorem laws_toDialed.f_is (a0_0 : Bool) (a0_1 : Int) (l0_2 : List Int) (a0_3 : Int) (l0_4 : List Int) : Is (fun k => laws_toDialed.f k a0_0 a0_1 l0_2 a0_3 l0_4) (laws_toDialed.fv a0_0 a0_1 l0_2 a0_3 l0_4) := ⟨fun k => laws_toDialed.mono a0_0 a0_1 l0_2 a0_3 l0_4 k, rfl⟩
theorem laws_toDialed.fv_eq (a0_0 : Bool) (a0_1 : Int) (l0_2 : List Int) (a0_3 : Int) (l0_4 : List Int) : laws_toDialed.fv a0_0 a0_1 l0_2 a0_3 l0_4 = (laws_toDeal.fv a0_0 a0_1 l0_2).bind fun bt541 => ((laws_toIntS.fv l0_4).bind fun t546 => (some (bt541.1, bt541.2.1, bt541.2.2, a0_3, t546))) := by
  refine Is.lim (g := fun k => laws_toDialed.f k a0_0 a0_1 l0_2 a0_3 l0_4) ?_
  · unfold laws_toDialed.f
    repeat' first
    | with_reducible exact laws_toDeal.f_is _ _ _
    | with_reducible exact laws_toIntS.f_is _
    | with_reducible exact Is.now _
    | with_reducible refine Is.ite ?_ ?_
    | with_reducible refine Is.bind ?_ (fun _ => ?_)
noncomputable def laws_toDialedS.l0v (x0 : List (S94)) (x3 : List (S97)) (x4 : Int) : Option ((List (S97))) := Lim fun k => laws_toDialedS.l0 k x0 x3 x4
noncomputable def laws_toDialedS.fv (l0 : List (S94)) : Option ((List (S97))) := Lim fun k => laws_toDialedS.f k l0
theorem laws_toDialedS.l0_is (x0 : List (S94)) (x3 : List (S97)) (x4 : Int) : Is (fun k => laws_toDialedS.l0 k x0 x3 x4) (laws_toDialedS.l0v x0 x3 x4) := ⟨fun k => (laws_toDialedS.mono_l k) x0 x3 x4, rfl⟩
theorem laws_toDialedS.f_is (l0 : List (S94)) : Is (fun k => laws_toDialedS.f k l0) (laws_toDialedS.fv l0) := ⟨fun k => laws_toDialedS.mono l0 k, rfl⟩
theorem laws_toDialedS.l0v_eq (x0 : List (S94)) (x3 : List (S97)) (x4 : Int) : laws_toDialedS.l0v x0 x3 x4 = if x4 < (x0.length : Int) then (if 0 ≤ x4 then ((laws_toDialed.fv ((rd_T94 x0 x4).f0.f0) ((rd_T94 x0 x4).f0.f1) ((rd_T94 x0 x4).f0.f2) ((rd_T94 x0 x4).f1) ((rd_T94 x0 x4).f2)).bind fun bt553 => (if x4 < (x3.length : Int) then (laws_toDialedS.l0v x0 (x3.set (x4 : Int).toNat (⟨(⟨bt553.1, bt553.2.1, bt553.2.2.1⟩ : S95), bt553.2.2.2.1, bt553.2.2.2.2⟩ : S97)) (wrap64 (x4 + 1))) else (none))) else (none)) else (some x3) := by
  refine Is.step (laws_toDialedS.l0_is x0 x3 x4).mo (fun k => by rw [laws_toDialedS.l0]) ?_
  · skip
    repeat' first
    | with_reducible exact laws_toDialed.f_is _ _ _ _ _
    | with_reducible exact laws_toDialedS.l0_is _ _ _
    | with_reducible exact Is.now _
    | with_reducible refine Is.ite ?_ ?_
    | with_reducible refine Is.bind ?_ (fun _ => ?_)
theorem laws_toDialedS.fv_eq (l0 : List (S94)) : laws_toDialedS.fv l0 = if 0 ≤ (l0.length : Int) then (if ((l0.length : Int) : Int).toNat ≤ 3909374676536 then (laws_toDialedS.l0v l0 (List.replicate ((l0.length : Int) : Int).toNat z97) 0) else (none)) else (none) := by
  refine Is.lim (g := fun k => laws_toDialedS.f k l0) ?_
  · unfold laws_toDialedS.f
    repeat' first
    | with_reducible exact laws_toDialedS.l0_is _ _ _
    | with_reducible exact Is.now _
    | with_reducible refine Is.ite ?_ ?_
    | with_reducible refine Is.bind ?_ (fun _ => ?_)
end Go.Proofs.Ytdoefkloanpliaa.Print

/- Written by a program of this session (limx.py): the equations of what the printed functions come to. No condition. -/
namespace Go.Proofs.Ytdoefkloanpliaa.Print
open Go.RowKit Go.Proofs.YtdoefkloanpliaaW.PrintWords Go.Proofs.YtdoefkloanpliaaW.PrintLast Go.Proofs.Ytdoefkloanpliaa.Base
set_option linter.unusedVariables false
set_option maxRecDepth 20000
noncomputable def laws_FnRetired.j0v (x3 : List Int) (x4 : List (List Int)) (x5 : Int) (x7 : List Int) (x8 : Bool) (x45 : Bool) : Option (Bool) := Lim fun k => laws_FnRetired.j0 k x3 x4 x5 x7 x8 x45
noncomputable def laws_FnRetired.j1v (x3 : List Int) (x4 : List (List Int)) (x5 : Int) (x67 : Bool) : Option (Bool) := Lim fun k => laws_FnRetired.j1 k x3 x4 x5 x67
noncomputable def laws_FnRetired.l0v (x3 : List Int) (x4 : List (List Int)) (x5 : Int) (x9 : List Int) (x10 : Int) (x11 : Int) : Option (Bool) := Lim fun k => laws_FnRetired.l0 k x3 x4 x5 x9 x10 x11
noncomputable def laws_FnRetired.fv (l0 : List Int) : Option (Bool) := Lim fun k => laws_FnRetired.f k l0
theorem laws_FnRetired.j0_is (x3 : List Int) (x4 : List (List Int)) (x5 : Int) (x7 : List Int) (x8 : Bool) (x45 : Bool) : Is (fun k => laws_FnRetired.j0 k x3 x4 x5 x7 x8 x45) (laws_FnRetired.j0v x3 x4 x5 x7 x8 x45) := ⟨fun k => (laws_FnRetired.mono_l k).1 x3 x4 x5 x7 x8 x45, rfl⟩
theorem laws_FnRetired.j1_is (x3 : List Int) (x4 : List (List Int)) (x5 : Int) (x67 : Bool) : Is (fun k => laws_FnRetired.j1 k x3 x4 x5 x67) (laws_FnRetired.j1v x3 x4 x5 x67) := ⟨fun k => (laws_FnRetired.mono_l k).2.1 x3 x4 x5 x67, rfl⟩
theorem laws_FnRetired.l0_is (x3 : List Int) (x4 : List (List Int)) (x5 : Int) (x9 : List Int) (x10 : Int) (x11 : Int) : Is (fun k => laws_FnRetired.l0 k x3 x4 x5 x9 x10 x11) (laws_FnRetired.l0v x3 x4 x5 x9 x10 x11) := ⟨fun k => (laws_FnRetired.mono_l k).2.2 x3 x4 x5 x9 x10 x11, rfl⟩
theorem laws_FnRetired.f_is (l0 : List Int) : Is (fun k => laws_FnRetired.f k l0) (laws_FnRetired.fv l0) := ⟨fun k => laws_FnRetired.mono l0 k, rfl⟩
theorem laws_FnRetired.j0v_eq (x3 : List Int) (x4 : List (List Int)) (x5 : Int) (x7 : List Int) (x8 : Bool) (x45 : Bool) : laws_FnRetired.j0v x3 x4 x5 x7 x8 x45 = if x45 = true then (some false) else (if x8 = true then ((laws_contains.fv x7 x5).bind fun t511 => (if t511 = true then (laws_FnRetired.j1v x3 x4 x5 true) else ((impl_AreVersions.fv x7).bind fun t512 => (if t512 = true then ((impl_AllReach.fv x3 x4).bind fun t513 => (if t513 = true then ((impl_AllReach.fv x7 x4).bind fun t514 => (laws_FnRetired.j1v x3 x4 x5 (!t514))) else (laws_FnRetired.j1v x3 x4 x5 false))) else (laws_FnRetired.j1v x3 x4 x5 true))))) else (laws_FnRetired.j1v x3 x4 x5 false)) := by
  refine Is.step (laws_FnRetired.j0_is x3 x4 x5 x7 x8 x45).mo (fun k => by rw [laws_FnRetired.j0]) ?_
  · skip
    repeat' first
    | with_reducible exact impl_AllReach.f_is _ _
    | with_reducible exact impl_AreVersions.f_is _
    | with_reducible exact laws_FnRetired.j1_is _ _ _ _
    | with_reducible exact laws_contains.f_is _ _
    | with_reducible exact Is.now _
    | with_reducible refine Is.ite ?_ ?_
    | with_reducible refine Is.bind ?_ (fun _ => ?_)
theorem laws_FnRetired.j1v_eq (x3 : List Int) (x4 : List (List Int)) (x5 : Int) (x67 : Bool) : laws_FnRetired.j1v x3 x4 x5 x67 = if x67 = true then (some false) else ((impl_Stranded.fv x3 x4 x5).bind fun t515 => (laws_FnRetired.l0v x3 x4 x5 t515 0 1)) := by
  refine Is.step (laws_FnRetired.j1_is x3 x4 x5 x67).mo (fun k => by rw [laws_FnRetired.j1]) ?_
  · skip
    repeat' first
    | with_reducible exact impl_Stranded.f_is _ _ _
    | with_reducible exact laws_FnRetired.l0_is _ _ _ _ _ _
    | with_reducible exact Is.now _
    | with_reducible refine Is.ite ?_ ?_
    | with_reducible refine Is.bind ?_ (fun _ => ?_)
theorem laws_FnRetired.l0v_eq (x3 : List Int) (x4 : List (List Int)) (x5 : Int) (x9 : List Int) (x10 : Int) (x11 : Int) : laws_FnRetired.l0v x3 x4 x5 x9 x10 x11 = if x11 ≤ 9 then ((impl_UseOf.fv x3 x4 x11).bind fun t518 => (laws_FnRetired.l0v x3 x4 x5 x9 (wrap64 (x10 + t518)) (wrap64 (x11 + 1)))) else ((impl_UseOf.fv x3 x4 x5).bind fun t519 => (if (x9.length : Int) ≤ t519 then (if x10 ≤ (x4.length : Int) then ((impl_AllReach.fv x3 x4).bind fun t520 => ((impl_AreVersions.fv x3).bind fun t521 => (if t521 = true then (some (t520 == (x10 == (x4.length : Int)))) else (some (t520 == false))))) else (some false)) else (some false))) := by
  refine Is.step (laws_FnRetired.l0_is x3 x4 x5 x9 x10 x11).mo (fun k => by rw [laws_FnRetired.l0]) ?_
  · skip
    repeat' first
    | with_reducible exact impl_AllReach.f_is _ _
    | with_reducible exact impl_AreVersions.f_is _
    | with_reducible exact impl_UseOf.f_is _ _ _
    | with_reducible exact laws_FnRetired.l0_is _ _ _ _ _ _
    | with_reducible exact Is.now _
    | with_reducible refine Is.ite ?_ ?_
    | with_reducible refine Is.bind ?_ (fun _ => ?_)
theorem laws_FnRetired.fv_eq (l0 : List Int) : laws_FnRetired.fv l0 = (laws_big.f l0).bind fun t496 => (if t496 = true then (some true) else ((spec_DrawRetireVersion.fv l0).bind fun bt497 => ((impl_RetireVersion.fv bt497.1 bt497.2.1 bt497.2.2.1 bt497.2.2.2).bind fun bt505 => ((impl_MayRetire.fv bt497.1 bt497.2.1 bt497.2.2.1 bt497.2.2.2).bind fun t509 => (if (bt505.2 != t509) = true then (laws_FnRetired.j0v bt497.1 bt497.2.1 bt497.2.2.1 bt505.1 bt505.2 true) else (if bt505.2 = true then (laws_FnRetired.j0v bt497.1 bt497.2.1 bt497.2.2.1 bt505.1 bt505.2 false) else ((impl_EqualInts.fv bt505.1 bt497.1).bind fun t510 => (laws_FnRetired.j0v bt497.1 bt497.2.1 bt497.2.2.1 bt505.1 bt505.2 (!t510))))))))) := by
  refine Is.lim (g := fun k => laws_FnRetired.f k l0) ?_
  · unfold laws_FnRetired.f
    repeat' first
    | with_reducible exact impl_EqualInts.f_is _ _
    | with_reducible exact impl_MayRetire.f_is _ _ _ _
    | with_reducible exact impl_RetireVersion.f_is _ _ _ _
    | with_reducible exact laws_FnRetired.j0_is _ _ _ _ _ _
    | with_reducible exact spec_DrawRetireVersion.f_is _
    | with_reducible exact Is.now _
    | with_reducible refine Is.ite ?_ ?_
    | with_reducible refine Is.bind ?_ (fun _ => ?_)
end Go.Proofs.Ytdoefkloanpliaa.Print

/- FnRetired: whatever the bytes that the law draws from, after a version is retired everybody still reaches the server. No condition. -/
set_option linter.unusedSimpArgs false
set_option linter.unusedVariables false
namespace Go.Proofs.Ytdoefkloanpliaa.Pure
open Go.RowKit Go.Proofs.YtdoefkloanpliaaW.PrintWords Go.Proofs.YtdoefkloanpliaaW.PrintMore Go.Proofs.Ytdoefkloanpliaa.Base Go.Proofs.Ytdoefkloanpliaa.Print Go.Proofs.Ytdoefkloanpliaa.Plain

theorem contains_l0 (x : Int) (suf : List Int) : ∀ (pre : List Int), (pre ++ suf).length ≤ 1000000000000 →
    laws_contains.l0v (pre ++ suf) x (pre.length : Int) = some (mem suf x) := by
  induction suf with
  | nil =>
    intro pre _
    rw [laws_contains.l0v_eq, if_neg (nlt_end pre)]
    simp [mem]
  | cons y suf ih =>
    intro pre hl
    have hn : pre.length < (pre ++ y :: suf).length := by simp
    rw [laws_contains.l0v_eq, if_pos (lt_mid pre suf y), if_pos (by omega), rd_mid, mem_cons]
    by_cases hxy : y = x
    · rw [if_pos hxy]
      simp [hxy]
    · rw [if_neg hxy, up_mid pre y hn hl]
      rw [mid_snoc pre suf y] at hl ⊢
      rw [ih (pre ++ [y]) hl]
      simp [hxy]
theorem contains_v (l : List Int) (x : Int) (hl : l.length ≤ 1000000000000) : laws_contains.fv l x = some (mem l x) := by
  rw [laws_contains.fv_eq]
  simpa using contains_l0 x l [] (by simpa using hl)
section
variable (s : List Int) (r : List (List Int)) (v : Int) (hs : s.length ≤ 1000) (hr : Few r)
include hs hr
theorem r_end (n : List Int) (hn : (n.length : Int) ≤ if v < 1 then 0 else uses s v r) : laws_FnRetired.l0v s r v n (reach s r) 10 = some true := by
  have hl : ∀ x ∈ r, x.length ≤ 1000000000000 := fun x hx => by have := hr.2 x hx; omega
  have h1 : r.length ≤ 1000000000000 := by have := hr.1; omega
  obtain ⟨_, h2, h3⟩ := reach_all s r
  rw [laws_FnRetired.l0v_eq, if_neg (by omega), implUse_v s r v (by omega) h1 hl, implReach_v s r (by omega) h1 hl, implVers_v s (by omega)]
  simp only [Option.bind_some]
  rw [if_pos hn, if_pos h2]
  cases hv : areV s with
  | false => simp
  | true =>
    by_cases ha : allR s r = true
    · simp [ha, h3.mp ha]
    · have hb : ¬ reach s r = r.length := fun e => ha (h3.mpr e)
      simp [ha, hb]
theorem r_l0 (n : List Int) (hn : (n.length : Int) ≤ if v < 1 then 0 else uses s v r) : laws_FnRetired.l0v s r v n 0 1 = some true := by
  have hl : ∀ x ∈ r, x.length ≤ 1000000000000 := fun x hx => by have := hr.2 x hx; omega
  have h1 : r.length ≤ 1000000000000 := by have := hr.1; omega
  have hb := hr.1
  have step : ∀ (k c : Int), 1 ≤ k → k ≤ 9 → 0 ≤ c → c ≤ 1000000 → laws_FnRetired.l0v s r v n c k = laws_FnRetired.l0v s r v n (c + uses s k r) (k + 1) := by
    intro k c h0 h9 c0 c1
    have hu := uses_in s k r
    rw [laws_FnRetired.l0v_eq, if_pos h9, implUse_v s r k (by omega) h1 hl, if_neg (by omega)]
    simp only [Option.bind_some]
    rw [w64 (by omega) (by omega), w64 (by omega) (by omega)]
  have u1 := uses_in s 1 r
  have u2 := uses_in s 2 r
  have u3 := uses_in s 3 r
  have u4 := uses_in s 4 r
  have u5 := uses_in s 5 r
  have u6 := uses_in s 6 r
  have u7 := uses_in s 7 r
  have u8 := uses_in s 8 r
  rw [step 1 _ (by omega) (by omega) (by omega) (by omega), step (1 + 1) _ (by omega) (by omega) (by omega) (by omega)]
  rw [step (1 + 1 + 1) _ (by omega) (by omega) (by simp only [Int.reduceAdd]; omega) (by simp only [Int.reduceAdd]; omega)]
  rw [step (1 + 1 + 1 + 1) _ (by omega) (by omega) (by simp only [Int.reduceAdd]; omega) (by simp only [Int.reduceAdd]; omega)]
  rw [step (1 + 1 + 1 + 1 + 1) _ (by omega) (by omega) (by simp only [Int.reduceAdd]; omega) (by simp only [Int.reduceAdd]; omega)]
  rw [step (1 + 1 + 1 + 1 + 1 + 1) _ (by omega) (by omega) (by simp only [Int.reduceAdd]; omega) (by simp only [Int.reduceAdd]; omega)]
  rw [step (1 + 1 + 1 + 1 + 1 + 1 + 1) _ (by omega) (by omega) (by simp only [Int.reduceAdd]; omega) (by simp only [Int.reduceAdd]; omega)]
  rw [step (1 + 1 + 1 + 1 + 1 + 1 + 1 + 1) _ (by omega) (by omega) (by simp only [Int.reduceAdd]; omega) (by simp only [Int.reduceAdd]; omega)]
  rw [step (1 + 1 + 1 + 1 + 1 + 1 + 1 + 1 + 1) _ (by omega) (by omega) (by simp only [Int.reduceAdd]; omega) (by simp only [Int.reduceAdd]; omega)]
  simp only [Int.reduceAdd, Int.zero_add]
  rw [uses_sum]
  exact r_end s r v hs hr n hn
theorem r_j1 : laws_FnRetired.j1v s r v false = some true := by
  have hl : ∀ x ∈ r, x.length ≤ 1000000000000 := fun x hx => by have := hr.2 x hx; omega
  have h1 : r.length ≤ 1000000000000 := by have := hr.1; omega
  rw [laws_FnRetired.j1v_eq, if_neg (by simp), implLeft_v s r v (by omega) h1 hl]
  exact r_l0 s r v hs hr _ (lefts_uses s v r 0)
end
theorem FnRetired : laws_FnRetired.Pure := by
  intro l0 _ _ _
  refine ends (g := fun k => laws_FnRetired.f k l0) ?_
  show laws_FnRetired.fv l0 = some true
  rw [laws_FnRetired.fv_eq]
  unfold laws_big.f
  simp only [Option.bind_some, decide_eq_true_eq]
  split
  · rfl
  · obtain ⟨s, r, v, p, ed, hs, hr⟩ := drawRetire_ex l0 (by omega)
    have hl : ∀ x ∈ r, x.length ≤ 1000000000000 := fun x hx => by have := hr.2 x hx; omega
    have h1 : r.length ≤ 1000000000000 := by have := hr.1; omega
    have hj := r_j1 s r v hs hr
    have hd := drop_len s v
    rw [ed]
    simp only [Option.bind_some]
    rw [impl_RetireVersion.fv_eq, implMay_v s r v p (by omega) h1 hl]
    simp only [Option.bind_some]
    cases hm : mayR s r v p with
    | false =>
      rw [if_neg (by simp)]
      simp only [List.nil_append, List.length_nil, Nat.zero_add]
      rw [if_pos (by omega)]
      simp only [Option.bind_some]
      rw [if_neg (by simp), if_neg (by simp), impl_EqualInts.fv_eq, slicesEqual_v s s (by omega)]
      simp only [Option.bind_some, decide_true, Bool.not_true]
      rw [laws_FnRetired.j0v_eq, if_neg (by simp), if_neg (by simp)]
      exact hj
    | true =>
      rw [if_pos rfl, implDrop_v s v (by omega)]
      simp only [Option.bind_some]
      rw [if_neg (by simp)]
      simp only [if_true]
      rw [laws_FnRetired.j0v_eq, if_neg (by simp)]
      simp only [if_true]
      rw [contains_v _ _ (by omega)]
      simp only [Option.bind_some]
      simp only [mayR, Bool.and_eq_true, Bool.not_eq_true', decide_eq_false_iff_not, decide_eq_true_eq] at hm
      obtain ⟨m1, m2, m3, m4, m5, m6⟩ := hm
      have hc : mem (drop s v) v = false := by
        simp only [mem, decide_eq_false_iff_not]
        exact fun h => (drop_mem.mp h).2 rfl
      rw [hc, if_neg (by simp), implVers_v _ (by omega), drop_two m1 m3, implReach_v s r (by omega) h1 hl, implReach_v (drop s v) r (by omega) h1 hl, drop_two m1 m3]
      simp only [Option.bind_some, if_true, Bool.true_and, m1]
      cases ha : allR s r with
      | false => exact hj
      | true =>
        rw [if_pos rfl, still m5 ha]
        exact hj
end Go.Proofs.Ytdoefkloanpliaa.Pure
