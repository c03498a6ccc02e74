/- FnExactWorksWith: whatever the line of machines and the peer, the program's WorksWith and the reference's WorksWith return the same, leave the machines as they were, and the result shares no memory. No condition. -/
import Derived.Test.YtldcchjbaglppaaLimsFnExactWorksWith
import Derived.Test.YtldcchjbaglppaaPrint3
import Derived.Test.YtldcchjbaglppaaPrint8
import Derived.Test.YtldcchjbaglppaaPrint0
import Derived.Test.YtldcchjbaglppaaPrint1
import Derived.Test.YtldcchjbaglppaaPrint2
import Derived.Test.YtldcchjbaglppaaPrint11
import Derived.Test.YtldcchjbaglppaaPrint9
import Derived.Test.YtldcchjbaglppaaPrint10
import Derived.Test.YtldcchjbaglppaaPrint13
import Derived.Test.YtldcchjbaglppaaPrint7
/- Lists read by a whole number's index, and whole numbers that fit. No condition. -/
set_option linter.unusedSimpArgs false
set_option linter.unusedVariables false
namespace Go.Proofs.Ytldcchjbaglppaa.Plain
open Go.RowKit Go.Proofs.YtldcchjbaglppaaW.PrintWords

theorem w64 {x : Int} (h0 : -9223372036854775808 ≤ x) (h1 : x ≤ 9223372036854775807) : wrap64 x = x := by
  unfold wrap64
  omega
theorem rd_mid (pre suf : List Int) (x : Int) : rd (pre ++ x :: suf) (pre.length : Int) = x := by simp [rd]
theorem lt_mid {α : Type} (pre suf : List α) (x : α) : (pre.length : Int) < ((pre ++ x :: suf).length : Int) := by
  simp
  omega
theorem nlt_end {α : Type} (pre : List α) : ¬ (pre.length : Int) < ((pre ++ []).length : Int) := by simp
theorem up_mid {α : Type} (pre : List α) (x : α) {n : Nat} (h : pre.length < n) (hn : n ≤ 1000000000000) : wrap64 ((pre.length : Int) + 1) = ((pre ++ [x]).length : Int) := by
  rw [w64 (by omega) (by omega)]
  simp
theorem set_mid {α : Type} (pre suf : List α) (x y : α) : (pre ++ x :: suf).set (pre.length : Int).toNat y = (pre ++ [y]) ++ suf := by
  rw [Int.toNat_natCast, List.set_append_right _ _ (Nat.le_refl _), Nat.sub_self]
  simp
theorem mid_snoc {α : Type} (pre suf : List α) (x : α) : pre ++ x :: suf = (pre ++ [x]) ++ suf := by simp
theorem beq_ints (a b : List Int) : (a == b) = decide (a = b) := by
  by_cases h : a = b <;> simp [h]
end Go.Proofs.Ytldcchjbaglppaa.Plain

/- Ranges, of the program and of the reference. No condition. -/
set_option linter.unusedSimpArgs false
set_option linter.unusedVariables false
namespace Go.Proofs.Ytldcchjbaglppaa.Plain
open Go.RowKit Go.Proofs.YtldcchjbaglppaaW.PrintWords Go.Proofs.Ytldcchjbaglppaa.Base Go.Proofs.Ytldcchjbaglppaa.Print

/-- lo ≤ n ≤ hi -/
def inR (lo hi n : Int) : Bool := decide (lo ≤ n) && decide (n ≤ hi)
theorem inR_true {lo hi n : Int} : inR lo hi n = true ↔ lo ≤ n ∧ n ≤ hi := by simp [inR]
theorem inR_false {lo hi n : Int} : inR lo hi n = false ↔ n < lo ∨ hi < n := by
  simp only [inR, Bool.and_eq_false_iff, decide_eq_false_iff_not]
  omega
theorem inRange_f (n lo hi : Int) : impl_InRange.f n lo hi = some (inR lo hi n) := by
  unfold impl_InRange.f inR
  by_cases h : lo ≤ n <;> simp [h]
theorem l1In_f (n lo hi : Int) : spec_l1In.f n lo hi = some (inR lo hi n) := by
  unfold spec_l1In.f inR
  by_cases h : lo ≤ n <;> simp [h]
end Go.Proofs.Ytldcchjbaglppaa.Plain

/- Lists of versions: ascending, from 1 to 9; membership; what two lists share. No program. No condition. -/
set_option linter.unusedSimpArgs false
set_option linter.unusedVariables false
namespace Go.Proofs.Ytldcchjbaglppaa.Plain
open Go.RowKit Go.Proofs.YtldcchjbaglppaaW.PrintWords Go.Proofs.Ytldcchjbaglppaa.Base Go.Proofs.Ytldcchjbaglppaa.Print

/-- Versions that grow, all above p. -/
def vers : Int → List Int → Bool
  | _, [] => true
  | p, x :: l => inR 1 9 x && (decide (p < x) && vers x l)
/-- A list of versions, and not empty. -/
def areV (l : List Int) : Bool := vers 0 l && decide (0 < l.length)
/-- Is x in the list? -/
def mem (l : List Int) (x : Int) : Bool := decide (x ∈ l)
/-- What two lists share. -/
def com (a b : List Int) : List Int := a.filter (mem b)
/-- The best version that two lists share. -/
def best (a b : List Int) : Int := if areV a && areV b then (com a b).getLastD 0 else 0
theorem mem_cons (x y : Int) (l : List Int) : mem (y :: l) x = (decide (y = x) || mem l x) := by
  by_cases h : y = x
  · simp [mem, h]
  · have h' : ¬ x = y := fun e => h e.symm
    simp [mem, h, h']
theorem mem_nil (x : Int) : mem [] x = false := by simp [mem]
theorem vers_le {p q : Int} {l : List Int} (h : vers p l = true) (hq : q ≤ p) : vers q l = true := by
  cases l with
  | nil => rfl
  | cons x l =>
    simp only [vers, Bool.and_eq_true, decide_eq_true_eq] at h ⊢
    exact ⟨h.1, by omega, h.2.2⟩
theorem vers_filter (f : Int → Bool) {l : List Int} : ∀ {p : Int}, vers p l = true → vers p (l.filter f) = true := by
  induction l with
  | nil =>
    intro p h
    rfl
  | cons x l ih =>
    intro p h
    simp only [vers, Bool.and_eq_true, decide_eq_true_eq] at h
    cases hf : f x with
    | true =>
      rw [List.filter_cons_of_pos hf]
      simp only [vers, Bool.and_eq_true, decide_eq_true_eq]
      exact ⟨h.1, h.2.1, ih h.2.2⟩
    | false =>
      rw [List.filter_cons_of_neg (by simp [hf])]
      exact vers_le (ih h.2.2) (by omega)
theorem vers_len {l : List Int} : ∀ {p : Int}, vers p l = true → p ≤ 9 → (l.length : Int) ≤ 9 - p := by
  induction l with
  | nil =>
    intro p _ hp
    simp
    omega
  | cons x l ih =>
    intro p h hp
    simp only [vers, Bool.and_eq_true, decide_eq_true_eq, inR_true] at h
    have := ih h.2.2 (by omega)
    simp only [List.length_cons]
    omega
theorem areV_len {l : List Int} (h : areV l = true) : l.length ≤ 9 := by
  simp only [areV, Bool.and_eq_true] at h
  have := vers_len h.1 (by omega)
  omega
theorem vers_mem {l : List Int} : ∀ {p : Int}, vers p l = true → ∀ x ∈ l, 1 ≤ x ∧ x ≤ 9 ∧ p < x := by
  induction l with
  | nil =>
    intro p _ x hx
    cases hx
  | cons y l ih =>
    intro p h x hx
    simp only [vers, Bool.and_eq_true, decide_eq_true_eq, inR_true] at h
    cases hx with
    | head => omega
    | tail _ hx =>
      have := ih h.2.2 x hx
      omega
theorem areV_mem {l : List Int} (h : areV l = true) : ∀ x ∈ l, 1 ≤ x ∧ x ≤ 9 := by
  simp only [areV, Bool.and_eq_true] at h
  intro x hx
  have := vers_mem h.1 x hx
  omega
theorem com_len (a b : List Int) : (com a b).length ≤ a.length := List.length_filter_le _ _
theorem lastD_cons (x : Int) (l : List Int) (d : Int) : (x :: l).getLastD d = l.getLastD x := by
  cases l <;> rfl
theorem rd_lastD (pre suf : List Int) (h : pre ≠ []) : rd (pre ++ suf) ((pre.length : Int) - 1) = pre.getLastD 0 := by
  have hl : 0 < pre.length := List.length_pos_iff.mpr h
  have e : ((pre.length : Int) - 1).toNat = pre.length - 1 := by omega
  have h1 : pre.length - 1 < pre.length := by omega
  simp [rd, e, List.getD_eq_getElem?_getD, List.getElem?_append_left h1, List.getLastD_eq_getLast?, List.getLast?_eq_getElem?]
theorem lastD_mem (l : List Int) (h : l ≠ []) (d : Int) : l.getLastD d ∈ l := by
  cases l with
  | nil => exact absurd rfl h
  | cons x l => exact List.getLast_mem _
end Go.Proofs.Ytldcchjbaglppaa.Plain

/- Machines, told plainly: their moves, what they send and receive. No program. No condition. -/
set_option linter.unusedSimpArgs false
set_option linter.unusedVariables false
namespace Go.Proofs.Ytldcchjbaglppaa.Plain
open Go.RowKit Go.Proofs.YtldcchjbaglppaaW.PrintWords Go.Proofs.Ytldcchjbaglppaa.Base Go.Proofs.Ytldcchjbaglppaa.Print

abbrev Mv := S78
theorem rdMv_mid (pre suf : List Mv) (x : Mv) : rd_T78 (pre ++ x :: suf) (pre.length : Int) = x := by simp [rd_T78]
/-- A move that fits a machine of s states. -/
def isMv (s : Int) (m : Mv) : Bool := inR 0 (s - 1) m.f0 && (inR 0 (s - 1) m.f3 && inR 0 5 m.f2)
/-- Two moves that can't stand in one machine. -/
def clash (o m : Mv) : Bool := decide (o.f0 = m.f0) && (o.f1 != m.f1 || decide (o.f2 = m.f2))
def isMs (s : Int) : List Mv → List Mv → Bool
  | _, [] => true
  | pre, m :: suf => isMv s m && (!(pre.any fun o => clash o m) && isMs s (pre ++ [m]) suf)
/-- Is it a machine? -/
def isM (s : Int) (e : List Bool) (l : List Mv) : Bool := inR 1 6 s && (decide ((e.length : Int) = s) && (decide (l.length ≤ 12) && isMs s [] l))
/-- Is it the move of state st that sends, or receives, g? -/
def hit (st : Int) (b : Bool) (g : Int) (m : Mv) : Bool := decide (m.f0 = st) && (m.f1 == b && decide (m.f2 = g))
def mvAt (st : Int) (b : Bool) (g : Int) : Int → List Mv → Int
  | _, [] => -1
  | i, m :: l => if hit st b g m = true then i else mvAt st b g (i + 1) l
/-- The first such move's index, or -1. -/
def mvOf (l : List Mv) (st : Int) (b : Bool) (g : Int) : Int := mvAt st b g 0 l
def put : List Int → Int → List Int
  | [], x => [x]
  | y :: l, x => if y < x then y :: put l x else if y = x then y :: l else x :: y :: l
def raw (l : List Mv) (st : Int) (b : Bool) : List Int := (l.filter fun m => decide (m.f0 = st) && m.f1 == b).map (·.f2)
/-- What state st sends, or receives, in order. -/
def msgs (l : List Mv) (st : Int) (b : Bool) : List Int := (raw l st b).foldl put []
/-- May a run end there? -/
def endsAt (e : List Bool) (x : Int) : Bool := inR 0 ((e.length : Int) - 1) x && rdOf false e x

theorem put_mem (l : List Int) (x y : Int) : y ∈ put l x ↔ y = x ∨ y ∈ l := by
  induction l with
  | nil => simp [put]
  | cons z l ih =>
    unfold put
    split
    · rw [List.mem_cons, ih, List.mem_cons]
      grind
    · split
      · rename_i h
        subst h
        simp
      · simp
theorem put_len (l : List Int) (x : Int) : (put l x).length ≤ l.length + 1 := by
  induction l with
  | nil => simp [put]
  | cons z l ih =>
    unfold put
    split
    · simp only [List.length_cons]
      omega
    · split <;> simp
theorem put_new {l : List Int} {x : Int} (h : x ∉ l) : (put l x).length = l.length + 1 := by
  induction l with
  | nil => rfl
  | cons z l ih =>
    have hz : z ≠ x := fun e => h (by simp [e])
    have hl : x ∉ l := fun e => h (by simp [e])
    unfold put
    split
    · simp [ih hl]
    · simp [hz]
theorem put_up {l : List Int} (x : Int) (h : l.Pairwise (· < ·)) : (put l x).Pairwise (· < ·) := by
  induction l with
  | nil => simp [put]
  | cons z l ih =>
    rw [List.pairwise_cons] at h
    unfold put
    split
    · rw [List.pairwise_cons]
      refine ⟨fun y hy => ?_, ih h.2⟩
      rcases (put_mem l x y).1 hy with rfl | hy
      · assumption
      · exact h.1 y hy
    · split
      · rw [List.pairwise_cons]
        exact h
      · rw [List.pairwise_cons]
        refine ⟨fun y hy => ?_, by rw [List.pairwise_cons]; exact h⟩
        rcases List.mem_cons.1 hy with rfl | hy
        · omega
        · have := h.1 y hy
          omega
theorem put_lt (l : List Int) {x y : Int} (h : x < y) : put (l ++ [y]) x = put l x ++ [y] := by
  induction l with
  | nil =>
    simp only [List.nil_append, put]
    rw [if_neg (by omega), if_neg (by omega)]
    rfl
  | cons z l ih =>
    simp only [List.cons_append, put]
    split
    · rw [ih]
      rfl
    · split <;> rfl
theorem put_gt {l : List Int} {x : Int} (h : ∀ y ∈ l, y < x) : put l x = l ++ [x] := by
  induction l with
  | nil => rfl
  | cons z l ih =>
    simp only [put]
    rw [if_pos (h z List.mem_cons_self), ih fun y hy => h y (List.mem_cons_of_mem _ hy)]
    rfl
theorem fold_mem (l : List Int) : ∀ (a : List Int) (y : Int), y ∈ l.foldl put a ↔ y ∈ a ∨ y ∈ l := by
  induction l with
  | nil => simp
  | cons x l ih =>
    intro a y
    rw [List.foldl_cons, ih, put_mem, List.mem_cons]
    grind
theorem fold_up (l : List Int) : ∀ (a : List Int), a.Pairwise (· < ·) → (l.foldl put a).Pairwise (· < ·) := by
  induction l with
  | nil => exact fun _ h => h
  | cons x l ih => exact fun a h => ih _ (put_up x h)
theorem fold_len (l : List Int) : ∀ (a : List Int), (l.foldl put a).length ≤ a.length + l.length := by
  induction l with
  | nil => simp
  | cons x l ih =>
    intro a
    have h1 := ih (put a x)
    have h2 := put_len a x
    rw [List.foldl_cons, List.length_cons]
    omega
theorem raw_len (l : List Mv) (st : Int) (b : Bool) : (raw l st b).length ≤ l.length := by
  unfold raw
  rw [List.length_map]
  exact List.length_filter_le _ _
theorem msgs_len (l : List Mv) (st : Int) (b : Bool) : (msgs l st b).length ≤ l.length := by
  have h1 := fold_len (raw l st b) []
  have h2 := raw_len l st b
  unfold msgs
  simp only [List.length_nil] at h1
  omega
theorem msgs_mem {l : List Mv} {st : Int} {b : Bool} {g : Int} : g ∈ msgs l st b ↔ ∃ m ∈ l, m.f0 = st ∧ m.f1 = b ∧ m.f2 = g := by
  unfold msgs raw
  rw [fold_mem]
  simp only [List.not_mem_nil, false_or, List.mem_map, List.mem_filter, Bool.and_eq_true, decide_eq_true_eq, beq_iff_eq]
  constructor
  · rintro ⟨m, ⟨h1, h2, h3⟩, h4⟩
    exact ⟨m, h1, h2, h3, h4⟩
  · rintro ⟨m, h1, h2, h3, h4⟩
    exact ⟨m, ⟨h1, h2, h3⟩, h4⟩
theorem hit_iff {st : Int} {b : Bool} {g : Int} {m : Mv} : hit st b g m = true ↔ m.f0 = st ∧ m.f1 = b ∧ m.f2 = g := by
  simp [hit]
theorem mvAt_cases (st : Int) (b : Bool) (g : Int) (l : List Mv) : ∀ i : Int, (mvAt st b g i l = -1 ∧ ∀ m ∈ l, hit st b g m = false) ∨ ∃ pre m suf, l = pre ++ m :: suf ∧ hit st b g m = true ∧ (∀ o ∈ pre, hit st b g o = false) ∧ mvAt st b g i l = i + (pre.length : Int) := by
  induction l with
  | nil => exact fun i => .inl ⟨rfl, by simp⟩
  | cons x l ih =>
    intro i
    simp only [mvAt]
    cases hx : hit st b g x with
    | true => exact .inr ⟨[], x, l, rfl, hx, by simp, by simp⟩
    | false =>
      rw [if_neg (by simp)]
      rcases ih (i + 1) with ⟨h1, h2⟩ | ⟨pre, m, suf, h1, h2, h3, h4⟩
      · exact .inl ⟨h1, fun m hm => (List.mem_cons.1 hm).elim (fun e => e ▸ hx) (h2 m)⟩
      · refine .inr ⟨x :: pre, m, suf, by rw [h1]; rfl, h2, fun o ho => (List.mem_cons.1 ho).elim (fun e => e ▸ hx) (h3 o), ?_⟩
        rw [h4, List.length_cons]
        omega
theorem mvOf_cases (l : List Mv) (st : Int) (b : Bool) (g : Int) : (mvOf l st b g = -1 ∧ ∀ m ∈ l, hit st b g m = false) ∨ ∃ pre m suf, l = pre ++ m :: suf ∧ hit st b g m = true ∧ (∀ o ∈ pre, hit st b g o = false) ∧ mvOf l st b g = (pre.length : Int) := by
  rcases mvAt_cases st b g l 0 with h | ⟨pre, m, suf, h1, h2, h3, h4⟩
  · exact .inl h
  · exact .inr ⟨pre, m, suf, h1, h2, h3, by unfold mvOf; omega⟩
/-- A message is sent (or received) just where there is a move for it. -/
theorem msgs_iff {l : List Mv} {st : Int} {b : Bool} {g : Int} : g ∈ msgs l st b ↔ 0 ≤ mvOf l st b g := by
  rw [msgs_mem]
  rcases mvOf_cases l st b g with ⟨h1, h2⟩ | ⟨pre, m, suf, h1, h2, h3, h4⟩
  · constructor
    · rintro ⟨m, hm, h⟩
      have := h2 m hm
      rw [hit_iff.2 h] at this
      cases this
    · intro h
      omega
  · exact ⟨fun _ => by omega, fun _ => ⟨m, by rw [h1]; simp, hit_iff.1 h2⟩⟩
/-- Such a move lies in the machine, and its index too. -/
theorem mvOf_in {l : List Mv} {st : Int} {b : Bool} {g : Int} (h : 0 ≤ mvOf l st b g) : mvOf l st b g < (l.length : Int) ∧ rd_T78 l (mvOf l st b g) ∈ l ∧ hit st b g (rd_T78 l (mvOf l st b g)) = true := by
  rcases mvOf_cases l st b g with ⟨h1, _⟩ | ⟨pre, m, suf, h1, h2, h3, h4⟩
  · omega
  · rw [h4, h1, rdMv_mid]
    exact ⟨lt_mid pre suf m, by simp, h2⟩
theorem isMs_iff {s : Int} {l : List Mv} : ∀ {pre : List Mv}, isMs s pre l = true ↔ (∀ m ∈ l, isMv s m = true) ∧ (∀ o ∈ pre, ∀ m ∈ l, clash o m = false) ∧ l.Pairwise (fun o m => clash o m = false) := by
  induction l with
  | nil => simp [isMs]
  | cons x l ih =>
    intro pre
    simp only [isMs, Bool.and_eq_true, ih, Bool.not_eq_true', List.any_eq_false, Bool.not_eq_true, List.pairwise_cons, List.mem_cons, List.mem_append, List.mem_singleton, forall_eq_or_imp]
    constructor
    · rintro ⟨h1, h2, h3, h4, h5⟩
      exact ⟨⟨h1, h3⟩, fun o ho => ⟨h2 o ho, fun m hm => h4 o (.inl ho) m hm⟩, fun m hm => h4 x (.inr (.inl rfl)) m hm, h5⟩
    · rintro ⟨⟨h1, h3⟩, h2, h4, h5⟩
      refine ⟨h1, fun o ho => (h2 o ho).1, h3, fun o ho m hm => ?_, h5⟩
      rcases ho with ho | rfl | ho
      · exact (h2 o ho).2 m hm
      · exact h4 m hm
      · cases ho
theorem isM_all {s : Int} {e : List Bool} {l : List Mv} (h : isM s e l = true) : (∀ m ∈ l, isMv s m = true) ∧ l.Pairwise (fun o m => clash o m = false) ∧ l.length ≤ 12 ∧ (e.length : Int) = s ∧ 1 ≤ s ∧ s ≤ 6 := by
  simp only [isM, Bool.and_eq_true, decide_eq_true_eq, inR_true, isMs_iff] at h
  obtain ⟨⟨a, b⟩, c, d, f, _, g⟩ := h
  exact ⟨f, g, d, c, a, b⟩
/-- In a machine a state sends (or receives) each message once. -/
theorem raw_nodup {l : List Mv} (h : l.Pairwise (fun o m => clash o m = false)) (st : Int) (b : Bool) : (raw l st b).Nodup := by
  unfold raw
  rw [List.Nodup, List.pairwise_map]
  have h1 := (List.Pairwise.filter (fun m => decide (m.f0 = st) && m.f1 == b) h)
  refine List.Pairwise.imp_of_mem (fun {o m} ho hm hc he => ?_) h1
  rw [List.mem_filter, Bool.and_eq_true, decide_eq_true_eq, beq_iff_eq] at ho hm
  simp [clash, ho.2.1, hm.2.1, ho.2.2, hm.2.2, he] at hc
end Go.Proofs.Ytldcchjbaglppaa.Plain

/- What is left of a size, row by row. Condition: at most 2 to the 20 is left. -/

set_option linter.unusedSimpArgs false
set_option linter.unusedVariables false
namespace Go.Proofs.Ytldcchjbaglppaa.Plain
open Go.RowKit Go.Proofs.YtldcchjbaglppaaW.PrintWords Go.Proofs.Ytldcchjbaglppaa.Base Go.Proofs.Ytldcchjbaglppaa.Print

/-- What is left of n behind the rows, each with a size of its own; -1 where they are too large. -/
def sizes {α : Type} (f : α → Nat) : List α → Int → Int
  | [], n => n
  | x :: l, n => if n < (f x : Int) then -1 else sizes f l (n - (f x : Int))
/-- The same, with one for each row. -/
def sizeOf1 {α : Type} (f : α → Nat) (l : List α) (n : Int) : Int := if n < (l.length : Int) then -1 else sizes f l (n - (l.length : Int))
theorem sizes_le {α : Type} (f : α → Nat) (l : List α) : ∀ n : Int, 0 ≤ sizes f l n → sizes f l n ≤ n ∧ ∀ x ∈ l, (f x : Int) ≤ n := by
  induction l with
  | nil =>
    intro n h
    exact ⟨Int.le_refl _, fun x hx => by cases hx⟩
  | cons y l ih =>
    intro n h
    simp only [sizes] at h ⊢
    by_cases hc : n < (f y : Int)
    · rw [if_pos hc] at h
      omega
    · rw [if_neg hc] at h ⊢
      obtain ⟨h1, h2⟩ := ih _ h
      refine ⟨by omega, fun x hx => ?_⟩
      cases hx with
      | head => omega
      | tail _ hx =>
        have := h2 x hx
        omega
theorem sizeOf1_le {α : Type} (f : α → Nat) (l : List α) (n : Int) (h : 0 ≤ sizeOf1 f l n) : sizeOf1 f l n ≤ n ∧ (l.length : Int) ≤ n ∧ ∀ x ∈ l, (f x : Int) ≤ n := by
  unfold sizeOf1 at h ⊢
  by_cases hc : n < (l.length : Int)
  · rw [if_pos hc] at h
    omega
  · rw [if_neg hc] at h ⊢
    obtain ⟨h1, h2⟩ := sizes_le f l _ h
    exact ⟨by omega, by omega, fun x hx => by
      have := h2 x hx
      omega⟩
theorem sizes_neg {α : Type} (f : α → Nat) (l : List α) : ∀ n : Int, 0 ≤ n → sizes f l n < 0 → sizes f l n = -1 := by
  induction l with
  | nil =>
    intro n h0 h
    simp only [sizes] at h
    omega
  | cons y l ih =>
    intro n h0 h
    simp only [sizes] at h ⊢
    by_cases hc : n < (f y : Int)
    · rw [if_pos hc]
    · rw [if_neg hc] at h ⊢
      exact ih _ (by omega) h
end Go.Proofs.Ytldcchjbaglppaa.Plain

/- Sizes in all. Condition: what is left is no less than nothing. -/
set_option linter.unusedSimpArgs false
set_option linter.unusedVariables false
namespace Go.Proofs.Ytldcchjbaglppaa.Plain
open Go.RowKit Go.Proofs.YtldcchjbaglppaaW.PrintWords Go.Proofs.Ytldcchjbaglppaa.Base Go.Proofs.Ytldcchjbaglppaa.Print

/-- All sizes together. -/
def tot {α : Type} (f : α → Nat) : List α → Nat
  | [] => 0
  | x :: l => f x + tot f l
/-- What is left behind so much. -/
def less (m : Nat) (n : Int) : Int := if n < (m : Int) then -1 else n - (m : Int)
theorem sizes_tot {α : Type} (f : α → Nat) (l : List α) : ∀ n : Int, 0 ≤ n → sizes f l n = less (tot f l) n := by
  induction l with
  | nil =>
    intro n h
    have e : ((tot f ([] : List α) : Nat) : Int) = 0 := rfl
    show n = less (tot f ([] : List α)) n
    unfold less
    rw [e, if_neg (by omega)]
    omega
  | cons x l ih =>
    intro n h
    have e : ((tot f (x :: l) : Nat) : Int) = (f x : Int) + (tot f l : Int) := by simp [tot]
    rw [show less (tot f (x :: l)) n = if n < ((tot f (x :: l) : Nat) : Int) then -1 else n - ((tot f (x :: l) : Nat) : Int) from rfl, e]
    simp only [sizes]
    by_cases hc : n < (f x : Int)
    · rw [if_pos hc, if_pos (by omega)]
    · rw [if_neg hc, ih _ (by omega)]
      unfold less
      by_cases hd : n - (f x : Int) < (tot f l : Int)
      · rw [if_pos hd, if_pos (by omega)]
      · rw [if_neg hd, if_neg (by omega)]
        omega
theorem sizeOf1_tot {α : Type} (f : α → Nat) (l : List α) (n : Int) (h : 0 ≤ n) : sizeOf1 f l n = less (l.length + tot f l) n := by
  unfold sizeOf1
  by_cases hc : n < (l.length : Int)
  · rw [if_pos hc]
    unfold less
    rw [if_pos (by omega)]
  · rw [if_neg hc, sizes_tot f l _ (by omega)]
    unfold less
    by_cases hd : n - (l.length : Int) < (tot f l : Int)
    · rw [if_pos hd, if_pos (by omega)]
    · rw [if_neg hd, if_neg (by omega)]
      omega
theorem tot_le {α : Type} (f : α → Nat) {l : List α} {x : α} (h : x ∈ l) : f x ≤ tot f l := by
  induction l with
  | nil => cases h
  | cons y l ih =>
    simp only [tot]
    cases h with
    | head => omega
    | tail _ h =>
      have := ih h
      omega
theorem less_in {m : Nat} {n : Int} (h : 0 ≤ less m n) : (m : Int) ≤ n ∧ less m n = n - (m : Int) := by
  unfold less at h ⊢
  by_cases hc : n < (m : Int)
  · rw [if_pos hc] at h
    omega
  · rw [if_neg hc]
    omega
theorem less_neg {m : Nat} {n : Int} (h : less m n < 0) (h0 : 0 ≤ n) : n < (m : Int) := by
  unfold less at h
  by_cases hc : n < (m : Int)
  · exact hc
  · rw [if_neg hc] at h
    omega
/-- One size behind another. -/
theorem less_bind {m p : Nat} {n : Int} (h0 : 0 ≤ n) : (if less m n < 0 then (-1 : Int) else less p (less m n)) = less (m + p) n := by
  by_cases h : less m n < 0
  · have := less_neg h h0
    rw [if_pos h]
    unfold less
    rw [if_pos (by omega)]
  · obtain ⟨h1, h2⟩ := less_in (Int.not_lt.mp h)
    rw [if_neg h, h2]
    unfold less
    by_cases hd : n - (m : Int) < (p : Int)
    · rw [if_pos hd, if_pos (by omega)]
    · rw [if_neg hd, if_neg (by omega)]
      omega
theorem less_neg_add {m : Nat} (p : Nat) {n : Int} (h : less m n < 0) (h0 : 0 ≤ n) : (-1 : Int) = less (m + p) n := by
  have := less_neg h h0
  unfold less
  rw [if_pos (by omega)]
theorem less_add {m : Nat} (p : Nat) {n : Int} (h : ¬ less m n < 0) : less p (less m n) = less (m + p) n := by
  obtain ⟨h1, h2⟩ := less_in (Int.not_lt.mp h)
  rw [h2]
  unfold less
  by_cases hd : n - (m : Int) < (p : Int)
  · rw [if_pos hd, if_pos (by omega)]
  · rw [if_neg hd, if_neg (by omega)]
    omega
/-- Two rows the same, one by one. -/
def eqG {α : Type} (f : α → α → Bool) : List α → List α → Bool
  | [], [] => true
  | a :: l, b :: m => f a b && eqG f l m
  | _, _ => false
theorem eqG_len {α : Type} (f : α → α → Bool) {l m : List α} : l.length ≠ m.length → eqG f l m = false := by
  induction l generalizing m with
  | nil =>
    intro h
    cases m with
    | nil => exact absurd rfl h
    | cons b m => rfl
  | cons a l ih =>
    intro h
    cases m with
    | nil => rfl
    | cons b m =>
      simp only [eqG]
      rw [ih (by simpa using h), Bool.and_false]
end Go.Proofs.Ytldcchjbaglppaa.Plain

/- Rows of machines: their sizes, copies and equality, as the law's helpers tell them. Condition: at most 10 to the 12 of each. -/
set_option linter.unusedSimpArgs false
set_option linter.unusedVariables false
namespace Go.Proofs.Ytldcchjbaglppaa.Plain
open Go.RowKit Go.Proofs.YtldcchjbaglppaaW.PrintWords Go.Proofs.Ytldcchjbaglppaa.Base Go.Proofs.Ytldcchjbaglppaa.Print

abbrev LMv := S80
abbrev LMa := S26
abbrev Mac := S34
theorem rdLMv_mid (pre suf : List LMv) (x : LMv) : rd_T80 (pre ++ x :: suf) (pre.length : Int) = x := by simp [rd_T80]
theorem rdLMa_mid (pre suf : List LMa) (x : LMa) : rd_T26 (pre ++ x :: suf) (pre.length : Int) = x := by simp [rd_T26]
theorem rdMac_mid (pre suf : List Mac) (x : Mac) : rd_T34 (pre ++ x :: suf) (pre.length : Int) = x := by simp [rd_T34]
theorem rdB_mid (pre suf : List Bool) (x : Bool) : rdOf false (pre ++ x :: suf) (pre.length : Int) = x := by simp [rdOf]
/-- The law's move as the program's. -/
def toMv (m : LMv) : Mv := ⟨m.f0, m.f1, m.f2, m.f3⟩
/-- The law's machine as the program's. -/
def toMa (a : LMa) : Mac := ⟨a.f0, a.f1, a.f2.map toMv⟩
def szMa (a : LMa) : Nat := a.f1.length + a.f2.length
/-- Its rows are of a length that the machine can hold. -/
def fitMa (a : LMa) : Prop := a.f1.length ≤ 1000000000000000000 ∧ a.f2.length ≤ 1000000000000000000
/-- Its rows are not too long. -/
def okLM (a : LMa) : Prop := a.f1.length ≤ 1000000000000 ∧ a.f2.length ≤ 1000000000000
def okMc (a : Mac) : Prop := a.f1.length ≤ 1000000000000 ∧ a.f2.length ≤ 1000000000000
theorem okMc_to {a : LMa} (h : okLM a) : okMc (toMa a) := ⟨h.1, by show (a.f2.map toMv).length ≤ _; rw [List.length_map]; exact h.2⟩
theorem szB_f (l : List Bool) (n : Int) (h0 : 0 ≤ n) (h : n ≤ 1048576) (hl : l.length ≤ 1000000000000000000) : laws_szBoolS.f l n = some (less l.length n) := by
  unfold laws_szBoolS.f less
  rw [w64 (by omega) (by omega)]
  by_cases hc : n < (l.length : Int)
  · rw [if_pos (by omega), if_pos hc]
  · rw [if_neg (by omega), if_neg hc]
theorem szM_f (l : List LMv) (n : Int) (h0 : 0 ≤ n) (h : n ≤ 1048576) (hl : l.length ≤ 1000000000000000000) : laws_szMoveS.f l n = some (less l.length n) := by
  unfold laws_szMoveS.f less
  rw [w64 (by omega) (by omega)]
  by_cases hc : n < (l.length : Int)
  · rw [if_pos (by omega), if_pos hc]
  · rw [if_neg (by omega), if_neg hc]
theorem szMa_f (s : Int) (e : List Bool) (l : List LMv) (n : Int) (h0 : 0 ≤ n) (h : n ≤ 1048576) (he : e.length ≤ 1000000000000000000) (hl : l.length ≤ 1000000000000000000) : laws_szMachine.f s e l n = some (less (e.length + l.length) n) := by
  unfold laws_szMachine.f
  rw [szB_f e n h0 h he, Option.bind_some]
  by_cases h1 : less e.length n < 0
  · rw [if_pos h1, less_neg_add _ h1 h0]
  · have b1 := less_in (Int.not_lt.mp h1)
    rw [if_neg h1, ← less_add _ h1, szM_f l _ (by omega) (by omega) hl, Option.bind_some]
    by_cases h2 : less l.length (less e.length n) < 0
    · rw [if_pos h2, show (-1 : Int) = less l.length (less e.length n) from less_neg_add 0 h2 (by omega)]
    · rw [if_neg h2]
theorem szMaS_l0 (suf : List LMa) : ∀ (pre : List LMa) (n : Int), (pre ++ suf).length ≤ 1000000000000 → 0 ≤ n → n ≤ 1048576 → (∀ x ∈ suf, fitMa x) →
    laws_szMachineS.l0v (pre ++ suf) n (pre.length : Int) = some (sizes szMa suf n) := by
  induction suf with
  | nil =>
    intro pre n _ _ _ _
    rw [laws_szMachineS.l0v_eq, if_neg (nlt_end pre)]
    rfl
  | cons x suf ih =>
    intro pre n hl h0 h1 hs
    have hn : pre.length < (pre ++ x :: suf).length := by simp
    have hx := hs x List.mem_cons_self
    rw [laws_szMachineS.l0v_eq, if_pos (lt_mid pre suf x), if_pos (by omega), rdLMa_mid, szMa_f x.f0 x.f1 x.f2 n h0 h1 hx.1 hx.2, Option.bind_some, show x.f1.length + x.f2.length = szMa x from rfl]
    simp only [sizes]
    by_cases hc : n < (szMa x : Int)
    · have e : less (szMa x) n = -1 := if_pos hc
      rw [e, if_pos (by omega), if_pos hc]
    · have e : less (szMa x) n = n - (szMa x : Int) := if_neg hc
      rw [e, if_neg (by omega), if_neg hc, up_mid pre x hn hl]
      rw [mid_snoc pre suf x] at hl ⊢
      exact ih (pre ++ [x]) _ hl (by omega) (by omega) (fun y hy => hs y (List.mem_cons_of_mem _ hy))
theorem szMaS_v (l : List LMa) (n : Int) (h0 : 0 ≤ n) (h1 : n ≤ 1048576) (hl : l.length ≤ 100000000000000000) (hs : ∀ x ∈ l, fitMa x) :
    laws_szMachineS.fv l n = some (less (l.length + tot szMa l) n) := by
  rw [laws_szMachineS.fv_eq, w64 (by omega) (by omega), ← sizeOf1_tot szMa l n h0]
  unfold sizeOf1
  by_cases hc : n < (l.length : Int)
  · rw [if_pos (by omega), if_pos hc]
  · rw [if_neg (by omega), if_neg hc]
    have h := szMaS_l0 l [] (n - (l.length : Int)) (by simp; omega) (by omega) (by omega) hs
    simpa using h
/-- Not too long, all of them. -/
def okMs (l : List LMa) : Prop := l.length ≤ 1000000000000 ∧ ∀ x ∈ l, okLM x
theorem okMs_less {l : List LMa} {n : Int} (hn : n ≤ 1048576) (h : 0 ≤ less (l.length + tot szMa l) n) : okMs l := by
  obtain ⟨h1, _⟩ := less_in h
  refine ⟨by omega, fun x hx => ?_⟩
  have := tot_le szMa hx
  have h9 : szMa x = x.f1.length + x.f2.length := rfl
  exact ⟨by omega, by omega⟩
theorem toB_l0 (suf : List Bool) : ∀ (pre q rest : List Bool), q.length = pre.length → rest.length = suf.length → (pre ++ suf).length ≤ 1000000000000 → laws_toBoolS.l0v (pre ++ suf) (q ++ rest) (pre.length : Int) = some (q ++ suf) := by
  induction suf with
  | nil =>
    intro pre q rest _ hr _
    rw [laws_toBoolS.l0v_eq, if_neg (nlt_end pre)]
    simp at hr
    simp [hr]
  | cons x suf ih =>
    intro pre q rest hq hr hl
    cases rest with
    | nil => simp at hr
    | cons y rest =>
      have hn : pre.length < (pre ++ x :: suf).length := by simp
      rw [laws_toBoolS.l0v_eq, if_pos (lt_mid pre suf x), if_pos (by omega), rdB_mid, up_mid pre x hn hl, ← hq, if_pos (lt_mid q rest y), set_mid]
      rw [mid_snoc pre suf x] at hl ⊢
      have h1 := ih (pre ++ [x]) (q ++ [x]) rest (by simp [hq]) (by simpa using hr) hl
      rw [h1]
      simp
theorem toB_v (l : List Bool) (hl : l.length ≤ 1000000000000) : laws_toBoolS.fv l = some l := by
  rw [laws_toBoolS.fv_eq, if_pos (by omega), if_pos (by omega)]
  have h := toB_l0 l [] [] (List.replicate ((l.length : Int) : Int).toNat false) rfl (by simp) (by simpa using hl)
  simpa using h
theorem toMv_l0 (suf : List LMv) : ∀ (pre : List LMv) (q rest : List Mv), q.length = pre.length → rest.length = suf.length → (pre ++ suf).length ≤ 1000000000000 → laws_toMoveS.l0v (pre ++ suf) (q ++ rest) (pre.length : Int) = some (q ++ suf.map toMv) := by
  induction suf with
  | nil =>
    intro pre q rest _ hr _
    rw [laws_toMoveS.l0v_eq, if_neg (nlt_end pre)]
    simp at hr
    simp [hr]
  | cons x suf ih =>
    intro pre q rest hq hr hl
    cases rest with
    | nil => simp at hr
    | cons y rest =>
      have hn : pre.length < (pre ++ x :: suf).length := by simp
      rw [laws_toMoveS.l0v_eq, if_pos (lt_mid pre suf x), if_pos (by omega), rdLMv_mid]
      unfold laws_toMove.f
      rw [Option.bind_some, up_mid pre x hn hl, ← hq, if_pos (lt_mid q rest y), set_mid]
      rw [mid_snoc pre suf x] at hl ⊢
      rw [show (⟨x.f0, x.f1, x.f2, x.f3⟩ : Mv) = toMv x from rfl, ih (pre ++ [x]) (q ++ [toMv x]) rest (by simp [hq]) (by simpa using hr) hl]
      simp
theorem toMv_v (l : List LMv) (hl : l.length ≤ 1000000000000) : laws_toMoveS.fv l = some (l.map toMv) := by
  rw [laws_toMoveS.fv_eq, if_pos (by omega), if_pos (by omega)]
  have h := toMv_l0 l [] [] (List.replicate ((l.length : Int) : Int).toNat z78) rfl (by simp) (by simpa using hl)
  simpa using h
theorem toMa_v (s : Int) (e : List Bool) (l : List LMv) (he : e.length ≤ 1000000000000) (hl : l.length ≤ 1000000000000) : laws_toMachine.fv s e l = some (s, e, l.map toMv) := by
  rw [laws_toMachine.fv_eq, toB_v e he, Option.bind_some, toMv_v l hl, Option.bind_some]
theorem toMaS_l0 (suf : List LMa) : ∀ (pre : List LMa) (q rest : List Mac), q.length = pre.length → rest.length = suf.length → (pre ++ suf).length ≤ 1000000000000 → (∀ x ∈ suf, okLM x) → laws_toMachineS.l0v (pre ++ suf) (q ++ rest) (pre.length : Int) = some (q ++ suf.map toMa) := by
  induction suf with
  | nil =>
    intro pre q rest _ hr _ _
    rw [laws_toMachineS.l0v_eq, if_neg (nlt_end pre)]
    simp at hr
    simp [hr]
  | cons x suf ih =>
    intro pre q rest hq hr hl hs
    cases rest with
    | nil => simp at hr
    | cons y rest =>
      have hn : pre.length < (pre ++ x :: suf).length := by simp
      have hx := hs x List.mem_cons_self
      rw [laws_toMachineS.l0v_eq, if_pos (lt_mid pre suf x), if_pos (by omega), rdLMa_mid, toMa_v x.f0 x.f1 x.f2 hx.1 hx.2, Option.bind_some, up_mid pre x hn hl, ← hq, if_pos (lt_mid q rest y), set_mid]
      rw [mid_snoc pre suf x] at hl ⊢
      rw [show (⟨x.f0, x.f1, x.f2.map toMv⟩ : Mac) = toMa x from rfl, ih (pre ++ [x]) (q ++ [toMa x]) rest (by simp [hq]) (by simpa using hr) hl (fun y hy => hs y (List.mem_cons_of_mem _ hy))]
      simp
theorem toMaS_v (l : List LMa) (h : okMs l) : laws_toMachineS.fv l = some (l.map toMa) := by
  have hl := h.1
  rw [laws_toMachineS.fv_eq, if_pos (by omega), if_pos (by omega)]
  have h1 := toMaS_l0 l [] [] (List.replicate ((l.length : Int) : Int).toNat z34) rfl (by simp) (by simpa using hl) h.2
  simpa using h1
theorem eqB_l0 (sa : List Bool) : ∀ (pre : List Bool), (pre ++ sa).length ≤ 1000000000000 → laws_eqBoolS.l0v (pre ++ sa) (pre ++ sa) (pre.length : Int) = some true := by
  induction sa with
  | nil =>
    intro pre _
    rw [laws_eqBoolS.l0v_eq, if_neg (nlt_end pre)]
  | cons x sa ih =>
    intro pre hl
    have hn : pre.length < (pre ++ x :: sa).length := by simp
    rw [laws_eqBoolS.l0v_eq, if_pos (lt_mid pre sa x), if_pos (by omega), if_pos (lt_mid pre sa x), rdB_mid, up_mid pre x hn hl]
    rw [mid_snoc pre sa x] at hl ⊢
    rw [ih (pre ++ [x]) hl]
    cases x <;> rfl
theorem eqB_v (l : List Bool) (hl : l.length ≤ 1000000000000) : laws_eqBoolS.fv l l = some true := by
  rw [laws_eqBoolS.fv_eq, if_pos rfl]
  exact eqB_l0 l [] (by simpa using hl)
theorem eqMv_f (m : Mv) : laws_eqMove.f m.f0 m.f1 m.f2 m.f3 m.f0 m.f1 m.f2 m.f3 = some true := by
  unfold laws_eqMove.f
  cases m.f1 <;> simp
theorem eqMvS_l0 (sa : List Mv) : ∀ (pre : List Mv), (pre ++ sa).length ≤ 1000000000000 → laws_eqMoveS.l0v (pre ++ sa) (pre ++ sa) (pre.length : Int) = some true := by
  induction sa with
  | nil =>
    intro pre _
    rw [laws_eqMoveS.l0v_eq, if_neg (nlt_end pre)]
  | cons x sa ih =>
    intro pre hl
    have hn : pre.length < (pre ++ x :: sa).length := by simp
    rw [laws_eqMoveS.l0v_eq, if_pos (lt_mid pre sa x), if_pos (by omega), if_pos (lt_mid pre sa x), rdMv_mid, eqMv_f, Option.bind_some, if_pos rfl, up_mid pre x hn hl]
    rw [mid_snoc pre sa x] at hl ⊢
    exact ih (pre ++ [x]) hl
theorem eqMvS_v (l : List Mv) (hl : l.length ≤ 1000000000000) : laws_eqMoveS.fv l l = some true := by
  rw [laws_eqMoveS.fv_eq, if_pos rfl]
  exact eqMvS_l0 l [] (by simpa using hl)
theorem eqMa_v (s : Int) (e : List Bool) (l : List Mv) (he : e.length ≤ 1000000000000) (hl : l.length ≤ 1000000000000) : laws_eqMachine.fv s e l s e l = some true := by
  rw [laws_eqMachine.fv_eq, if_pos rfl, eqB_v e he, Option.bind_some, if_pos rfl, eqMvS_v l hl, Option.bind_some, if_pos rfl]
theorem eqMaS_l0 (sa : List Mac) : ∀ (pre : List Mac), (pre ++ sa).length ≤ 1000000000000 → (∀ x ∈ sa, okMc x) → laws_eqMachineS.l0v (pre ++ sa) (pre ++ sa) (pre.length : Int) = some true := by
  induction sa with
  | nil =>
    intro pre _ _
    rw [laws_eqMachineS.l0v_eq, if_neg (nlt_end pre)]
  | cons x sa ih =>
    intro pre hl hs
    have hn : pre.length < (pre ++ x :: sa).length := by simp
    have hx := hs x List.mem_cons_self
    rw [laws_eqMachineS.l0v_eq, if_pos (lt_mid pre sa x), if_pos (by omega), if_pos (lt_mid pre sa x), rdMac_mid, eqMa_v x.f0 x.f1 x.f2 hx.1 hx.2, Option.bind_some, if_pos rfl, up_mid pre x hn hl]
    rw [mid_snoc pre sa x] at hl ⊢
    exact ih (pre ++ [x]) hl (fun y hy => hs y (List.mem_cons_of_mem _ hy))
theorem okMs_to {l : List LMa} (h : okMs l) : (l.map toMa).length ≤ 1000000000000 ∧ ∀ x ∈ l.map toMa, okMc x := by
  refine ⟨by rw [List.length_map]; exact h.1, fun x hx => ?_⟩
  obtain ⟨y, hy, rfl⟩ := List.mem_map.1 hx
  exact okMc_to (h.2 y hy)
theorem eqMaS_v (l : List LMa) (h : okMs l) : laws_eqMachineS.fv (l.map toMa) (l.map toMa) = some true := by
  obtain ⟨h1, h2⟩ := okMs_to h
  rw [laws_eqMachineS.fv_eq, if_pos rfl]
  exact eqMaS_l0 (l.map toMa) [] (by simpa using h1) h2
theorem fitMs {l : List LMa} (h : ∀ y ∈ l, Q26 y) : ∀ x ∈ l, fitMa x := by
  intro x hx
  obtain ⟨_, ⟨h1, _⟩, ⟨h2, _⟩⟩ := h x hx
  exact ⟨by omega, by omega⟩
end Go.Proofs.Ytldcchjbaglppaa.Plain

/- The marks that a law writes into machines. Condition: at most 10 to the 12 of each, and the first mark is small. -/
set_option linter.unusedSimpArgs false
set_option linter.unusedVariables false
namespace Go.Proofs.Ytldcchjbaglppaa.Plain
open Go.RowKit Go.Proofs.YtldcchjbaglppaaW.PrintWords Go.Proofs.Ytldcchjbaglppaa.Base Go.Proofs.Ytldcchjbaglppaa.Print

theorem markB_l0 (suf : List Bool) : ∀ (pre : List Bool) (a : Int), (pre ++ suf).length ≤ 1000000000000 → 0 ≤ a → a + suf.length ≤ 4000000000000000000 →
    ∃ l, laws_markBoolS.l0v (pre ++ suf) a (pre.length : Int) = some (a + suf.length, l) := by
  induction suf with
  | nil =>
    intro pre a _ _ _
    rw [laws_markBoolS.l0v_eq, if_neg (nlt_end pre)]
    exact ⟨pre ++ [], by simp⟩
  | cons x suf ih =>
    intro pre a hl h0 ha
    have hn : pre.length < (pre ++ x :: suf).length := by simp
    simp only [List.length_cons, Int.natCast_succ] at ha
    rw [laws_markBoolS.l0v_eq, if_pos (lt_mid pre suf x), if_pos (by omega), set_mid, up_mid pre x hn hl, w64 (by omega) (by omega)]
    rw [mid_snoc pre suf x] at hl
    obtain ⟨l, h1⟩ := ih (pre ++ [Int.tmod a 3 == 0]) (a + 1) (by simpa using hl) (by omega) (by omega)
    simp only [List.length_append, List.length_cons, List.length_nil] at h1 ⊢
    refine ⟨l, ?_⟩
    rw [h1]
    congr 2
    omega
theorem markB_v (l : List Bool) (a : Int) (hl : l.length ≤ 1000000000000) (h0 : 0 ≤ a) (ha : a ≤ 3000000000000000000) : ∃ m, laws_markBoolS.fv l a = some (a + l.length, m) := by
  rw [laws_markBoolS.fv_eq]
  exact markB_l0 l [] a (by simpa using hl) h0 (by omega)
theorem markM_l0 (suf : List Mv) : ∀ (pre : List Mv) (a : Int), (pre ++ suf).length ≤ 1000000000000 → 0 ≤ a → a + 4 * suf.length ≤ 8000000000000000000 →
    ∃ l, laws_markMoveS.l0v (pre ++ suf) a (pre.length : Int) = some (a + 4 * suf.length, l) := by
  induction suf with
  | nil =>
    intro pre a _ _ _
    rw [laws_markMoveS.l0v_eq, if_neg (nlt_end pre)]
    exact ⟨pre ++ [], by simp⟩
  | cons x suf ih =>
    intro pre a hl h0 ha
    have hn : pre.length < (pre ++ x :: suf).length := by simp
    simp only [List.length_cons, Int.natCast_succ] at ha
    rw [laws_markMoveS.l0v_eq, if_pos (lt_mid pre suf x), if_pos (by omega), up_mid pre x hn hl]
    simp only [Option.bind_some, List.set_set]
    rw [w64 (x := a + 1) (by omega) (by omega), w64 (x := a + 1 + 1) (by omega) (by omega), w64 (x := a + 1 + 1 + 1) (by omega) (by omega), w64 (x := a + 1 + 1 + 1 + 1) (by omega) (by omega), set_mid]
    generalize (⟨_, _, _, a + 1 + 1 + 1⟩ : Mv) = y
    rw [mid_snoc pre suf x] at hl
    obtain ⟨l, h1⟩ := ih (pre ++ [y]) (a + 1 + 1 + 1 + 1) (by simpa using hl) (by omega) (by omega)
    simp only [List.length_append, List.length_cons, List.length_nil] at h1 ⊢
    refine ⟨l, ?_⟩
    rw [h1]
    congr 2
    omega
theorem markM_v (l : List Mv) (a : Int) (hl : l.length ≤ 1000000000000) (h0 : 0 ≤ a) (ha : a ≤ 3000000000000000000) : ∃ m, laws_markMoveS.fv l a = some (a + 4 * l.length, m) := by
  rw [laws_markMoveS.fv_eq]
  exact markM_l0 l [] a (by simpa using hl) h0 (by omega)
theorem markMa_v (s : Int) (e : List Bool) (l : List Mv) (a : Int) (he : e.length ≤ 1000000000000) (hl : l.length ≤ 1000000000000) (h0 : 0 ≤ a) (ha : a ≤ 2000000000000000000) : ∃ m n, laws_markMachine.fv s e l a = some (a + e.length + 4 * l.length, m, n) := by
  obtain ⟨m, h1⟩ := markB_v e a he h0 (by omega)
  obtain ⟨n, h2⟩ := markM_v l (a + e.length) hl (by omega) (by omega)
  rw [laws_markMachine.fv_eq, h1, Option.bind_some, h2, Option.bind_some]
  exact ⟨m, n, rfl⟩
/-- How many numbers there are in all. -/
def macs : List Mac → Nat
  | [] => 0
  | x :: l => 1 + x.f1.length + 4 * x.f2.length + macs l
theorem macs_le (l : List LMa) : macs (l.map toMa) ≤ l.length + 4 * tot szMa l := by
  induction l with
  | nil => simp [macs]
  | cons x l ih =>
    simp only [List.map_cons, macs, tot, List.length_cons]
    have h1 : (toMa x).f1.length = x.f1.length := rfl
    have h2 : (toMa x).f2.length = x.f2.length := by show (x.f2.map toMv).length = _; rw [List.length_map]
    have h3 : szMa x = x.f1.length + x.f2.length := rfl
    omega
theorem markMs_l0 (suf : List Mac) : ∀ (pre : List Mac) (a : Int), (pre ++ suf).length ≤ 1000000000000 → (∀ x ∈ suf, okMc x) → 0 ≤ a → a + macs suf ≤ 1000000000000000000 →
    laws_markMachineS.l0v (pre ++ suf) a (pre.length : Int) = some (a + macs suf) := by
  induction suf with
  | nil =>
    intro pre a _ _ _ _
    rw [laws_markMachineS.l0v_eq, if_neg (nlt_end pre)]
    simp [macs]
  | cons x suf ih =>
    intro pre a hl hs h0 ha
    have hn : pre.length < (pre ++ x :: suf).length := by simp
    have hx := hs x List.mem_cons_self
    simp only [macs, Int.natCast_add] at ha
    obtain ⟨m, h1⟩ := markB_v x.f1 (a + 1) hx.1 (by omega) (by omega)
    obtain ⟨n, h2⟩ := markM_v x.f2 (a + 1 + x.f1.length) hx.2 (by omega) (by omega)
    rw [laws_markMachineS.l0v_eq, if_pos (lt_mid pre suf x), if_pos (by omega), rdMac_mid, w64 (x := a + 1) (by omega) (by omega), h1, Option.bind_some, h2, Option.bind_some, set_mid, up_mid pre x hn hl]
    generalize (⟨a, m, n⟩ : Mac) = y
    have h3 := ih (pre ++ [y]) (a + 1 + x.f1.length + 4 * x.f2.length) (by simpa using hl) (fun y hy => hs y (List.mem_cons_of_mem _ hy)) (by omega) (by omega)
    simp only [List.length_append, List.length_cons, List.length_nil] at h3 ⊢
    rw [h3]
    congr 1
    simp only [macs]
    omega
theorem markMs_v (l : List Mac) (a : Int) (hl : l.length ≤ 1000000000000) (hs : ∀ x ∈ l, okMc x) (h0 : 0 ≤ a) (ha : a + macs l ≤ 1000000000000000000) : laws_markMachineS.fv l a = some (a + macs l) := by
  rw [laws_markMachineS.fv_eq]
  simpa using markMs_l0 l [] a (by simpa using hl) hs h0 ha
end Go.Proofs.Ytldcchjbaglppaa.Plain

/- What is reached from a first pair, step by step. No program. Condition: the pairs are pairs of numbers from 0 to 5. -/
set_option linter.unusedSimpArgs false
set_option linter.unusedVariables false
namespace Go.Proofs.Ytldcchjbaglppaa.Plain
open Go.RowKit Go.Proofs.YtldcchjbaglppaaW.PrintWords Go.Proofs.Ytldcchjbaglppaa.Base Go.Proofs.Ytldcchjbaglppaa.Print

/-- A pair of states. -/
def isPt (p : List Int) : Prop := ∃ x y : Int, p = [x, y] ∧ (0 ≤ x ∧ x ≤ 5) ∧ (0 ≤ y ∧ y ≤ 5)
def grid : List (List Int) := (List.range 6).flatMap fun (i : Nat) => (List.range 6).map fun (j : Nat) => [(i : Int), (j : Int)]
theorem grid_mem {p : List Int} (h : isPt p) : p ∈ grid := by
  obtain ⟨x, y, rfl, ⟨h0, h1⟩, h2, h3⟩ := h
  unfold grid
  rw [List.mem_flatMap]
  refine ⟨x.toNat, List.mem_range.2 (by omega), ?_⟩
  rw [List.mem_map]
  refine ⟨y.toNat, List.mem_range.2 (by omega), ?_⟩
  rw [Int.toNat_of_nonneg h0, Int.toNat_of_nonneg h2]
theorem nodup_le {α : Type} [DecidableEq α] (l : List α) : ∀ (g : List α), l.Nodup → (∀ x ∈ l, x ∈ g) → l.length ≤ g.length := by
  induction l with
  | nil => simp
  | cons x l ih =>
    intro g hn hs
    have hx := hs x List.mem_cons_self
    have h1 := ih (g.erase x) (List.nodup_cons.1 hn).2 fun y hy => (List.mem_erase_of_ne (fun e => (List.nodup_cons.1 hn).1 (by rw [← e]; exact hy))).2 (hs y (List.mem_cons_of_mem _ hy))
    rw [List.length_erase_of_mem hx] at h1
    have h2 := List.length_pos_of_mem hx
    rw [List.length_cons]
    omega
/-- Pairs, each once. -/
def okR (o : List (List Int)) : Prop := o.Nodup ∧ ∀ p ∈ o, isPt p
theorem okR_len {o : List (List Int)} (h : okR o) : o.length ≤ 36 := Nat.le_trans (nodup_le o grid h.1 fun p hp => grid_mem (h.2 p hp)) (by decide)
/-- One more, if it is new. -/
def addP (o : List (List Int)) (p : List Int) : List (List Int) := if p ∈ o then o else o ++ [p]
theorem addP_ok {o : List (List Int)} {p : List Int} (h : okR o) (hp : isPt p) : okR (addP o p) := by
  unfold addP
  split
  · exact h
  · rename_i hn
    refine ⟨?_, fun q hq => ?_⟩
    · rw [List.nodup_append]
      refine ⟨h.1, by simp, ?_⟩
      intro a ha b hb
      rw [List.mem_singleton] at hb
      rintro rfl
      exact hn (hb ▸ ha)
    · rcases List.mem_append.1 hq with hq | hq
      · exact h.2 q hq
      · rw [List.mem_singleton.1 hq]
        exact hp
theorem addP_len (o : List (List Int)) (p : List Int) : o.length ≤ (addP o p).length := by
  unfold addP
  split <;> simp
def adds (o l : List (List Int)) : List (List Int) := l.foldl addP o
theorem adds_ok {l : List (List Int)} : ∀ {o : List (List Int)}, okR o → (∀ p ∈ l, isPt p) → okR (adds o l) := by
  induction l with
  | nil => exact fun h _ => h
  | cons p l ih => exact fun h hp => ih (addP_ok h (hp p List.mem_cons_self)) fun q hq => hp q (List.mem_cons_of_mem _ hq)
theorem addP_pre (o : List (List Int)) (p : List Int) : ∃ t, addP o p = o ++ t := by
  unfold addP
  split
  · exact ⟨[], by simp⟩
  · exact ⟨[p], rfl⟩
theorem adds_pre (l : List (List Int)) : ∀ (o : List (List Int)), ∃ t, adds o l = o ++ t := by
  induction l with
  | nil => exact fun o => ⟨[], by simp [adds]⟩
  | cons p l ih =>
    intro o
    obtain ⟨t, ht⟩ := addP_pre o p
    obtain ⟨u, hu⟩ := ih (addP o p)
    exact ⟨t ++ u, by show adds (addP o p) l = _; rw [hu, ht, List.append_assoc]⟩
theorem adds_mem (l : List (List Int)) : ∀ (o : List (List Int)) (q : List Int), q ∈ adds o l ↔ q ∈ o ∨ q ∈ l := by
  induction l with
  | nil => simp [adds]
  | cons p l ih =>
    intro o q
    show q ∈ adds (addP o p) l ↔ _
    rw [ih, List.mem_cons]
    unfold addP
    split
    · rename_i h
      constructor
      · rintro (h1 | h1)
        · exact .inl h1
        · exact .inr (.inr h1)
      · rintro (h1 | rfl | h1)
        · exact .inl h1
        · exact .inl h
        · exact .inr h1
    · rw [List.mem_append, List.mem_singleton]
      grind
def px (p : List Int) : Int := rd p 0
def py (p : List Int) : Int := rd p 1
/-- All that is reached, in the order in which it is found: so many steps from the pair at a place on. -/
def reachT (nx : Int → Int → List (List Int)) : Nat → Nat → List (List Int) → List (List Int)
  | 0, _, o => o
  | k + 1, i, o => if i < o.length then reachT nx k (i + 1) (adds o (nx (px (rd_L9 o i)) (py (rd_L9 o i)))) else o
/-- All that is reached from the first pair. -/
def reach (nx : Int → Int → List (List Int)) : List (List Int) := reachT nx 37 0 [[0, 0]]
/-- Its steps lead to pairs of states. -/
def fine (nx : Int → Int → List (List Int)) : Prop := ∀ x y, ∀ p ∈ nx x y, isPt p
theorem reachT_ok {nx : Int → Int → List (List Int)} (hf : fine nx) (k : Nat) : ∀ (i : Nat) (o : List (List Int)), okR o → okR (reachT nx k i o) := by
  induction k with
  | zero => exact fun _ _ h => h
  | succ k ih =>
    intro i o h
    unfold reachT
    split
    · exact ih _ _ (adds_ok h (hf _ _))
    · exact h
theorem first_ok : okR [[0, 0]] := ⟨by simp, fun p hp => ⟨0, 0, List.mem_singleton.1 hp, by omega, by omega⟩⟩
theorem reach_ok {nx : Int → Int → List (List Int)} (hf : fine nx) : okR (reach nx) := reachT_ok hf _ _ _ first_ok
theorem reachT_pre (nx : Int → Int → List (List Int)) (k : Nat) : ∀ (i : Nat) (o : List (List Int)), ∃ t, reachT nx k i o = o ++ t := by
  induction k with
  | zero => exact fun _ o => ⟨[], by simp [reachT]⟩
  | succ k ih =>
    intro i o
    unfold reachT
    split
    · obtain ⟨t, ht⟩ := adds_pre (nx (px (rd_L9 o i)) (py (rd_L9 o i))) o
      obtain ⟨u, hu⟩ := ih (i + 1) (adds o (nx (px (rd_L9 o i)) (py (rd_L9 o i))))
      exact ⟨t ++ u, by rw [hu, ht, List.append_assoc]⟩
    · exact ⟨[], by simp⟩
theorem rdL_at (o : List (List Int)) (i : Nat) (h : i < o.length) : rd_L9 o (i : Int) = o[i] := by simp [rd_L9, h]
/-- Whatever a reached pair leads to is reached. -/
theorem reachT_closed {nx : Int → Int → List (List Int)} (hf : fine nx) (k : Nat) : ∀ (i : Nat) (o : List (List Int)), okR o → 37 ≤ i + k → (∀ j (h : j < o.length), j < i → ∀ q ∈ nx (px o[j]) (py o[j]), q ∈ o) →
    ∀ p ∈ reachT nx k i o, ∀ q ∈ nx (px p) (py p), q ∈ reachT nx k i o := by
  induction k with
  | zero =>
    intro i o h hi hc p hp q hq
    have hp : p ∈ o := hp
    show q ∈ o
    have := okR_len h
    obtain ⟨j, hj, rfl⟩ := List.mem_iff_getElem.1 hp
    exact hc j hj (by omega) q hq
  | succ k ih =>
    intro i o h hi hc
    unfold reachT
    split
    · rename_i hlt
      refine ih (i + 1) _ (adds_ok h (hf _ _)) (by omega) fun j hj hji q hq => ?_
      obtain ⟨t, ht⟩ := adds_pre (nx (px (rd_L9 o i)) (py (rd_L9 o i))) o
      have hjo : j < o.length := by omega
      have e : (adds o (nx (px (rd_L9 o i)) (py (rd_L9 o i))))[j] = o[j] := by
        simp only [ht, List.getElem_append_left hjo]
      rw [e] at hq
      rw [adds_mem]
      by_cases hj2 : j < i
      · exact .inl (hc j hjo hj2 q hq)
      · obtain rfl : j = i := by omega
        rw [rdL_at o j hlt]
        exact .inr hq
    · rename_i hge
      intro p hp q hq
      obtain ⟨j, hj, rfl⟩ := List.mem_iff_getElem.1 hp
      exact hc j hj (by omega) q hq
theorem reach_closed {nx : Int → Int → List (List Int)} (hf : fine nx) {p q : List Int} (hp : p ∈ reach nx) (hq : q ∈ nx (px p) (py p)) : q ∈ reach nx :=
  reachT_closed hf 37 0 _ first_ok (by omega) (fun j _ hj => by omega) p hp q hq
theorem reach_first (nx : Int → Int → List (List Int)) : [0, 0] ∈ reach nx := by
  obtain ⟨t, ht⟩ := reachT_pre nx 37 0 [[0, 0]]
  unfold reach
  rw [ht]
  simp
/-- Whatever holds of the first pair, and of each step of what it holds of, holds of all that is reached. -/
theorem reachT_ind {nx : Int → Int → List (List Int)} {R : List Int → Prop} (hs : ∀ p, R p → ∀ q ∈ nx (px p) (py p), R q) (k : Nat) : ∀ (i : Nat) (o : List (List Int)), (∀ p ∈ o, R p) → ∀ p ∈ reachT nx k i o, R p := by
  induction k with
  | zero => exact fun _ _ h => h
  | succ k ih =>
    intro i o h
    unfold reachT
    split
    · rename_i hlt
      refine ih _ _ fun p hp => ?_
      rcases (adds_mem _ _ _).1 hp with hp | hp
      · exact h p hp
      · rw [rdL_at o i hlt] at hp
        exact hs _ (h _ (List.getElem_mem hlt)) p hp
    · exact h
theorem reach_ind {nx : Int → Int → List (List Int)} {R : List Int → Prop} (h0 : R [0, 0]) (hs : ∀ p, R p → ∀ q ∈ nx (px p) (py p), R q) {p : List Int} (hp : p ∈ reach nx) : R p :=
  reachT_ind hs 37 0 _ (fun q hq => (List.mem_singleton.1 hq) ▸ h0) p hp
/-- Where two machines' moves lead, message by message. -/
def steps (la lb : List Mv) (x y : Int) (ba bb : Bool) : List Int → List (List Int)
  | [] => []
  | g :: r => if 0 ≤ mvOf la x ba g ∧ 0 ≤ mvOf lb y bb g then [(rd_T78 la (mvOf la x ba g)).f3, (rd_T78 lb (mvOf lb y bb g)).f3] :: steps la lb x y ba bb r else steps la lb x y ba bb r
theorem steps_mem {la lb : List Mv} {x y : Int} {ba bb : Bool} {r : List Int} {p : List Int} : p ∈ steps la lb x y ba bb r ↔ ∃ g ∈ r, 0 ≤ mvOf la x ba g ∧ 0 ≤ mvOf lb y bb g ∧ p = [(rd_T78 la (mvOf la x ba g)).f3, (rd_T78 lb (mvOf lb y bb g)).f3] := by
  induction r with
  | nil => simp [steps]
  | cons g r ih =>
    simp only [steps]
    by_cases h : 0 ≤ mvOf la x ba g ∧ 0 ≤ mvOf lb y bb g
    · rw [if_pos h, List.mem_cons, ih]
      constructor
      · rintro (h1 | ⟨z, h2, h3⟩)
        · exact ⟨g, List.mem_cons_self, h.1, h.2, h1⟩
        · exact ⟨z, List.mem_cons_of_mem _ h2, h3⟩
      · rintro ⟨z, h2, h3, h4, h5⟩
        rcases List.mem_cons.1 h2 with rfl | h2
        · exact .inl h5
        · exact .inr ⟨z, h2, h3, h4, h5⟩
    · rw [if_neg h, ih]
      constructor
      · rintro ⟨z, h2, h3⟩
        exact ⟨z, List.mem_cons_of_mem _ h2, h3⟩
      · rintro ⟨z, h2, h3, h4, h5⟩
        rcases List.mem_cons.1 h2 with rfl | h2
        · exact absurd ⟨h3, h4⟩ h
        · exact ⟨z, h2, h3, h4, h5⟩
theorem steps_len (la lb : List Mv) (x y : Int) (ba bb : Bool) (r : List Int) : (steps la lb x y ba bb r).length ≤ r.length := by
  induction r with
  | nil => simp [steps]
  | cons g r ih =>
    simp only [steps]
    split
    · rw [List.length_cons, List.length_cons]
      omega
    · rw [List.length_cons]
      omega
theorem mv_pt {s : Int} {l : List Mv} (h : ∀ m ∈ l, isMv s m = true) (hs : s ≤ 6) {st : Int} {b : Bool} {g : Int} (hg : 0 ≤ mvOf l st b g) : 0 ≤ (rd_T78 l (mvOf l st b g)).f3 ∧ (rd_T78 l (mvOf l st b g)).f3 ≤ 5 := by
  have h1 := h _ (mvOf_in hg).2.1
  simp only [isMv, Bool.and_eq_true, inR_true] at h1
  omega
theorem steps_pt {s t : Int} {la lb : List Mv} (ha : ∀ m ∈ la, isMv s m = true) (hs : s ≤ 6) (hb : ∀ m ∈ lb, isMv t m = true) (ht : t ≤ 6) {x y : Int} {ba bb : Bool} {r : List Int} : ∀ p ∈ steps la lb x y ba bb r, isPt p := by
  intro p hp
  obtain ⟨g, _, h1, h2, rfl⟩ := steps_mem.1 hp
  exact ⟨_, _, rfl, mv_pt ha hs h1, mv_pt hb ht h2⟩
end Go.Proofs.Ytldcchjbaglppaa.Plain

/- Machines whose rows are not too long; pairs read. No program. No condition. -/
set_option linter.unusedSimpArgs false
set_option linter.unusedVariables false
namespace Go.Proofs.Ytldcchjbaglppaa.Plain
open Go.RowKit Go.Proofs.YtldcchjbaglppaaW.PrintWords Go.Proofs.Ytldcchjbaglppaa.Base Go.Proofs.Ytldcchjbaglppaa.Print

abbrev Mach := S34
theorem rdMach_mid (pre suf : List Mach) (x : Mach) : rd_T34 (pre ++ x :: suf) (pre.length : Int) = x := by simp [rd_T34]
/-- Its rows are not too long. -/
def okM (a : Mach) : Prop := a.f1.length ≤ 1000000000000 ∧ a.f2.length ≤ 1000000000000
def isMa (a : Mach) : Bool := isM a.f0 a.f1 a.f2
theorem adds_app (o l m : List (List Int)) : adds (adds o l) m = adds o (l ++ m) := by
  unfold adds
  rw [List.foldl_append]
/-- The list of pairs, read at a place. -/
theorem pt_at {o : List (List Int)} (h : ∀ p ∈ o, isPt p) {p : List Int} (hp : p ∈ o) : p.length = 2 := by
  obtain ⟨x, y, rfl, _⟩ := h p hp
  rfl
end Go.Proofs.Ytldcchjbaglppaa.Plain

/- Machines, of the program: IsMachine, MoveOf, MovesFrom and ends. Condition: at most 10 to the 12 of each; of a machine's moves at most 12, no two of which clash. -/
set_option linter.unusedSimpArgs false
set_option linter.unusedVariables false
namespace Go.Proofs.Ytldcchjbaglppaa.Plain
open Go.RowKit Go.Proofs.YtldcchjbaglppaaW.PrintWords Go.Proofs.Ytldcchjbaglppaa.Base Go.Proofs.Ytldcchjbaglppaa.Print

theorem take_mid {α : Type} (pre suf : List α) : (pre ++ suf).take (pre.length : Int).toNat = pre := by
  rw [Int.toNat_natCast]
  simp
theorem implIsM_l1 (l : List Mv) (s : Int) (e : List Bool) (ms : List Mv) (n i : Int) (m : Mv) (suf : List Mv) : ∀ (pre : List Mv), (pre ++ suf).length ≤ 1000000000000 →
    impl_IsMachine.l1v l n i (pre ++ suf) ((pre ++ suf).length : Int) (pre.length : Int) s e ms m.f0 m.f1 m.f2 m.f3 = if (suf.any fun o => clash o m) = true then some false else impl_IsMachine.l0v l n (wrap64 (i + 1)) s e ms := by
  induction suf with
  | nil =>
    intro pre _
    rw [impl_IsMachine.l1v_eq, if_neg (nlt_end pre)]
    rfl
  | cons x suf ih =>
    intro pre hl
    have hn : pre.length < (pre ++ x :: suf).length := by simp
    rw [impl_IsMachine.l1v_eq, if_pos (lt_mid pre suf x), if_pos (by omega), if_pos (lt_mid pre suf x), rdMv_mid, up_mid pre x hn hl]
    have h1 := ih (pre ++ [x]) (by simpa using hl)
    rw [← mid_snoc pre suf x] at h1
    rw [h1]
    simp only [List.any_cons, clash]
    by_cases c0 : x.f0 = m.f0
    · rw [if_pos c0]
      rcases Bool.eq_false_or_eq_true (x.f1 != m.f1) with c1 | c1
      · rw [if_pos c1]
        simp [c0, c1]
      · rw [if_neg (by rw [c1]; decide)]
        by_cases c2 : x.f2 = m.f2
        · rw [if_pos c2]
          simp [c0, c2]
        · rw [if_neg c2]
          simp only [c0, c1, c2, decide_true, decide_false, Bool.or_false, Bool.and_false, Bool.false_or]
          rfl
    · rw [if_neg c0]
      simp [c0]
theorem implIsM_l0 (s : Int) (h0 : 1 ≤ s) (h1 : s ≤ 6) (e : List Bool) (suf : List Mv) : ∀ (pre : List Mv), (pre ++ suf).length ≤ 1000000000000 →
    impl_IsMachine.l0v (pre ++ suf) ((pre ++ suf).length : Int) (pre.length : Int) s e (pre ++ suf) = some (isMs s pre suf) := by
  induction suf with
  | nil =>
    intro pre _
    rw [impl_IsMachine.l0v_eq, if_neg (nlt_end pre)]
    rfl
  | cons x suf ih =>
    intro pre hl
    have hn : pre.length < (pre ++ x :: suf).length := by simp
    have hp : pre.length ≤ 1000000000000 := by omega
    have hw : wrap64 (s - 1) = s - 1 := w64 (by omega) (by omega)
    have h2 := ih (pre ++ [x]) (by simpa using hl)
    rw [← mid_snoc pre suf x] at h2
    have h3 : ∀ q : Bool, impl_IsMachine.j2v (pre.length : Int) (pre ++ x :: suf) ((pre ++ x :: suf).length : Int) (pre.length : Int) q s e (pre ++ x :: suf) x.f0 x.f1 x.f2 x.f3 = some (!q && (!(pre.any fun o => clash o x) && isMs s (pre ++ [x]) suf)) := by
      intro q
      rw [impl_IsMachine.j2v_eq]
      cases q with
      | true => rfl
      | false =>
        have h4 := implIsM_l1 (pre ++ x :: suf) s e (pre ++ x :: suf) ((pre ++ x :: suf).length : Int) (pre.length : Int) x pre [] (by simpa using hp)
        simp only [List.nil_append, List.length_nil, Int.natCast_zero] at h4
        rw [if_neg (by simp), if_pos (by omega), if_pos (by omega), take_mid, Option.bind_some, h4, up_mid pre x hn hl, h2]
        cases pre.any fun o => clash o x <;> rfl
    rw [impl_IsMachine.l0v_eq, if_pos (lt_mid pre suf x), if_pos (by omega), if_pos (lt_mid pre suf x), rdMv_mid, hw, inRange_f, Option.bind_some, inRange_f, Option.bind_some, inRange_f, Option.bind_some]
    simp only [h3, isMs, isMv]
    cases inR 0 (s - 1) x.f0 <;> cases inR 0 (s - 1) x.f3 <;> cases inR 0 5 x.f2 <;> simp
theorem implIsM_v (s : Int) (e : List Bool) (l : List Mv) (hl : l.length ≤ 1000000000000) : impl_IsMachine.fv s e l = some (isM s e l) := by
  rw [impl_IsMachine.fv_eq, inRange_f, Option.bind_some]
  unfold isM
  cases h : inR 1 6 s with
  | false =>
    rw [if_neg (by simp), impl_IsMachine.j0v_eq]
    rfl
  | true =>
    obtain ⟨h0, h1⟩ := inR_true.1 h
    rw [if_pos rfl]
    by_cases h2 : (e.length : Int) = s
    · rw [if_pos h2, impl_IsMachine.j0v_eq]
      by_cases h3 : l.length ≤ 12
      · have h4 := implIsM_l0 s h0 h1 e l [] (by simpa using hl)
        simp only [List.nil_append, List.length_nil, Int.natCast_zero] at h4
        rw [if_neg (by rw [decide_eq_true_eq]; omega), h4]
        simp [h2, h3]
      · rw [if_pos (by rw [decide_eq_true_eq]; omega)]
        simp [h3]
    · rw [if_neg h2, impl_IsMachine.j0v_eq]
      simp [h2]
theorem implHit_f (m : Mv) (st : Int) (b : Bool) (g : Int) : impl_MoveOf_1.f m.f0 m.f1 m.f2 m.f3 st b g = some (hit st b g m) := by
  unfold impl_MoveOf_1.f hit
  by_cases h : m.f0 = st
  · rw [if_pos h]
    by_cases hg : m.f2 = g <;> cases m.f1 <;> cases b <;> simp [h, hg]
  · rw [if_neg h]
    simp [h]
theorem implMvOf_l0 (st : Int) (b : Bool) (g : Int) (suf : List Mv) : ∀ (pre : List Mv), (pre ++ suf).length ≤ 1000000000000 →
    slices_IndexFunc_impl_Move_impl_Move_with_impl_MoveOf_1.l0v (pre ++ suf) ((pre ++ suf).length : Int) (pre.length : Int) st b g = some (mvAt st b g (pre.length : Int) suf) := by
  induction suf with
  | nil =>
    intro pre _
    rw [slices_IndexFunc_impl_Move_impl_Move_with_impl_MoveOf_1.l0v_eq, if_neg (nlt_end pre)]
    rfl
  | cons x suf ih =>
    intro pre hl
    have hn : pre.length < (pre ++ x :: suf).length := by simp
    rw [slices_IndexFunc_impl_Move_impl_Move_with_impl_MoveOf_1.l0v_eq, if_pos (lt_mid pre suf x), if_pos (by omega), if_pos (lt_mid pre suf x), rdMv_mid, implHit_f, Option.bind_some, up_mid pre x hn hl]
    simp only [mvAt]
    rw [mid_snoc pre suf x] at hl ⊢
    rw [ih (pre ++ [x]) hl, show ((pre ++ [x]).length : Int) = (pre.length : Int) + 1 by simp]
    cases hit st b g x <;> rfl
theorem implMvOf_v (s : Int) (e : List Bool) (l : List Mv) (st : Int) (b : Bool) (g : Int) (hl : l.length ≤ 1000000000000) : impl_MoveOf.fv s e l st b g = some (mvOf l st b g) := by
  rw [impl_MoveOf.fv_eq, slices_IndexFunc_impl_Move_impl_Move_with_impl_MoveOf_1.fv_eq]
  have h := implMvOf_l0 st b g l [] (by simpa using hl)
  simp only [List.nil_append, List.length_nil, Int.natCast_zero] at h
  rw [h]
  rfl
theorem less_f (a b : Int) : cmp_Less_int.f a b = some (decide (a < b)) := by
  unfold cmp_Less_int.f cmp_isNaN_int.f
  simp
theorem swap_mid (p q : List Int) (x y : Int) : ((p ++ [y] ++ x :: q).set ((p.length + 1 : Nat) : Int).toNat y).set (p.length : Int).toNat x = p ++ x :: y :: q := by
  rw [Int.toNat_natCast, Int.toNat_natCast]
  simp [List.set_append]
theorem sort_l1 (n i : Int) (m : Nat) : ∀ (p q : List Int) (x : Int), p.length = m → p.length ≤ 1000000000000 → p.Pairwise (· < ·) → x ∉ p →
    slices_insertionSortOrdered_int.l1v (p ++ x :: q) 0 n i (p.length : Int) = slices_insertionSortOrdered_int.l0v (put p x ++ q) 0 n (wrap64 (i + 1)) := by
  induction m with
  | zero =>
    intro p q x hm _ _ _
    obtain rfl := List.eq_nil_of_length_eq_zero hm
    rw [slices_insertionSortOrdered_int.l1v_eq, if_neg (by simp)]
    rfl
  | succ m ih =>
    intro p q x hm hl hu hx
    obtain ⟨p, y, rfl⟩ : ∃ p' y, p = p' ++ [y] := by
      rcases List.eq_nil_or_concat p with h | ⟨p', y, h⟩
      · rw [h] at hm
        cases hm
      · exact ⟨p', y, by rw [h]; simp⟩
    have hp : p.length = m := by simpa using hm
    have hxy : x ≠ y := fun e => hx (by simp [e])
    have hxp : x ∉ p := fun h => hx (by simp [h])
    rw [List.pairwise_append] at hu
    have e1 : ((p ++ [y]).length : Int) = (p.length : Int) + 1 := by simp
    have e2 : ((p ++ [y]).length : Int) = ((p.length + 1 : Nat) : Int) := by simp
    have hl' : p.length < 1000000000000 := by
      rw [List.length_append] at hl
      simp only [List.length_cons, List.length_nil] at hl
      omega
    rw [slices_insertionSortOrdered_int.l1v_eq, e1, if_pos (by omega), if_pos (by omega), if_pos (by simp; omega), w64 (by omega) (by omega), show (p.length : Int) + 1 - 1 = (p.length : Int) by omega, if_pos (by omega), if_pos (by simp; omega), ← e1, rd_mid (p ++ [y]) q x, show p ++ [y] ++ x :: q = p ++ y :: (x :: q) by simp, rd_mid p (x :: q) y, less_f, Option.bind_some]
    by_cases h : x < y
    · rw [if_pos (by rw [decide_eq_true_eq]; exact h), show p ++ y :: (x :: q) = p ++ [y] ++ x :: q by simp, e2, swap_mid p q x y, ih p (y :: q) x hp (by omega) hu.1 hxp, put_lt p h]
      simp
    · have h2 : ∀ z ∈ p ++ [y], z < x := by
        intro z hz
        rcases List.mem_append.1 hz with hz | hz
        · have := hu.2.2 z hz y (by simp)
          omega
        · have := List.mem_singleton.1 hz
          omega
      rw [if_neg (by rw [decide_eq_true_eq]; exact h), put_gt h2]
      simp
theorem sort_l0 (suf : List Int) : ∀ (a : List Int), a.length + suf.length ≤ 1000000000000 → a.Pairwise (· < ·) → suf.Nodup → (∀ x ∈ suf, x ∉ a) →
    slices_insertionSortOrdered_int.l0v (a ++ suf) 0 ((a.length + suf.length : Nat) : Int) (a.length : Int) = some (suf.foldl put a) := by
  induction suf with
  | nil =>
    intro a _ _ _ _
    rw [slices_insertionSortOrdered_int.l0v_eq, if_neg (by simp)]
    simp
  | cons x suf ih =>
    intro a hl hu hn hx
    have hxa := hx x List.mem_cons_self
    have hl' : a.length < 1000000000000 := by simp only [List.length_cons] at hl; omega
    rw [slices_insertionSortOrdered_int.l0v_eq, if_pos (by simp only [List.length_cons]; omega), sort_l1 _ _ a.length a suf x rfl (by omega) hu hxa, w64 (by omega) (by omega)]
    have hpl : (put a x).length = a.length + 1 := put_new hxa
    have e1 : (a.length : Int) + 1 = ((put a x).length : Int) := by omega
    have e2 : a.length + (x :: suf).length = (put a x).length + suf.length := by simp only [List.length_cons]; omega
    rw [e1, e2, ih (put a x) (by omega) (put_up x hu) (List.nodup_cons.1 hn).2 (fun y hy => ?_)]
    · rfl
    · rw [put_mem]
      rintro (rfl | h)
      · exact (List.nodup_cons.1 hn).1 hy
      · exact hx y (List.mem_cons_of_mem _ hy) h
theorem sort_v (l : List Int) (hl : l.length ≤ 12) (hn : l.Nodup) : slices_Sort_int_int.fv l = some (l.foldl put []) := by
  have hw : IntKind.u64.wrap (l.length : Int) = (l.length : Int) := by
    show (l.length : Int) % 18446744073709551616 = _
    omega
  rw [slices_Sort_int_int.fv_eq, hw]
  unfold bits_Len.f
  rw [if_pos (by omega), if_pos (by omega), Option.bind_some, slices_pdqsortOrdered_int.fv_eq, slices_pdqsortOrdered_int.l0v_eq, if_pos (by rw [w64 (by omega) (by omega)]; omega), slices_insertionSortOrdered_int.fv_eq]
  have e : slices_insertionSortOrdered_int.l0v l 0 (l.length : Int) (wrap64 (0 + 1)) = some (l.foldl put []) := by
    rw [w64 (by omega) (by omega)]
    cases l with
    | nil =>
      rw [slices_insertionSortOrdered_int.l0v_eq, if_neg (by simp)]
      rfl
    | cons x l =>
      have h := sort_l0 l [x] (by simp only [List.length_cons, List.length_nil] at hl ⊢; omega) (by simp) (List.nodup_cons.1 hn).2 (fun y hy h => by
        rw [List.mem_singleton.1 h] at hy
        exact (List.nodup_cons.1 hn).1 hy)
      have e1 : ((([x] : List Int).length + l.length : Nat) : Int) = ((x :: l).length : Int) := by simp only [List.length_cons, List.length_nil]; omega
      have e2 : (([x] : List Int).length : Int) = 0 + 1 := rfl
      rw [e1, e2] at h
      exact h
  rw [e]
  rfl
theorem compact_l0 (suf : List Int) : ∀ (pre : List Int) (y : Int), (pre ++ y :: suf).length ≤ 1000000000000 → (y :: suf).Pairwise (· < ·) →
    slices_Compact_int_int.l0v (pre ++ y :: suf) ((pre.length + 1 : Nat) : Int) = some (pre ++ y :: suf) := by
  induction suf with
  | nil =>
    intro pre y _ _
    rw [slices_Compact_int_int.l0v_eq, if_neg (by simp)]
  | cons x suf ih =>
    intro pre y hl hu
    have hl' : pre.length < 1000000000000 := by simp only [List.length_append, List.length_cons] at hl; omega
    have e0 : ((pre.length + 1 : Nat) : Int) = ((pre ++ [y]).length : Int) := by simp
    have hyx : y < x := (List.pairwise_cons.1 hu).1 x List.mem_cons_self
    have e3 : pre ++ y :: x :: suf = (pre ++ [y]) ++ x :: suf := by simp
    have hn : (pre ++ [y]).length < ((pre ++ [y]) ++ x :: suf).length := by simp
    have h2 := ih (pre ++ [y]) x (by rw [← e3]; exact hl) (List.pairwise_cons.1 hu).2
    rw [e3] at hl ⊢
    rw [slices_Compact_int_int.l0v_eq, if_pos (by rw [e0]; exact lt_mid (pre ++ [y]) suf x), if_pos (by omega), w64 (x := ((pre.length + 1 : Nat) : Int) - 1) (by omega) (by omega), if_pos (by omega), if_pos (by simp; omega)]
    have e4 : ((pre.length + 1 : Nat) : Int) - 1 = (pre.length : Int) := by omega
    rw [e4, e0, rd_mid (pre ++ [y]) suf x, ← e3, rd_mid pre (x :: suf) y, if_neg (by omega), e3, up_mid (pre ++ [y]) x hn hl]
    have e5 : (((pre ++ [y]) ++ [x]).length : Int) = (((pre ++ [y]).length + 1 : Nat) : Int) := by
      rw [List.length_append]
      rfl
    rw [e5]
    exact h2
theorem compact_v (l : List Int) (hl : l.length ≤ 1000000000000) (hu : l.Pairwise (· < ·)) : slices_Compact_int_int.fv l = some l := by
  rw [slices_Compact_int_int.fv_eq]
  split
  · rfl
  · cases l with
    | nil => simp at *
    | cons y l =>
      have h := compact_l0 l [] y (by simpa using hl) hu
      simpa using h
theorem implMsgs_l0 (s : Int) (e : List Bool) (st : Int) (b : Bool) (suf : List Mv) : ∀ (pre : List Mv), (pre ++ suf).length ≤ 12 → (pre ++ suf).Pairwise (fun o m => clash o m = false) →
    impl_MovesFrom.l0v st b (raw pre st b) (pre ++ suf) ((pre ++ suf).length : Int) (pre.length : Int) = some (msgs (pre ++ suf) st b) := by
  induction suf with
  | nil =>
    intro pre hl hp
    simp only [List.append_nil] at hl hp ⊢
    rw [impl_MovesFrom.l0v_eq, if_neg (by omega), sort_v _ (Nat.le_trans (raw_len pre st b) hl) (raw_nodup hp st b), Option.bind_some]
    have h1 : (msgs pre st b).length ≤ 12 := Nat.le_trans (msgs_len pre st b) hl
    rw [show (raw pre st b).foldl put [] = msgs pre st b from rfl, compact_v (msgs pre st b) (by omega) (fold_up (raw pre st b) [] List.Pairwise.nil), Option.bind_some]
  | cons x suf ih =>
    intro pre hl hp
    have hn : pre.length < (pre ++ x :: suf).length := by simp
    have hr := raw_len pre st b
    rw [impl_MovesFrom.l0v_eq, if_pos (lt_mid pre suf x), if_pos (by omega), if_pos (lt_mid pre suf x), rdMv_mid, up_mid pre x hn (by omega)]
    rw [mid_snoc pre suf x] at hl hp hn ⊢
    have h1 := ih (pre ++ [x]) hl hp
    have hr2 : raw (pre ++ [x]) st b = raw pre st b ++ if x.f0 = st ∧ x.f1 = b then [x.f2] else [] := by
      unfold raw
      rw [List.filter_append, List.map_append]
      congr 1
      by_cases c0 : x.f0 = st <;> by_cases c1 : x.f1 = b <;> simp [c0, c1]
    rw [hr2] at h1
    by_cases c0 : x.f0 = st
    · rw [if_pos c0]
      by_cases c1 : x.f1 = b
      · rw [if_pos (by simp [c1]), if_pos (by omega)]
        rw [if_pos ⟨c0, c1⟩] at h1
        exact h1
      · rw [if_neg (by simp [c1])]
        rw [if_neg (fun h => c1 h.2), List.append_nil] at h1
        exact h1
    · rw [if_neg c0]
      rw [if_neg (fun h => c0 h.1), List.append_nil] at h1
      exact h1
theorem implMsgs_v (s : Int) (e : List Bool) (l : List Mv) (st : Int) (b : Bool) (hl : l.length ≤ 12) (hp : l.Pairwise (fun o m => clash o m = false)) : impl_MovesFrom.fv s e l st b = some (msgs l st b) := by
  rw [impl_MovesFrom.fv_eq]
  have h := implMsgs_l0 s e st b l [] (by simpa using hl) (by simpa using hp)
  simpa [raw] using h
theorem implEnd_f (s : Int) (e : List Bool) (l : List Mv) (x : Int) (he : e.length ≤ 1000000000000) : impl_isEnd.f s e l x = some (endsAt e x) := by
  unfold impl_isEnd.f endsAt
  rw [w64 (by omega) (by omega), inRange_f, Option.bind_some]
  cases h : inR 0 ((e.length : Int) - 1) x with
  | false => rfl
  | true =>
    obtain ⟨h0, h1⟩ := inR_true.1 h
    rw [if_pos rfl, if_pos h0, if_pos (by omega)]
    rfl
end Go.Proofs.Ytldcchjbaglppaa.Plain

/- slices.Equal on whole numbers. Condition: at most 10 to the 12 numbers. -/
set_option linter.unusedSimpArgs false
set_option linter.unusedVariables false
namespace Go.Proofs.Ytldcchjbaglppaa.Plain
open Go.RowKit Go.Proofs.YtldcchjbaglppaaW.PrintWords Go.Proofs.Ytldcchjbaglppaa.Base Go.Proofs.Ytldcchjbaglppaa.Print

theorem slicesEqual_l0 (sa : List Int) : ∀ (pre sb : List Int), sb.length = sa.length → (pre ++ sa).length ≤ 1000000000000 → slices_Equal_int_int.l0v (pre ++ sa) (pre ++ sb) ((pre ++ sa).length : Int) (pre.length : Int) = some (decide (sa = sb)) := by
  induction sa with
  | nil =>
    intro pre sb hr _
    rw [slices_Equal_int_int.l0v_eq, if_neg (nlt_end pre)]
    simp at hr
    simp [hr]
  | cons x sa ih =>
    intro pre sb hr hl
    cases sb with
    | nil => simp at hr
    | cons y sb =>
      have hn : pre.length < (pre ++ x :: sa).length := by simp
      rw [slices_Equal_int_int.l0v_eq, if_pos (lt_mid pre sa x), if_pos (by omega), if_pos (lt_mid pre sa x), if_pos (lt_mid pre sb y), rd_mid, rd_mid, up_mid pre x hn hl]
      by_cases hxy : x = y
      · subst hxy
        rw [if_pos rfl]
        rw [mid_snoc pre sa x] at hl ⊢
        rw [mid_snoc pre sb x]
        rw [ih (pre ++ [x]) sb (by simpa using hr) hl]
        simp
      · rw [if_neg hxy]
        simp [hxy]
theorem slicesEqual_v (a b : List Int) (hl : a.length ≤ 1000000000000) : slices_Equal_int_int.fv a b = some (decide (a = b)) := by
  rw [slices_Equal_int_int.fv_eq]
  by_cases h : a.length = b.length
  · rw [if_pos (by omega)]
    have h1 := slicesEqual_l0 a [] b h.symm (by simpa using hl)
    simpa using h1
  · rw [if_neg (by omega)]
    have : a ≠ b := fun e => h (by rw [e])
    simp [this]
end Go.Proofs.Ytldcchjbaglppaa.Plain

/- slices.Contains on whole numbers. Condition: at most 10 to the 12 numbers. -/
set_option linter.unusedSimpArgs false
set_option linter.unusedVariables false
namespace Go.Proofs.Ytldcchjbaglppaa.Plain
open Go.RowKit Go.Proofs.YtldcchjbaglppaaW.PrintWords Go.Proofs.Ytldcchjbaglppaa.Base Go.Proofs.Ytldcchjbaglppaa.Print

theorem slIndex_l0 (x : Int) (suf : List Int) : ∀ (pre : List Int), (pre ++ suf).length ≤ 1000000000000 →
    ∃ r, slices_Index_int_int.l0v (pre ++ suf) x ((pre ++ suf).length : Int) (pre.length : Int) = some r ∧ decide (r ≥ 0) = mem suf x := by
  induction suf with
  | nil =>
    intro pre _
    refine ⟨-1, ?_, by simp [mem]⟩
    rw [slices_Index_int_int.l0v_eq, if_neg (nlt_end pre)]
  | cons y suf ih =>
    intro pre hl
    have hn : pre.length < (pre ++ y :: suf).length := by simp
    rw [slices_Index_int_int.l0v_eq, if_pos (lt_mid pre suf y), if_pos (by omega), if_pos (lt_mid pre suf y), rd_mid]
    by_cases hxy : x = y
    · rw [if_pos hxy]
      refine ⟨(pre.length : Int), rfl, ?_⟩
      rw [mem_cons, hxy]
      simp
    · rw [if_neg hxy, up_mid pre y hn hl]
      rw [mid_snoc pre suf y] at hl ⊢
      obtain ⟨r, h1, h2⟩ := ih (pre ++ [y]) hl
      refine ⟨r, h1, ?_⟩
      rw [h2, mem_cons]
      simp [show ¬ y = x from fun e => hxy e.symm]
theorem slHas_v (l : List Int) (x : Int) (hl : l.length ≤ 1000000000000) : slices_Contains_int_int.fv l x = some (mem l x) := by
  obtain ⟨r, h1, h2⟩ := slIndex_l0 x l [] (by simpa using hl)
  rw [slices_Contains_int_int.fv_eq, slices_Index_int_int.fv_eq]
  simp only [List.nil_append, List.length_nil, Int.natCast_zero] at h1
  rw [h1]
  simp [h2]
end Go.Proofs.Ytldcchjbaglppaa.Plain

/- A row of rows, read. No program. No condition. -/
set_option linter.unusedSimpArgs false
set_option linter.unusedVariables false
namespace Go.Proofs.Ytldcchjbaglppaa.Plain
open Go.RowKit Go.Proofs.YtldcchjbaglppaaW.PrintWords Go.Proofs.Ytldcchjbaglppaa.Base Go.Proofs.Ytldcchjbaglppaa.Print

theorem rdL1_mid (pre suf : List (List Int)) (x : List Int) : rd_L9 (pre ++ x :: suf) (pre.length : Int) = x := by simp [rd_L9]
end Go.Proofs.Ytldcchjbaglppaa.Plain

/- Is a pair among pairs? Of the program. And a list without the numbers of another one. Condition: at most 10 to the 12 of each. -/
set_option linter.unusedSimpArgs false
set_option linter.unusedVariables false
namespace Go.Proofs.Ytldcchjbaglppaa.Plain
open Go.RowKit Go.Proofs.YtldcchjbaglppaaW.PrintWords Go.Proofs.Ytldcchjbaglppaa.Base Go.Proofs.Ytldcchjbaglppaa.Print

theorem okR_rows {o : List (List Int)} (h : okR o) : ∀ x ∈ o, x.length ≤ 1000000000000 := by
  intro x hx
  obtain ⟨a, b, rfl, _⟩ := h.2 x hx
  simp
theorem implHasP_l0 (p : List Int) (suf : List (List Int)) : ∀ (pre : List (List Int)), (pre ++ suf).length ≤ 1000000000000 → (∀ x ∈ suf, x.length ≤ 1000000000000) →
    ∃ r, slices_IndexFunc_int_int_with_impl_reached_1.l0v (pre ++ suf) ((pre ++ suf).length : Int) (pre.length : Int) p = some r ∧ decide (r ≥ 0) = decide (p ∈ suf) := by
  induction suf with
  | nil =>
    intro pre _ _
    refine ⟨-1, ?_, by simp⟩
    rw [slices_IndexFunc_int_int_with_impl_reached_1.l0v_eq, if_neg (nlt_end pre)]
  | cons x suf ih =>
    intro pre hl hx
    have hn : pre.length < (pre ++ x :: suf).length := by simp
    rw [slices_IndexFunc_int_int_with_impl_reached_1.l0v_eq, if_pos (lt_mid pre suf x), if_pos (by omega), if_pos (lt_mid pre suf x), rdL1_mid, impl_reached_1.fv_eq, slicesEqual_v x p (hx x List.mem_cons_self), Option.bind_some, Option.bind_some, up_mid pre x hn hl]
    by_cases h : x = p
    · refine ⟨(pre.length : Int), ?_, ?_⟩
      · rw [if_pos (by simp [h])]
      · simp [h]
    · rw [if_neg (by simp [h])]
      rw [mid_snoc pre suf x] at hl ⊢
      obtain ⟨r, h1, h2⟩ := ih (pre ++ [x]) hl fun y hy => hx y (List.mem_cons_of_mem _ hy)
      refine ⟨r, h1, ?_⟩
      rw [h2]
      simp [show ¬ p = x from fun e => h e.symm]
theorem implHasP_v (l : List (List Int)) (p : List Int) (hl : l.length ≤ 1000000000000) (hx : ∀ x ∈ l, x.length ≤ 1000000000000) : slices_ContainsFunc_int_int_with_impl_reached_1.fv l p = some (decide (p ∈ l)) := by
  obtain ⟨r, h1, h2⟩ := implHasP_l0 p l [] (by simpa using hl) hx
  rw [slices_ContainsFunc_int_int_with_impl_reached_1.fv_eq, slices_IndexFunc_int_int_with_impl_reached_1.fv_eq]
  simp only [List.nil_append, List.length_nil, Int.natCast_zero] at h1
  rw [h1, Option.bind_some, h2]
theorem implWo_l0 (b : List Int) (hb : b.length ≤ 1000000000000) (suf : List Int) : ∀ (pre out : List Int), (pre ++ suf).length ≤ 1000000000000 → out.length ≤ pre.length →
    impl_without.l0v b out (pre ++ suf) ((pre ++ suf).length : Int) (pre.length : Int) = some (out ++ suf.filter fun v => !(mem b v)) := by
  induction suf with
  | nil =>
    intro pre out _ _
    rw [impl_without.l0v_eq, if_neg (nlt_end pre)]
    simp
  | cons x suf ih =>
    intro pre out hl ho
    have hn : pre.length < (pre ++ x :: suf).length := by simp
    have hp : pre.length < 1000000000000 := by omega
    rw [impl_without.l0v_eq, if_pos (lt_mid pre suf x), if_pos (by omega), if_pos (lt_mid pre suf x), rd_mid, slHas_v b x hb, Option.bind_some, up_mid pre x hn hl]
    rw [mid_snoc pre suf x] at hl ⊢
    cases h : mem b x with
    | true =>
      rw [if_pos rfl, ih (pre ++ [x]) out hl (by simp; omega)]
      simp [h]
    | false =>
      rw [if_neg (by simp), if_pos (by omega), ih (pre ++ [x]) (out ++ [x]) hl (by simp; omega)]
      simp [h]
theorem implWo_v (a b : List Int) (ha : a.length ≤ 1000000000000) (hb : b.length ≤ 1000000000000) : impl_without.fv a b = some (a.filter fun v => !(mem b v)) := by
  rw [impl_without.fv_eq]
  have h := implWo_l0 b hb a [] [] (by simpa using ha) (by simp)
  simpa using h
/-- Is each number of a list in another one? -/
def sub (a b : List Int) : Bool := a.all (mem b)
theorem wo_pos (a b : List Int) : decide (((a.filter fun v => !(mem b v)).length : Int) > 0) = !(sub a b) := by
  induction a with
  | nil => rfl
  | cons x a ih =>
    unfold sub at ih ⊢
    rw [List.all_cons]
    cases h : mem b x with
    | true =>
      rw [List.filter_cons_of_neg (by simp [h]), ih]
      rfl
    | false =>
      rw [List.filter_cons_of_pos (by simp [h]), List.length_cons]
      simp
end Go.Proofs.Ytldcchjbaglppaa.Plain

/- PairsOf, of the program. Condition: machines of at most 12 moves, no two of which clash. -/
set_option linter.unusedSimpArgs false
set_option linter.unusedVariables false
namespace Go.Proofs.Ytldcchjbaglppaa.Plain
open Go.RowKit Go.Proofs.YtldcchjbaglppaaW.PrintWords Go.Proofs.Ytldcchjbaglppaa.Base Go.Proofs.Ytldcchjbaglppaa.Print

section
variable (s : Int) (e : List Bool) (l : List Mv) (s' : Int) (e' : List Bool) (l' : List Mv)
theorem nextS_l1 (hl : l.length ≤ 1000000000000) (hl' : l'.length ≤ 1000000000000) (x y : Int) (b : Bool) (q : List Bool) (n i : Int) (suf : List Int) : ∀ (pre : List Int) (out : List (List Int)), (pre ++ suf).length ≤ 1000000000000 → out.length + suf.length ≤ 1000000000000 →
    impl_NextPairs.l1v x y out b q n i (pre ++ suf) ((pre ++ suf).length : Int) (pre.length : Int) s e l s' e' l' = impl_NextPairs.l0v x y (out ++ steps l l' x y b (!b) suf) q n (wrap64 (i + 1)) s e l s' e' l' := by
  induction suf with
  | nil =>
    intro pre out _ _
    rw [impl_NextPairs.l1v_eq, if_neg (nlt_end pre)]
    simp [steps]
  | cons g suf ih =>
    intro pre out hp ho
    have hn : pre.length < (pre ++ g :: suf).length := by simp
    rw [List.length_cons] at ho
    rw [impl_NextPairs.l1v_eq, if_pos (lt_mid pre suf g), if_pos (by omega), if_pos (lt_mid pre suf g), rd_mid, implMvOf_v s e l x b g hl, Option.bind_some, implMvOf_v s' e' l' y (!b) g hl', Option.bind_some, up_mid pre g hn hp]
    simp only [steps]
    rw [mid_snoc pre suf g] at hp ⊢
    by_cases h1 : 0 ≤ mvOf l x b g
    · by_cases h2 : 0 ≤ mvOf l' y (!b) g
      · have e1 := (mvOf_in h1).1
        have e2 := (mvOf_in h2).1
        rw [if_pos h1, if_pos h2, if_pos h1, if_pos e1, if_pos h2, if_pos e2, if_pos (by omega), ih (pre ++ [g]) _ hp (by simp; omega), if_pos ⟨h1, h2⟩]
        simp
      · rw [if_pos h1, if_neg h2, ih (pre ++ [g]) _ hp (by omega), if_neg (fun h => h2 h.2)]
    · rw [if_neg h1, ih (pre ++ [g]) _ hp (by omega), if_neg (fun h => h1 h.1)]
/-- Where two machines go from two states. -/
def nxS (l l' : List Mv) (x y : Int) : List (List Int) := steps l l' x y true false (msgs l x true) ++ steps l l' x y false true (msgs l' y true)
theorem nextS_v (hl : l.length ≤ 12) (hp : l.Pairwise (fun o m => clash o m = false)) (hl' : l'.length ≤ 12) (hp' : l'.Pairwise (fun o m => clash o m = false)) (x y : Int) :
    impl_NextPairs.fv s e l s' e' l' x y = some (nxS l l' x y) := by
  have m1 := msgs_len l x true
  have m2 := msgs_len l' y true
  have st1 := steps_len l l' x y true false (msgs l x true)
  have r1 : rdOf false [true, false] 0 = true := rfl
  have r2 : rdOf false [true, false] 1 = false := rfl
  have w1 : wrap64 ((0 : Int) + 1) = 1 := w64 (by omega) (by omega)
  have w2 : wrap64 ((1 : Int) + 1) = 2 := w64 (by omega) (by omega)
  have a1 := nextS_l1 s e l s' e' l' (by omega) (by omega) x y true [true, false] 2 0 (msgs l x true) [] [] (by simp; omega) (by simp; omega)
  have a2 := nextS_l1 s e l s' e' l' (by omega) (by omega) x y false [true, false] 2 1 (msgs l' y true) [] (steps l l' x y true false (msgs l x true)) (by simp; omega) (by omega)
  simp only [List.nil_append, List.length_nil, Int.natCast_zero, Bool.not_true, Bool.not_false] at a1 a2
  rw [w1] at a1
  rw [w2] at a2
  rw [impl_NextPairs.fv_eq, Option.bind_some, show (([true, false] : List Bool).length : Int) = 2 from rfl]
  rw [impl_NextPairs.l0v_eq, if_pos (by decide), if_pos (by decide), if_pos (by decide), implMsgs_v s e l x true hl hp, Option.bind_some, r1, if_pos rfl, impl_NextPairs.j1v_eq, a1]
  rw [impl_NextPairs.l0v_eq, if_pos (by decide), if_pos (by decide), if_pos (by decide), implMsgs_v s e l x true hl hp, Option.bind_some, r2, if_neg (by decide), implMsgs_v s' e' l' y true hl' hp', Option.bind_some, impl_NextPairs.j1v_eq, a2]
  rw [impl_NextPairs.l0v_eq, if_neg (by decide)]
  rfl
theorem nxS_fine (h : isM s e l = true) (h' : isM s' e' l' = true) : fine (nxS l l') := by
  intro x y p hp
  obtain ⟨a1, _, _, _, _, a2⟩ := isM_all h
  obtain ⟨b1, _, _, _, _, b2⟩ := isM_all h'
  rcases List.mem_append.1 hp with hp | hp
  · exact steps_pt a1 a2 b1 b2 p hp
  · exact steps_pt a1 a2 b1 b2 p hp
theorem reachS_l1 (i : Int) (suf : List (List Int)) : ∀ (pre o : List (List Int)), (pre ++ suf).length ≤ 1000000000000 → okR o → (∀ p ∈ suf, isPt p) →
    impl_reached_with_impl_PairsOf_1.l1v o i (pre ++ suf) ((pre ++ suf).length : Int) (pre.length : Int) s e l s' e' l' = impl_reached_with_impl_PairsOf_1.l0v (adds o suf) (wrap64 (i + 1)) s e l s' e' l' := by
  induction suf with
  | nil =>
    intro pre o _ _ _
    rw [impl_reached_with_impl_PairsOf_1.l1v_eq, if_neg (nlt_end pre)]
    rfl
  | cons p suf ih =>
    intro pre o hl ho hs
    have hn : pre.length < (pre ++ p :: suf).length := by simp
    have h36 := okR_len ho
    have hp := hs p List.mem_cons_self
    rw [impl_reached_with_impl_PairsOf_1.l1v_eq, if_pos (lt_mid pre suf p), if_pos (by omega), if_pos (lt_mid pre suf p), rdL1_mid, implHasP_v o p (by omega) (okR_rows ho), Option.bind_some, up_mid pre p hn hl]
    rw [mid_snoc pre suf p] at hl ⊢
    show _ = impl_reached_with_impl_PairsOf_1.l0v (adds (addP o p) suf) (wrap64 (i + 1)) s e l s' e' l'
    unfold addP
    by_cases h : p ∈ o
    · rw [if_pos (by simp [h]), if_pos h, ih (pre ++ [p]) o hl ho fun q hq => hs q (List.mem_cons_of_mem _ hq)]
    · have h2 : okR (o ++ [p]) := by
        have h3 := addP_ok ho hp
        rw [addP, if_neg h] at h3
        exact h3
      rw [if_neg (by simp [h]), if_neg h, if_pos (by omega), ih (pre ++ [p]) (o ++ [p]) hl h2 fun q hq => hs q (List.mem_cons_of_mem _ hq)]
theorem reachS_l0 (h : isM s e l = true) (h' : isM s' e' l' = true) (k : Nat) : ∀ (i : Nat) (o : List (List Int)), okR o → 37 ≤ i + k → i ≤ 37 → impl_reached_with_impl_PairsOf_1.l0v o (i : Int) s e l s' e' l' = some (reachT (nxS l l') k i o) := by
  obtain ⟨_, a1, a2, _, _, _⟩ := isM_all h
  obtain ⟨_, b1, b2, _, _, _⟩ := isM_all h'
  have hf := nxS_fine s e l s' e' l' h h'
  induction k with
  | zero =>
    intro i o ho hi _
    have h36 := okR_len ho
    rw [impl_reached_with_impl_PairsOf_1.l0v_eq, if_neg (by omega)]
    rfl
  | succ k ih =>
    intro i o ho hi hi2
    have h36 := okR_len ho
    unfold reachT
    by_cases hlt : i < o.length
    · obtain ⟨x, y, hxy, _⟩ := ho.2 _ (List.getElem_mem hlt)
      have hl2 : (rd_L9 o (i : Int)).length = 2 := by rw [rdL_at o i hlt, hxy]; rfl
      have hns := hf (px (rd_L9 o i)) (py (rd_L9 o i))
      have hnl : (nxS l l' (px (rd_L9 o i)) (py (rd_L9 o i))).length ≤ 1000000000000 := by
        have c1 := steps_len l l' (px (rd_L9 o i)) (py (rd_L9 o i)) true false (msgs l (px (rd_L9 o i)) true)
        have c2 := steps_len l l' (px (rd_L9 o i)) (py (rd_L9 o i)) false true (msgs l' (py (rd_L9 o i)) true)
        have c3 := msgs_len l (px (rd_L9 o i)) true
        have c4 := msgs_len l' (py (rd_L9 o i)) true
        unfold nxS
        rw [List.length_append]
        omega
      have h1 := reachS_l1 s e l s' e' l' (i : Int) (nxS l l' (px (rd_L9 o i)) (py (rd_L9 o i))) [] o (by simpa using hnl) ho hns
      simp only [List.nil_append, List.length_nil, Int.natCast_zero] at h1
      have h2 := ih (i + 1) (adds o (nxS l l' (px (rd_L9 o i)) (py (rd_L9 o i)))) (adds_ok ho hns) (by omega) (by omega)
      rw [impl_reached_with_impl_PairsOf_1.l0v_eq, if_pos (by omega), if_pos (by omega), if_pos (by omega), if_pos (by omega), impl_PairsOf_1.fv_eq, nextS_v s e l s' e' l' a2 a1 b2 b1, Option.bind_some, Option.bind_some, if_pos hlt]
      refine (h1.trans ?_)
      rw [w64 (by omega) (by omega), show (i : Int) + 1 = ((i + 1 : Nat) : Int) by omega]
      exact h2
    · rw [impl_reached_with_impl_PairsOf_1.l0v_eq, if_neg (by omega), if_neg hlt]
/-- All pairs, or none where one is no machine. -/
def allS (s : Int) (e : List Bool) (l : List Mv) (s' : Int) (e' : List Bool) (l' : List Mv) : List (List Int) := if isM s e l = true ∧ isM s' e' l' = true then reach (nxS l l') else []
theorem pairsS_v (hl : l.length ≤ 1000000000000) (hl' : l'.length ≤ 1000000000000) : impl_PairsOf.fv s e l s' e' l' = some (allS s e l s' e' l') := by
  rw [impl_PairsOf.fv_eq, implIsM_v s e l hl, Option.bind_some, implIsM_v s' e' l' hl', Option.bind_some]
  unfold allS
  cases h : isM s e l with
  | false => simp
  | true =>
    cases h' : isM s' e' l' with
    | false => simp
    | true =>
      have h1 := reachS_l0 s e l s' e' l' h h' 37 0 [[0, 0]] first_ok (by omega) (by omega)
      rw [if_pos rfl, if_pos rfl, impl_reached_with_impl_PairsOf_1.fv_eq, if_pos ⟨rfl, rfl⟩]
      rw [show ((0 : Nat) : Int) = 0 from rfl] at h1
      rw [h1]
      rfl
theorem allS_ok : okR (allS s e l s' e' l') := by
  unfold allS
  split
  · rename_i h
    exact reach_ok (nxS_fine s e l s' e' l' h.1 h.2)
  · exact ⟨List.nodup_nil, by simp⟩
end
end Go.Proofs.Ytldcchjbaglppaa.Plain

/- When two machines are safe, told plainly. No program. No condition. -/
set_option linter.unusedSimpArgs false
set_option linter.unusedVariables false
namespace Go.Proofs.Ytldcchjbaglppaa.Plain
open Go.RowKit Go.Proofs.YtldcchjbaglppaaW.PrintWords Go.Proofs.Ytldcchjbaglppaa.Base Go.Proofs.Ytldcchjbaglppaa.Print

/-- What is wrong at a pair of states: nothing, a message that is not read, or both wait. -/
def trouble (e : List Bool) (l : List Mv) (e' : List Bool) (l' : List Mv) (x y : Int) : Int :=
  if (!(sub (msgs l x true) (msgs l' y false)) || !(sub (msgs l' y true) (msgs l x false))) = true then 1
  else if (decide ((nxS l l' x y).length = 0) && !(endsAt e x && endsAt e' y)) = true then 2 else 0
def fineAt (e : List Bool) (l : List Mv) (e' : List Bool) (l' : List Mv) (x y : Int) : Bool := decide (trouble e l e' l' x y = 0)
def safe (a b : Mach) : Bool := isMa a && (isMa b && (allS a.f0 a.f1 a.f2 b.f0 b.f1 b.f2).all fun p => fineAt a.f1 a.f2 b.f1 b.f2 (px p) (py p))
end Go.Proofs.Ytldcchjbaglppaa.Plain

/- TroubleAt, FirstTrouble and IsSafe, of the program. Condition: at most 10 to the 12 of each. -/
set_option linter.unusedSimpArgs false
set_option linter.unusedVariables false
namespace Go.Proofs.Ytldcchjbaglppaa.Plain
open Go.RowKit Go.Proofs.YtldcchjbaglppaaW.PrintWords Go.Proofs.Ytldcchjbaglppaa.Base Go.Proofs.Ytldcchjbaglppaa.Print

section
variable (s : Int) (e : List Bool) (l : List Mv) (s' : Int) (e' : List Bool) (l' : List Mv)
theorem implTr_v (h : isM s e l = true) (h' : isM s' e' l' = true) (x y : Int) : impl_TroubleAt.fv s e l s' e' l' x y = some (trouble e l e' l' x y) := by
  obtain ⟨_, a1, a2, a3, _, _⟩ := isM_all h
  obtain ⟨_, b1, b2, b3, _, _⟩ := isM_all h'
  have he : e.length ≤ 1000000000000 := by
    have := isM_all h
    omega
  have he' : e'.length ≤ 1000000000000 := by
    have := isM_all h'
    omega
  have m1 := msgs_len l x true
  have m2 := msgs_len l x false
  have m3 := msgs_len l' y true
  have m4 := msgs_len l' y false
  rw [impl_TroubleAt.fv_eq, implMsgs_v s e l x true a2 a1, Option.bind_some, implMsgs_v s' e' l' y false b2 b1, Option.bind_some, implWo_v (msgs l x true) (msgs l' y false) (by omega) (by omega), Option.bind_some, implMsgs_v s' e' l' y true b2 b1, Option.bind_some, implMsgs_v s e l x false a2 a1, Option.bind_some, implWo_v (msgs l' y true) (msgs l x false) (by omega) (by omega), Option.bind_some]
  simp only [impl_TroubleAt.j0v_eq, nextS_v s e l s' e' l' a2 a1 b2 b1, Option.bind_some, implEnd_f s e l x he, implEnd_f s' e' l' y he', trouble]
  have p1 := wo_pos (msgs l x true) (msgs l' y false)
  have p2 := wo_pos (msgs l' y true) (msgs l x false)
  rw [p2]
  generalize sub (msgs l x true) (msgs l' y false) = s1 at p1
  generalize sub (msgs l' y true) (msgs l x false) = s2
  cases s1 with
  | false =>
    rw [if_pos (of_decide_eq_true (by simpa using p1))]
    rfl
  | true =>
    rw [if_neg (of_decide_eq_false (by simpa using p1))]
    cases s2 with
    | false => rfl
    | true =>
      by_cases c1 : (nxS l l' x y).length = 0
      · rw [if_neg (by decide), if_pos (by omega)]
        simp only [c1, decide_true, Bool.true_and]
        cases endsAt e x <;> cases endsAt e' y <;> rfl
      · rw [if_neg (by decide), if_neg (by omega)]
        simp [c1]
theorem implTr_l0 (h : isM s e l = true) (h' : isM s' e' l' = true) (suf : List (List Int)) : ∀ (pre : List (List Int)), (pre ++ suf).length ≤ 1000000000000 → (∀ p ∈ suf, isPt p) →
    ∃ r, impl_FirstTrouble.l0v (pre ++ suf) ((pre ++ suf).length : Int) (pre.length : Int) s e l s' e' l' = some r ∧ ((r.length : Int) == 0) = suf.all fun p => fineAt e l e' l' (px p) (py p) := by
  induction suf with
  | nil =>
    intro pre _ _
    rw [impl_FirstTrouble.l0v_eq, if_neg (nlt_end pre)]
    exact ⟨[], rfl, rfl⟩
  | cons p suf ih =>
    intro pre hl hs
    have hn : pre.length < (pre ++ p :: suf).length := by simp
    have hp2 := pt_at hs List.mem_cons_self
    rw [impl_FirstTrouble.l0v_eq, if_pos (lt_mid pre suf p), if_pos (by omega), if_pos (lt_mid pre suf p), rdL1_mid, if_pos (by omega), if_pos (by omega), implTr_v s e l s' e' l' h h', Option.bind_some, up_mid pre p hn hl]
    rw [mid_snoc pre suf p] at hl ⊢
    obtain ⟨r, h1, h2⟩ := ih (pre ++ [p]) hl fun q hq => hs q (List.mem_cons_of_mem _ hq)
    rw [List.all_cons]
    by_cases c : trouble e l e' l' (px p) (py p) = 0
    · refine ⟨r, ?_, ?_⟩
      · rw [if_pos (by exact c)]
        exact h1
      · rw [h2]
        simp [fineAt, c]
    · refine ⟨p, ?_, ?_⟩
      · rw [if_neg (by exact c)]
      · simp [fineAt, c, hp2]
end
theorem implSafe_v (a b : Mach) (ha : okM a) (hb : okM b) : impl_IsSafe.fv a.f0 a.f1 a.f2 b.f0 b.f1 b.f2 = some (safe a b) := by
  rw [impl_IsSafe.fv_eq, implIsM_v a.f0 a.f1 a.f2 ha.2, Option.bind_some, implIsM_v b.f0 b.f1 b.f2 hb.2, Option.bind_some]
  unfold safe isMa
  cases h : isM a.f0 a.f1 a.f2 with
  | false => rfl
  | true =>
    cases h' : isM b.f0 b.f1 b.f2 with
    | false => rfl
    | true =>
      have ho := allS_ok a.f0 a.f1 a.f2 b.f0 b.f1 b.f2
      have h36 := okR_len ho
      obtain ⟨r, h1, h2⟩ := implTr_l0 a.f0 a.f1 a.f2 b.f0 b.f1 b.f2 h h' (allS a.f0 a.f1 a.f2 b.f0 b.f1 b.f2) [] (by simp; omega) ho.2
      simp only [List.nil_append, List.length_nil, Int.natCast_zero] at h1
      rw [if_pos rfl, if_pos rfl, impl_FirstTrouble.fv_eq, pairsS_v a.f0 a.f1 a.f2 b.f0 b.f1 b.f2 ha.2 hb.2, Option.bind_some, h1, Option.bind_some, h2]
      rfl
end Go.Proofs.Ytldcchjbaglppaa.Plain

/- EqualInts, of the reference, and slices.Equal. Condition: at most 10 to the 12 numbers. -/
set_option linter.unusedSimpArgs false
set_option linter.unusedVariables false
namespace Go.Proofs.Ytldcchjbaglppaa.Plain
open Go.RowKit Go.Proofs.YtldcchjbaglppaaW.PrintWords Go.Proofs.Ytldcchjbaglppaa.Base Go.Proofs.Ytldcchjbaglppaa.Print

theorem specEqualInts_l0 (sa : List Int) : ∀ (pre sb : List Int), sb.length = sa.length → (pre ++ sa).length ≤ 1000000000000 → spec_EqualInts.l0v (pre ++ sa) (pre ++ sb) (pre.length : Int) = some (decide (sa = sb)) := by
  induction sa with
  | nil =>
    intro pre sb hr _
    rw [spec_EqualInts.l0v_eq, if_neg (nlt_end pre)]
    simp at hr
    simp [hr]
  | cons x sa ih =>
    intro pre sb hr hl
    cases sb with
    | nil => simp at hr
    | cons y sb =>
      have hn : pre.length < (pre ++ x :: sa).length := by simp
      rw [spec_EqualInts.l0v_eq, if_pos (lt_mid pre sa x), if_pos (by omega), if_pos (lt_mid pre sb y), rd_mid, rd_mid, up_mid pre x hn hl]
      by_cases hxy : x = y
      · subst hxy
        rw [if_pos rfl]
        rw [mid_snoc pre sa x] at hl ⊢
        rw [mid_snoc pre sb x]
        rw [ih (pre ++ [x]) sb (by simpa using hr) hl]
        simp
      · rw [if_neg hxy]
        simp [hxy]
theorem specEqualInts_v (a b : List Int) (hl : a.length ≤ 1000000000000) : spec_EqualInts.fv a b = some (decide (a = b)) := by
  rw [spec_EqualInts.fv_eq]
  by_cases h : a.length = b.length
  · rw [if_pos (by omega)]
    have h1 := specEqualInts_l0 a [] b h.symm (by simpa using hl)
    simpa using h1
  · rw [if_neg (by omega)]
    have : a ≠ b := fun e => h (by rw [e])
    simp [this]
end Go.Proofs.Ytldcchjbaglppaa.Plain

/- Machines, of the reference: IsMachine, MoveOf, MovesFrom, ends and membership. Condition: at most 10 to the 12 of each. -/
set_option linter.unusedSimpArgs false
set_option linter.unusedVariables false
namespace Go.Proofs.Ytldcchjbaglppaa.Plain
open Go.RowKit Go.Proofs.YtldcchjbaglppaaW.PrintWords Go.Proofs.Ytldcchjbaglppaa.Base Go.Proofs.Ytldcchjbaglppaa.Print

theorem specMvOf_l0 (s : Int) (e : List Bool) (st : Int) (b : Bool) (g : Int) (suf : List Mv) : ∀ (pre : List Mv), (pre ++ suf).length ≤ 1000000000000 →
    spec_MoveOf.l0v st b g (pre.length : Int) s e (pre ++ suf) = some (mvAt st b g (pre.length : Int) suf) := by
  induction suf with
  | nil =>
    intro pre _
    rw [spec_MoveOf.l0v_eq, if_neg (nlt_end pre)]
    rfl
  | cons x suf ih =>
    intro pre hl
    have hn : pre.length < (pre ++ x :: suf).length := by simp
    rw [spec_MoveOf.l0v_eq, if_pos (lt_mid pre suf x), if_pos (by omega), rdMv_mid, up_mid pre x hn hl]
    simp only [mvAt, hit]
    rw [mid_snoc pre suf x] at hl ⊢
    rw [ih (pre ++ [x]) hl, show ((pre ++ [x]).length : Int) = (pre.length : Int) + 1 by simp]
    by_cases c0 : x.f0 = st
    · rw [if_pos c0]
      rcases Bool.eq_false_or_eq_true (x.f1 == b) with c1 | c1
      · rw [if_pos c1]
        by_cases c2 : x.f2 = g
        · rw [if_pos c2]
          simp [c0, c1, c2]
        · rw [if_neg c2]
          simp [c2]
      · rw [if_neg (by rw [c1]; decide)]
        simp [c1]
    · rw [if_neg c0]
      simp [c0]
theorem specMvOf_v (s : Int) (e : List Bool) (l : List Mv) (st : Int) (b : Bool) (g : Int) (hl : l.length ≤ 1000000000000) : spec_MoveOf.fv s e l st b g = some (mvOf l st b g) := by
  rw [spec_MoveOf.fv_eq]
  have h := specMvOf_l0 s e st b g l [] (by simpa using hl)
  simpa [mvOf] using h
theorem put_l0 (x : Int) (suf : List Int) : ∀ (pre : List Int), (pre ++ suf).length ≤ 1000000000000 → spec_l4Put.l0v (pre ++ suf) x (pre.length : Int) = some (pre ++ put suf x) := by
  induction suf with
  | nil =>
    intro pre hl
    simp only [List.append_nil] at hl ⊢
    have h1 : pre.take (pre.length : Int).toNat = pre := by simp
    have h2 : pre.drop (pre.length : Int).toNat = [] := by simp
    rw [spec_l4Put.l0v_eq, if_neg (by omega), Option.bind_some, if_pos (by omega), if_pos (by omega), h1, if_pos (by simp; omega), Option.bind_some, Option.bind_some, if_pos (by simp; omega), Option.bind_some, h2, if_pos (by simp; omega)]
    simp [put]
  | cons y suf ih =>
    intro pre hl
    have hn : pre.length < (pre ++ y :: suf).length := by simp
    have hl2 : pre.length + suf.length + 1 ≤ 1000000000000 := by
      rw [List.length_append, List.length_cons] at hl
      omega
    have h1 : (pre ++ y :: suf).take (pre.length : Int).toNat = pre := by simp
    have h2 : (pre ++ y :: suf).drop (pre.length : Int).toNat = y :: suf := by simp
    rw [spec_l4Put.l0v_eq, if_pos (lt_mid pre suf y), if_pos (by omega), rd_mid, up_mid pre y hn hl]
    simp only [put]
    by_cases c0 : y < x
    · rw [if_pos c0, if_pos c0]
      rw [mid_snoc pre suf y] at hl ⊢
      rw [ih (pre ++ [y]) hl]
      simp
    · rw [if_neg c0, if_neg c0]
      by_cases c1 : y = x
      · rw [if_pos c1, if_pos c1, Option.bind_some, if_pos (by simp; omega)]
        simp
      · rw [if_neg c1, if_neg c1, Option.bind_some, if_pos (by omega), h1, if_pos (by simp; omega), Option.bind_some, Option.bind_some, if_pos (by simp; omega), Option.bind_some, h2, if_pos (by simp; omega)]
        simp
theorem put_v (l : List Int) (x : Int) (hl : l.length ≤ 1000000000000) : spec_l4Put.fv l x = some (put l x) := by
  rw [spec_l4Put.fv_eq]
  have h := put_l0 x l [] (by simpa using hl)
  simpa using h
theorem specMsgs_l0 (s : Int) (e : List Bool) (st : Int) (b : Bool) (suf : List Mv) : ∀ (pre : List Mv), (pre ++ suf).length ≤ 1000000000000 →
    spec_MovesFrom.l0v st b (msgs pre st b) (pre.length : Int) s e (pre ++ suf) = some (msgs (pre ++ suf) st b) := by
  induction suf with
  | nil =>
    intro pre _
    rw [spec_MovesFrom.l0v_eq, if_neg (nlt_end pre), List.append_nil]
  | cons x suf ih =>
    intro pre hl
    have hn : pre.length < (pre ++ x :: suf).length := by simp
    have hm := msgs_len pre st b
    rw [spec_MovesFrom.l0v_eq, if_pos (lt_mid pre suf x), if_pos (by omega), rdMv_mid, put_v (msgs pre st b) x.f2 (by omega), Option.bind_some, up_mid pre x hn hl]
    rw [mid_snoc pre suf x] at hl ⊢
    have h1 := ih (pre ++ [x]) hl
    have hr2 : msgs (pre ++ [x]) st b = if x.f0 = st ∧ x.f1 = b then put (msgs pre st b) x.f2 else msgs pre st b := by
      unfold msgs raw
      rw [List.filter_append, List.map_append, List.foldl_append]
      by_cases c0 : x.f0 = st <;> by_cases c1 : x.f1 = b <;> simp [c0, c1]
    rw [hr2] at h1
    by_cases c0 : x.f0 = st
    · rw [if_pos c0]
      by_cases c1 : x.f1 = b
      · rw [if_pos (by simp [c1])]
        rw [if_pos ⟨c0, c1⟩] at h1
        exact h1
      · rw [if_neg (by simp [c1])]
        rw [if_neg (fun h => c1 h.2)] at h1
        exact h1
    · rw [if_neg c0]
      rw [if_neg (fun h => c0 h.1)] at h1
      exact h1
theorem specMsgs_v (s : Int) (e : List Bool) (l : List Mv) (st : Int) (b : Bool) (hl : l.length ≤ 1000000000000) : spec_MovesFrom.fv s e l st b = some (msgs l st b) := by
  rw [spec_MovesFrom.fv_eq]
  have h := specMsgs_l0 s e st b l [] (by simpa using hl)
  simpa [msgs, raw] using h
/-- What the reference asks of the i-th move. -/
def spOk (s : Int) (l : List Mv) (i : Int) (m : Mv) : Bool := isMv s m && (decide (¬ mvOf l m.f0 m.f1 m.f2 < i) && decide ((msgs l m.f0 (!m.f1)).length = 0))
def spAll (s : Int) (l : List Mv) : Int → List Mv → Bool
  | _, [] => true
  | i, m :: r => spOk s l i m && spAll s l (i + 1) r
theorem specIsM_l0 (s : Int) (h0 : 1 ≤ s) (h1 : s ≤ 6) (e : List Bool) (l : List Mv) (hl : l.length ≤ 1000000000000) (suf : List Mv) : ∀ (pre : List Mv), l = pre ++ suf →
    spec_IsMachine.l0v (pre.length : Int) s e l = some (spAll s l (pre.length : Int) suf) := by
  induction suf with
  | nil =>
    intro pre hp
    rw [spec_IsMachine.l0v_eq, if_neg (by rw [hp]; exact nlt_end pre)]
    rfl
  | cons x suf ih =>
    intro pre hp
    have hn : pre.length < l.length := by rw [hp]; simp
    have hx : rd_T78 l (pre.length : Int) = x := by rw [hp]; exact rdMv_mid pre suf x
    have hw : wrap64 (s - 1) = s - 1 := w64 (by omega) (by omega)
    have h2 := ih (pre ++ [x]) (by rw [hp]; simp)
    have e1 : ((pre ++ [x]).length : Int) = (pre.length : Int) + 1 := by simp
    rw [spec_IsMachine.l0v_eq, if_pos (by omega), if_pos (by omega), hx, hw, l1In_f, Option.bind_some, l1In_f, Option.bind_some, l1In_f, Option.bind_some, specMvOf_v s e l x.f0 x.f1 x.f2 hl, Option.bind_some, specMsgs_v s e l x.f0 (!x.f1) hl, Option.bind_some, up_mid pre x hn hl, h2, e1]
    simp only [spAll, spOk, isMv]
    cases inR 0 (s - 1) x.f0 with
    | false => rfl
    | true =>
      cases inR 0 (s - 1) x.f3 with
      | false => rfl
      | true =>
        cases inR 0 5 x.f2 with
        | false => rfl
        | true =>
          rw [if_pos rfl, if_pos rfl, if_pos rfl]
          by_cases c0 : mvOf l x.f0 x.f1 x.f2 < (pre.length : Int)
          · rw [if_pos c0]
            simp [c0]
          · rw [if_neg c0]
            by_cases c1 : (msgs l x.f0 (!x.f1)).length = 0
            · rw [if_neg (by omega)]
              simp [c0, c1]
            · rw [if_pos (by omega)]
              simp [c1]
theorem clash_iff {o m : Mv} : clash o m = true ↔ o.f0 = m.f0 ∧ (o.f1 ≠ m.f1 ∨ o.f2 = m.f2) := by
  simp [clash]
theorem spAll_iff {s : Int} {l : List Mv} (r : List Mv) : ∀ {i : Int}, spAll s l i r = true ↔ ∀ pre m suf, r = pre ++ m :: suf → spOk s l (i + (pre.length : Int)) m = true := by
  induction r with
  | nil => simp [spAll]
  | cons x r ih =>
    intro i
    simp only [spAll, Bool.and_eq_true, ih]
    constructor
    · rintro ⟨h1, h2⟩ pre m suf hp
      cases pre with
      | nil =>
        injection hp with e1 e2
        subst e1
        simpa using h1
      | cons y pre =>
        injection hp with e1 e2
        have h3 := h2 pre m suf e2
        rw [List.length_cons]
        rw [show i + ((pre.length + 1 : Nat) : Int) = i + 1 + (pre.length : Int) by omega]
        exact h3
    · intro h
      refine ⟨?_, fun pre m suf hp => ?_⟩
      · have h3 := h [] x r rfl
        simpa using h3
      · have h3 := h (x :: pre) m suf (by rw [hp]; rfl)
        rw [List.length_cons] at h3
        rw [show i + 1 + (pre.length : Int) = i + ((pre.length + 1 : Nat) : Int) by omega]
        exact h3
theorem pw_of {α : Type} {R : α → α → Prop} {l : List α} (h : ∀ pre m suf, l = pre ++ m :: suf → ∀ o ∈ pre, R o m) : l.Pairwise R := by
  induction l with
  | nil => exact List.Pairwise.nil
  | cons x l ih =>
    rw [List.pairwise_cons]
    refine ⟨fun m hm => ?_, ih fun pre m suf hp o ho => h (x :: pre) m suf (by rw [hp]; rfl) o (List.mem_cons_of_mem _ ho)⟩
    obtain ⟨p, q, rfl⟩ := List.append_of_mem hm
    exact h (x :: p) m q rfl x List.mem_cons_self
theorem of_pw {α : Type} {R : α → α → Prop} {pre suf : List α} {m : α} (h : (pre ++ m :: suf).Pairwise R) : (∀ o ∈ pre, R o m) ∧ ∀ o ∈ suf, R m o := by
  rw [List.pairwise_append] at h
  exact ⟨fun o ho => h.2.2 o ho m List.mem_cons_self, (List.pairwise_cons.1 h.2.1).1⟩
theorem in_pre {α : Type} {pre suf p q : List α} {m x : α} (h : pre ++ m :: suf = p ++ x :: q) (hl : p.length < pre.length) : x ∈ pre := by
  have h1 : (pre ++ m :: suf)[p.length]? = some x := by rw [h]; simp
  rw [List.getElem?_append_left hl] at h1
  exact List.mem_of_getElem? h1
theorem of_pre {α : Type} {pre suf p q : List α} {m x o : α} (h : pre ++ m :: suf = p ++ x :: q) (hl : pre.length ≤ p.length) (ho : o ∈ pre) : o ∈ p := by
  have h1 : pre = p.take pre.length := by
    have h2 : (pre ++ m :: suf).take pre.length = pre := by simp
    rw [h, List.take_append_of_le_length hl] at h2
    exact h2.symm
  rw [h1] at ho
  exact List.mem_of_mem_take ho
theorem sp_is (s : Int) (l : List Mv) : spAll s l 0 l = isMs s [] l := by
  rw [Bool.eq_iff_iff, spAll_iff, isMs_iff]
  constructor
  · intro h
    refine ⟨fun m hm => ?_, by simp, pw_of fun pre m suf hp o ho => ?_⟩
    · obtain ⟨pre, suf, rfl⟩ := List.append_of_mem hm
      have h1 := h pre m suf rfl
      rw [spOk, Bool.and_eq_true] at h1
      exact h1.1
    · have h1 := h pre m suf hp
      rw [spOk, Bool.and_eq_true, Bool.and_eq_true, decide_eq_true_eq, decide_eq_true_eq] at h1
      obtain ⟨_, h2, h3⟩ := h1
      have hol : o ∈ l := by rw [hp]; simp [ho]
      cases hc : clash o m with
      | false => rfl
      | true =>
        obtain ⟨c0, c1⟩ := clash_iff.1 hc
        by_cases c2 : o.f1 = m.f1
        · have c3 : o.f2 = m.f2 := c1.resolve_left fun h => h c2
          have hh : hit m.f0 m.f1 m.f2 o = true := hit_iff.2 ⟨c0, c2, c3⟩
          rcases mvOf_cases l m.f0 m.f1 m.f2 with ⟨_, d2⟩ | ⟨p, x, q, d1, _, d3, d4⟩
          · rw [d2 o hol] at hh
            cases hh
          · rw [d4] at h2
            have ho2 : o ∈ p := of_pre (hp.symm.trans d1) (by omega) ho
            rw [d3 o ho2] at hh
            cases hh
        · have hg : o.f2 ∈ msgs l m.f0 (!m.f1) := msgs_mem.2 ⟨o, hol, c0, by
            cases h5 : o.f1 <;> cases h6 : m.f1 <;> simp [h5, h6] at c2 ⊢, rfl⟩
          have := List.length_pos_of_mem hg
          omega
  · rintro ⟨h1, _, h2⟩ pre m suf hp
    have hm : m ∈ l := by rw [hp]; simp
    have hP : (pre ++ m :: suf).Pairwise (fun o m => clash o m = false) := hp ▸ h2
    have hO := of_pw hP
    rw [spOk, Bool.and_eq_true, Bool.and_eq_true, decide_eq_true_eq, decide_eq_true_eq]
    refine ⟨h1 m hm, ?_, ?_⟩
    · rcases mvOf_cases l m.f0 m.f1 m.f2 with ⟨_, d2⟩ | ⟨p, x, q, d1, d2, d3, d4⟩
      · have hh : hit m.f0 m.f1 m.f2 m = true := hit_iff.2 ⟨rfl, rfl, rfl⟩
        rw [d2 m hm] at hh
        cases hh
      · rw [d4]
        intro hlt
        have hx := in_pre (hp.symm.trans d1) (by omega)
        have h5 := hit_iff.1 d2
        have h6 := hO.1 x hx
        rw [clash_iff.2 ⟨h5.1, .inr h5.2.2⟩] at h6
        cases h6
    · rcases Nat.eq_zero_or_pos (msgs l m.f0 (!m.f1)).length with h5 | h5
      · exact h5
      · obtain ⟨g, hg⟩ := List.exists_mem_of_length_pos h5
        obtain ⟨o, ho, e0, e1, _⟩ := msgs_mem.1 hg
        have hne : o.f1 ≠ m.f1 := by
          rw [e1]
          cases m.f1 <;> decide
        rw [hp] at ho
        rcases List.mem_append.1 ho with ho | ho
        · have h6 := hO.1 o ho
          rw [clash_iff.2 ⟨e0, .inl hne⟩] at h6
          cases h6
        · rcases List.mem_cons.1 ho with rfl | ho
          · exact absurd rfl hne
          · have h6 := hO.2 o ho
            rw [clash_iff.2 ⟨e0.symm, .inl (Ne.symm hne)⟩] at h6
            cases h6
theorem specIsM_v (s : Int) (e : List Bool) (l : List Mv) (hl : l.length ≤ 1000000000000) : spec_IsMachine.fv s e l = some (isM s e l) := by
  rw [spec_IsMachine.fv_eq, l1In_f, Option.bind_some]
  unfold isM
  cases h : inR 1 6 s with
  | false =>
    rw [if_neg (by simp), spec_IsMachine.j0v_eq]
    rfl
  | true =>
    obtain ⟨h0, h1⟩ := inR_true.1 h
    rw [if_pos rfl]
    by_cases h2 : (e.length : Int) = s
    · rw [if_pos h2, spec_IsMachine.j0v_eq]
      by_cases h3 : l.length ≤ 12
      · have h4 := specIsM_l0 s h0 h1 e l hl l [] rfl
        simp only [List.length_nil, Int.natCast_zero, sp_is] at h4
        rw [if_neg (by rw [decide_eq_true_eq]; omega), h4]
        simp [h2, h3]
      · rw [if_pos (by rw [decide_eq_true_eq]; omega)]
        simp [h3]
    · rw [if_neg h2, spec_IsMachine.j0v_eq]
      simp [h2]
theorem specEnd_f (s : Int) (e : List Bool) (l : List Mv) (x : Int) (he : e.length ≤ 1000000000000) : spec_l14End.f s e l x = some (endsAt e x) := by
  unfold spec_l14End.f endsAt
  rw [w64 (by omega) (by omega), l1In_f, Option.bind_some]
  cases h : inR 0 ((e.length : Int) - 1) x with
  | false => rfl
  | true =>
    obtain ⟨h0, h1⟩ := inR_true.1 h
    rw [if_pos rfl, if_pos h0, if_pos (by omega)]
    rfl
theorem specHasP_l0 (p : List Int) (suf : List (List Int)) : ∀ (pre : List (List Int)), (pre ++ suf).length ≤ 1000000000000 → (∀ x ∈ suf, x.length ≤ 1000000000000) →
    spec_l14Has.l0v (pre ++ suf) p (pre.length : Int) = some (decide (p ∈ suf)) := by
  induction suf with
  | nil =>
    intro pre _ _
    rw [spec_l14Has.l0v_eq, if_neg (nlt_end pre)]
    simp
  | cons x suf ih =>
    intro pre hl hx
    have hn : pre.length < (pre ++ x :: suf).length := by simp
    rw [spec_l14Has.l0v_eq, if_pos (lt_mid pre suf x), if_pos (by omega), rdL1_mid, specEqualInts_v x p (hx x List.mem_cons_self), Option.bind_some, up_mid pre x hn hl]
    rw [mid_snoc pre suf x] at hl ⊢
    rw [ih (pre ++ [x]) hl fun y hy => hx y (List.mem_cons_of_mem _ hy)]
    by_cases h : x = p
    · rw [if_pos (by simp [h])]
      simp [h]
    · rw [if_neg (by simp [h])]
      simp [show ¬ p = x from fun e => h e.symm]
theorem specHasP_v (l : List (List Int)) (p : List Int) (hl : l.length ≤ 1000000000000) (hx : ∀ x ∈ l, x.length ≤ 1000000000000) : spec_l14Has.fv l p = some (decide (p ∈ l)) := by
  rw [spec_l14Has.fv_eq]
  have h := specHasP_l0 p l [] (by simpa using hl) hx
  simpa using h
end Go.Proofs.Ytldcchjbaglppaa.Plain

/- NextPairs, PairsOf, TroubleAt, FirstTrouble and IsSafe, of the reference. Condition: at most 10 to the 12 of each. -/
set_option linter.unusedSimpArgs false
set_option linter.unusedVariables false
namespace Go.Proofs.Ytldcchjbaglppaa.Plain
open Go.RowKit Go.Proofs.YtldcchjbaglppaaW.PrintWords Go.Proofs.Ytldcchjbaglppaa.Base Go.Proofs.Ytldcchjbaglppaa.Print

section
variable (s : Int) (e : List Bool) (l : List Mv) (s' : Int) (e' : List Bool) (l' : List Mv)
theorem specNextS_l1 (hl : l.length ≤ 1000000000000) (hl' : l'.length ≤ 1000000000000) (x y : Int) (suf : List Int) : ∀ (pre : List Int) (out : List (List Int)), (pre ++ suf).length ≤ 1000000000000 → out.length + suf.length ≤ 1000000000000 → (∀ g ∈ suf, 0 ≤ mvOf l' y true g) →
    spec_NextPairs.l1v x y out (pre ++ suf) (pre.length : Int) s e l s' e' l' = some (out ++ steps l l' x y false true suf) := by
  induction suf with
  | nil =>
    intro pre out _ _ _
    rw [spec_NextPairs.l1v_eq, if_neg (nlt_end pre)]
    simp [steps]
  | cons g suf ih =>
    intro pre out hp ho hg
    have hn : pre.length < (pre ++ g :: suf).length := by simp
    have h2 := hg g List.mem_cons_self
    have hg' : ∀ z ∈ suf, 0 ≤ mvOf l' y true z := fun z hz => hg z (List.mem_cons_of_mem _ hz)
    rw [List.length_cons] at ho
    rw [spec_NextPairs.l1v_eq, if_pos (lt_mid pre suf g), if_pos (by omega), rd_mid, specMvOf_v s e l x false g hl, Option.bind_some, specMvOf_v s' e' l' y true g hl', Option.bind_some, up_mid pre g hn hp]
    simp only [steps]
    rw [mid_snoc pre suf g] at hp ⊢
    by_cases h1 : 0 ≤ mvOf l x false g
    · have e1 := (mvOf_in h1).1
      have e2 := (mvOf_in h2).1
      rw [if_pos h1, if_pos h1, if_pos e1, if_pos h2, if_pos e2, if_pos (by omega), ih (pre ++ [g]) _ hp (by simp; omega) hg', if_pos (show 0 ≤ mvOf l x false g ∧ 0 ≤ mvOf l' y true g from ⟨h1, h2⟩)]
      simp
    · rw [if_neg h1, ih (pre ++ [g]) _ hp (by omega) hg', if_neg (fun h => h1 h.1)]
theorem specNextS_l0 (hl : l.length ≤ 1000000000000) (hl' : l'.length ≤ 500000000000) (x y : Int) (suf : List Int) : ∀ (pre : List Int) (out : List (List Int)), (pre ++ suf).length ≤ 1000000000000 → out.length + suf.length ≤ 500000000000 → (∀ g ∈ suf, 0 ≤ mvOf l x true g) →
    spec_NextPairs.l0v x y out (pre ++ suf) (pre.length : Int) s e l s' e' l' = some ((out ++ steps l l' x y true false suf) ++ steps l l' x y false true (msgs l' y true)) := by
  induction suf with
  | nil =>
    intro pre out _ ho _
    have m2 := msgs_len l' y true
    have h1 := specNextS_l1 s e l s' e' l' hl (by omega) x y (msgs l' y true) [] out (by simp; omega) (by simp only [List.length_nil] at ho; omega) (fun g hg => msgs_iff.1 hg)
    simp only [List.nil_append, List.length_nil, Int.natCast_zero] at h1
    rw [spec_NextPairs.l0v_eq, if_neg (nlt_end pre), specMsgs_v s' e' l' y true (by omega), Option.bind_some, h1]
    simp [steps]
  | cons g suf ih =>
    intro pre out hp ho hg
    have hn : pre.length < (pre ++ g :: suf).length := by simp
    have h1 := hg g List.mem_cons_self
    have hg' : ∀ z ∈ suf, 0 ≤ mvOf l x true z := fun z hz => hg z (List.mem_cons_of_mem _ hz)
    rw [List.length_cons] at ho
    rw [spec_NextPairs.l0v_eq, if_pos (lt_mid pre suf g), if_pos (by omega), rd_mid, specMvOf_v s' e' l' y false g (by omega), Option.bind_some, specMvOf_v s e l x true g hl, Option.bind_some, up_mid pre g hn hp]
    simp only [steps]
    rw [mid_snoc pre suf g] at hp ⊢
    by_cases h2 : 0 ≤ mvOf l' y false g
    · have e1 := (mvOf_in h1).1
      have e2 := (mvOf_in h2).1
      rw [if_pos h2, if_pos h1, if_pos e1, if_pos h2, if_pos e2, if_pos (by omega), ih (pre ++ [g]) _ hp (by simp; omega) hg', if_pos (show 0 ≤ mvOf l x true g ∧ 0 ≤ mvOf l' y false g from ⟨h1, h2⟩)]
      simp
    · rw [if_neg h2, ih (pre ++ [g]) _ hp (by omega) hg', if_neg (fun h => h2 h.2)]
theorem specNextS_v (hl : l.length ≤ 100000000000) (hl' : l'.length ≤ 100000000000) (x y : Int) : spec_NextPairs.fv s e l s' e' l' x y = some (nxS l l' x y) := by
  have m1 := msgs_len l x true
  have h1 := specNextS_l0 s e l s' e' l' (by omega) (by omega) x y (msgs l x true) [] [] (by simp; omega) (by simp; omega) (fun g hg => msgs_iff.1 hg)
  simp only [List.nil_append, List.length_nil, Int.natCast_zero] at h1
  rw [spec_NextPairs.fv_eq, specMsgs_v s e l x true (by omega), Option.bind_some, h1]
  rfl
theorem specReachS_l1 (i : Int) (suf : List (List Int)) : ∀ (pre o : List (List Int)), (pre ++ suf).length ≤ 1000000000000 → okR o → (∀ p ∈ suf, isPt p) →
    spec_PairsOf.l1v o i (pre ++ suf) (pre.length : Int) s e l s' e' l' = spec_PairsOf.l0v (adds o suf) (wrap64 (i + 1)) s e l s' e' l' := by
  induction suf with
  | nil =>
    intro pre o _ _ _
    rw [spec_PairsOf.l1v_eq, if_neg (nlt_end pre)]
    rfl
  | cons p suf ih =>
    intro pre o hl ho hs
    have hn : pre.length < (pre ++ p :: suf).length := by simp
    have h36 := okR_len ho
    have hp := hs p List.mem_cons_self
    rw [spec_PairsOf.l1v_eq, if_pos (lt_mid pre suf p), if_pos (by omega), rdL1_mid, specHasP_v o p (by omega) (okR_rows ho), Option.bind_some, up_mid pre p hn hl]
    rw [mid_snoc pre suf p] at hl ⊢
    show _ = spec_PairsOf.l0v (adds (addP o p) suf) (wrap64 (i + 1)) s e l s' e' l'
    unfold addP
    by_cases h : p ∈ o
    · rw [if_pos (by simp [h]), if_pos h, ih (pre ++ [p]) o hl ho fun q hq => hs q (List.mem_cons_of_mem _ hq)]
    · have h2 : okR (o ++ [p]) := by
        have h3 := addP_ok ho hp
        rw [addP, if_neg h] at h3
        exact h3
      rw [if_neg (by simp [h]), if_neg h, if_pos (by omega), ih (pre ++ [p]) (o ++ [p]) hl h2 fun q hq => hs q (List.mem_cons_of_mem _ hq)]
theorem specReachS_l0 (h : isM s e l = true) (h' : isM s' e' l' = true) (k : Nat) : ∀ (i : Nat) (o : List (List Int)), okR o → 37 ≤ i + k → i ≤ 37 → spec_PairsOf.l0v o (i : Int) s e l s' e' l' = some (reachT (nxS l l') k i o) := by
  obtain ⟨_, a1, a2, _, _, _⟩ := isM_all h
  obtain ⟨_, b1, b2, _, _, _⟩ := isM_all h'
  have hf := nxS_fine s e l s' e' l' h h'
  induction k with
  | zero =>
    intro i o ho hi _
    have h36 := okR_len ho
    rw [spec_PairsOf.l0v_eq, if_neg (by omega)]
    rfl
  | succ k ih =>
    intro i o ho hi hi2
    have h36 := okR_len ho
    unfold reachT
    by_cases hlt : i < o.length
    · obtain ⟨x, y, hxy, _⟩ := ho.2 _ (List.getElem_mem hlt)
      have hl2 : (rd_L9 o (i : Int)).length = 2 := by rw [rdL_at o i hlt, hxy]; rfl
      have hns := hf (px (rd_L9 o i)) (py (rd_L9 o i))
      have hnl : (nxS l l' (px (rd_L9 o i)) (py (rd_L9 o i))).length ≤ 1000000000000 := by
        have c1 := steps_len l l' (px (rd_L9 o i)) (py (rd_L9 o i)) true false (msgs l (px (rd_L9 o i)) true)
        have c2 := steps_len l l' (px (rd_L9 o i)) (py (rd_L9 o i)) false true (msgs l' (py (rd_L9 o i)) true)
        have c3 := msgs_len l (px (rd_L9 o i)) true
        have c4 := msgs_len l' (py (rd_L9 o i)) true
        unfold nxS
        rw [List.length_append]
        omega
      have h1 := specReachS_l1 s e l s' e' l' (i : Int) (nxS l l' (px (rd_L9 o i)) (py (rd_L9 o i))) [] o (by simpa using hnl) ho hns
      simp only [List.nil_append, List.length_nil, Int.natCast_zero] at h1
      have h2 := ih (i + 1) (adds o (nxS l l' (px (rd_L9 o i)) (py (rd_L9 o i)))) (adds_ok ho hns) (by omega) (by omega)
      rw [spec_PairsOf.l0v_eq, if_pos (by omega), if_pos (by omega), if_pos (by omega), if_pos (by omega), specNextS_v s e l s' e' l' (by omega) (by omega), Option.bind_some, if_pos hlt]
      refine (h1.trans ?_)
      rw [w64 (by omega) (by omega), show (i : Int) + 1 = ((i + 1 : Nat) : Int) by omega]
      exact h2
    · rw [spec_PairsOf.l0v_eq, if_neg (by omega), if_neg hlt]
theorem specPairsS_v (hl : l.length ≤ 1000000000000) (hl' : l'.length ≤ 1000000000000) : spec_PairsOf.fv s e l s' e' l' = some (allS s e l s' e' l') := by
  rw [spec_PairsOf.fv_eq, Option.bind_some, specIsM_v s e l hl, Option.bind_some, specIsM_v s' e' l' hl', Option.bind_some]
  simp only [spec_PairsOf.j0v_eq]
  unfold allS
  cases h : isM s e l with
  | false => simp
  | true =>
    cases h' : isM s' e' l' with
    | false => simp
    | true =>
      have h1 := specReachS_l0 s e l s' e' l' h h' 37 0 [[0, 0]] first_ok (by omega) (by omega)
      rw [show ((0 : Nat) : Int) = 0 from rfl] at h1
      rw [if_pos rfl, if_neg (by decide), if_pos (by decide), if_pos ⟨rfl, rfl⟩]
      exact h1
theorem specUn_l0 (hl' : l'.length ≤ 1000000000000) (y : Int) (suf : List Int) : ∀ (pre : List Int), (pre ++ suf).length ≤ 1000000000000 →
    spec_l14Unread.l0v y (pre ++ suf) (pre.length : Int) s' e' l' = some (!(sub suf (msgs l' y false))) := by
  induction suf with
  | nil =>
    intro pre _
    rw [spec_l14Unread.l0v_eq, if_neg (nlt_end pre)]
    rfl
  | cons g suf ih =>
    intro pre hl
    have hn : pre.length < (pre ++ g :: suf).length := by simp
    rw [spec_l14Unread.l0v_eq, if_pos (lt_mid pre suf g), if_pos (by omega), rd_mid, specMvOf_v s' e' l' y false g hl', Option.bind_some, up_mid pre g hn hl]
    rw [mid_snoc pre suf g] at hl ⊢
    rw [ih (pre ++ [g]) hl]
    simp only [sub, List.all_cons]
    by_cases h : 0 ≤ mvOf l' y false g
    · rw [if_neg (by omega), show mem (msgs l' y false) g = true from decide_eq_true (msgs_iff.2 h)]
      rfl
    · rw [if_pos (by omega), show mem (msgs l' y false) g = false from decide_eq_false (fun hg => h (msgs_iff.1 hg))]
      rfl
theorem specUn_v (hl : l.length ≤ 1000000000000) (hl' : l'.length ≤ 1000000000000) (x y : Int) : spec_l14Unread.fv s e l s' e' l' x y = some (!(sub (msgs l x true) (msgs l' y false))) := by
  have m1 := msgs_len l x true
  have h1 := specUn_l0 s' e' l' hl' y (msgs l x true) [] (by simp; omega)
  simp only [List.nil_append, List.length_nil, Int.natCast_zero] at h1
  rw [spec_l14Unread.fv_eq, specMsgs_v s e l x true hl, Option.bind_some, h1]
theorem specTr_v (h : isM s e l = true) (h' : isM s' e' l' = true) (x y : Int) : spec_TroubleAt.fv s e l s' e' l' x y = some (trouble e l e' l' x y) := by
  obtain ⟨_, a1, a2, a3, _, _⟩ := isM_all h
  obtain ⟨_, b1, b2, b3, _, _⟩ := isM_all h'
  have he : e.length ≤ 1000000000000 := by
    have := isM_all h
    omega
  have he' : e'.length ≤ 1000000000000 := by
    have := isM_all h'
    omega
  rw [spec_TroubleAt.fv_eq, specUn_v s e l s' e' l' (by omega) (by omega), Option.bind_some, specUn_v s' e' l' s e l (by omega) (by omega), Option.bind_some]
  simp only [spec_TroubleAt.j0v_eq, specNextS_v s e l s' e' l' (by omega : l.length ≤ 100000000000) (by omega : l'.length ≤ 100000000000), Option.bind_some, specEnd_f s e l x he, specEnd_f s' e' l' y he', trouble]
  generalize sub (msgs l x true) (msgs l' y false) = s1
  generalize sub (msgs l' y true) (msgs l x false) = s2
  cases s1 with
  | false => rfl
  | true =>
    cases s2 with
    | false => rfl
    | true =>
      rw [if_neg (by decide), if_neg (by decide)]
      by_cases c1 : (nxS l l' x y).length = 0
      · rw [if_pos (by omega)]
        simp only [c1, decide_true, Bool.true_and]
        cases endsAt e x <;> cases endsAt e' y <;> rfl
      · rw [if_neg (by omega)]
        simp [c1]
theorem specTr_l0 (h : isM s e l = true) (h' : isM s' e' l' = true) (suf : List (List Int)) : ∀ (pre : List (List Int)), (pre ++ suf).length ≤ 1000000000000 → (∀ p ∈ suf, isPt p) →
    ∃ r, spec_FirstTrouble.l0v (pre ++ suf) (pre.length : Int) s e l s' e' l' = some r ∧ ((r.length : Int) == 0) = suf.all fun p => fineAt e l e' l' (px p) (py p) := by
  induction suf with
  | nil =>
    intro pre _ _
    rw [spec_FirstTrouble.l0v_eq, if_neg (nlt_end pre)]
    exact ⟨[], rfl, rfl⟩
  | cons p suf ih =>
    intro pre hl hs
    have hn : pre.length < (pre ++ p :: suf).length := by simp
    have hp2 := pt_at hs List.mem_cons_self
    rw [spec_FirstTrouble.l0v_eq, if_pos (lt_mid pre suf p), if_pos (by omega), rdL1_mid, if_pos (by omega), if_pos (by omega), specTr_v s e l s' e' l' h h', Option.bind_some, up_mid pre p hn hl]
    rw [mid_snoc pre suf p] at hl ⊢
    obtain ⟨r, h1, h2⟩ := ih (pre ++ [p]) hl fun q hq => hs q (List.mem_cons_of_mem _ hq)
    rw [List.all_cons]
    by_cases c : trouble e l e' l' (px p) (py p) = 0
    · refine ⟨r, ?_, ?_⟩
      · rw [if_pos (by exact c)]
        exact h1
      · rw [h2]
        simp [fineAt, c]
    · refine ⟨p, ?_, ?_⟩
      · rw [if_neg (by exact c), Option.bind_some, if_pos (by simp; omega)]
        simp
      · simp [fineAt, c, hp2]
end
theorem specSafe_v (a b : Mach) (ha : okM a) (hb : okM b) : spec_IsSafe.fv a.f0 a.f1 a.f2 b.f0 b.f1 b.f2 = some (safe a b) := by
  rw [spec_IsSafe.fv_eq, specIsM_v a.f0 a.f1 a.f2 ha.2, Option.bind_some, specIsM_v b.f0 b.f1 b.f2 hb.2, Option.bind_some]
  unfold safe isMa
  cases h : isM a.f0 a.f1 a.f2 with
  | false => rfl
  | true =>
    cases h' : isM b.f0 b.f1 b.f2 with
    | false => rfl
    | true =>
      have ho := allS_ok a.f0 a.f1 a.f2 b.f0 b.f1 b.f2
      have h36 := okR_len ho
      obtain ⟨r, h1, h2⟩ := specTr_l0 a.f0 a.f1 a.f2 b.f0 b.f1 b.f2 h h' (allS a.f0 a.f1 a.f2 b.f0 b.f1 b.f2) [] (by simp; omega) ho.2
      simp only [List.nil_append, List.length_nil, Int.natCast_zero] at h1
      rw [if_pos rfl, if_pos rfl, spec_FirstTrouble.fv_eq, specPairsS_v a.f0 a.f1 a.f2 b.f0 b.f1 b.f2 ha.2 hb.2, Option.bind_some, h1, Option.bind_some, h2]
      rfl
end Go.Proofs.Ytldcchjbaglppaa.Plain

/- WorksWith and LatestFor, of both sides. Condition: at most 10 to the 12 of each. -/

set_option linter.unusedSimpArgs false
set_option linter.unusedVariables false
namespace Go.Proofs.Ytldcchjbaglppaa.Plain
open Go.RowKit Go.Proofs.YtldcchjbaglppaaW.PrintWords Go.Proofs.Ytldcchjbaglppaa.Base Go.Proofs.Ytldcchjbaglppaa.Print

/-- Which machines of a line are safe with a peer. -/
def works (b : Mach) : Int → List Mach → List Int
  | _, [] => []
  | i, x :: l => if safe x b = true then i :: works b (i + 1) l else works b (i + 1) l
theorem works_len (b : Mach) (l : List Mach) : ∀ i : Int, (works b i l).length ≤ l.length := by
  induction l with
  | nil => exact fun _ => Nat.le_refl _
  | cons x l ih =>
    intro i
    have := ih (i + 1)
    simp only [works]
    split <;> simp only [List.length_cons] <;> omega
theorem implWorks_l0 (b : Mach) (hb : okM b) (suf : List Mach) : ∀ (pre : List Mach) (out : List Int), (pre ++ suf).length ≤ 1000000000000 → (∀ x ∈ suf, okM x) → out.length ≤ pre.length →
    impl_WorksWith.l0v out (pre ++ suf) ((pre ++ suf).length : Int) (pre.length : Int) b.f0 b.f1 b.f2 = some (out ++ works b (pre.length : Int) suf) := by
  induction suf with
  | nil =>
    intro pre out _ _ _
    rw [impl_WorksWith.l0v_eq, if_neg (nlt_end pre)]
    simp [works]
  | cons x suf ih =>
    intro pre out hl hs ho
    have hn : pre.length < (pre ++ x :: suf).length := by simp
    have hp : pre.length < 1000000000000 := by omega
    rw [impl_WorksWith.l0v_eq, if_pos (lt_mid pre suf x), if_pos (by omega), if_pos (lt_mid pre suf x), rdMach_mid, implSafe_v x b (hs x List.mem_cons_self) hb, Option.bind_some, up_mid pre x hn hl]
    simp only [works]
    have e1 : ((pre ++ [x]).length : Int) = (pre.length : Int) + 1 := by simp
    have hs' : ∀ y ∈ suf, okM y := fun y hy => hs y (List.mem_cons_of_mem _ hy)
    rw [mid_snoc pre suf x] at hl ⊢
    rw [← e1]
    cases safe x b with
    | true =>
      rw [if_pos rfl, if_pos rfl, if_pos (by omega), ih (pre ++ [x]) (out ++ [(pre.length : Int)]) hl hs' (by simp; omega)]
      simp
    | false => rw [if_neg (by simp), if_neg (by simp), ih (pre ++ [x]) out hl hs' (by simp; omega)]
theorem implWorks_v (l : List Mach) (b : Mach) (hl : l.length ≤ 1000000000000) (hs : ∀ x ∈ l, okM x) (hb : okM b) : impl_WorksWith.fv l b.f0 b.f1 b.f2 = some (works b 0 l) := by
  rw [impl_WorksWith.fv_eq]
  have h := implWorks_l0 b hb l [] [] (by simpa using hl) hs (by simp)
  simpa using h
theorem specWorks_l0 (b : Mach) (hb : okM b) (suf : List Mach) : ∀ (pre : List Mach) (out : List Int), (pre ++ suf).length ≤ 1000000000000 → (∀ x ∈ suf, okM x) → out.length ≤ pre.length →
    spec_WorksWith.l0v (pre ++ suf) out (pre.length : Int) b.f0 b.f1 b.f2 = some (out ++ works b (pre.length : Int) suf) := by
  induction suf with
  | nil =>
    intro pre out _ _ _
    rw [spec_WorksWith.l0v_eq, if_neg (nlt_end pre)]
    simp [works]
  | cons x suf ih =>
    intro pre out hl hs ho
    have hn : pre.length < (pre ++ x :: suf).length := by simp
    have hp : pre.length < 1000000000000 := by omega
    rw [spec_WorksWith.l0v_eq, if_pos (lt_mid pre suf x), if_pos (by omega), rdMach_mid, specSafe_v x b (hs x List.mem_cons_self) hb, Option.bind_some, up_mid pre x hn hl]
    simp only [works]
    have e1 : ((pre ++ [x]).length : Int) = (pre.length : Int) + 1 := by simp
    have hs' : ∀ y ∈ suf, okM y := fun y hy => hs y (List.mem_cons_of_mem _ hy)
    rw [mid_snoc pre suf x] at hl ⊢
    rw [← e1]
    cases safe x b with
    | true =>
      rw [if_pos rfl, if_pos rfl, if_pos (by omega), ih (pre ++ [x]) (out ++ [(pre.length : Int)]) hl hs' (by simp; omega)]
      simp
    | false => rw [if_neg (by simp), if_neg (by simp), ih (pre ++ [x]) out hl hs' (by simp; omega)]
theorem specWorks_v (l : List Mach) (b : Mach) (hl : l.length ≤ 1000000000000) (hs : ∀ x ∈ l, okM x) (hb : okM b) : spec_WorksWith.fv l b.f0 b.f1 b.f2 = some (works b 0 l) := by
  rw [spec_WorksWith.fv_eq]
  have h := specWorks_l0 b hb l [] [] (by simpa using hl) hs (by simp)
  simpa using h
/-- The last number of a list, or -1. -/
def lastOr (w : List Int) : Int := if w.length = 0 then -1 else rd w ((w.length : Int) - 1)
end Go.Proofs.Ytldcchjbaglppaa.Plain

/- The marks that a law writes into a result and looks for again. Condition: at most 10 to the 12 numbers, and the first mark is small. -/
set_option linter.unusedSimpArgs false
set_option linter.unusedVariables false
namespace Go.Proofs.Ytldcchjbaglppaa.Plain
open Go.RowKit Go.Proofs.YtldcchjbaglppaaW.PrintWords Go.Proofs.Ytldcchjbaglppaa.Base Go.Proofs.Ytldcchjbaglppaa.Print

/-- The marks of so many places. -/
def marks (a : Int) : Nat → List Int
  | 0 => []
  | n + 1 => a :: marks (a + 1) n
theorem marks_len (n : Nat) : ∀ a, (marks a n).length = n := by
  induction n with
  | zero =>
    intro a
    rfl
  | succ n ih =>
    intro a
    simp [marks, ih]
theorem markIntS_l0 (suf : List Int) : ∀ (pre : List Int) (a : Int), (pre ++ suf).length ≤ 1000000000000 → 0 ≤ a → a + suf.length ≤ 4000000000000000000 →
    laws_markIntS.l0v (pre ++ suf) a (pre.length : Int) = some (a + suf.length, pre ++ marks a suf.length) := by
  induction suf with
  | nil =>
    intro pre a _ _ _
    rw [laws_markIntS.l0v_eq, if_neg (nlt_end pre)]
    simp [marks]
  | cons x suf ih =>
    intro pre a hl h0 ha
    have hn : pre.length < (pre ++ x :: suf).length := by simp
    simp only [List.length_cons, Int.natCast_succ] at ha
    rw [laws_markIntS.l0v_eq, if_pos (lt_mid pre suf x), if_pos (by omega), set_mid, up_mid pre x hn hl, w64 (by omega) (by omega)]
    rw [mid_snoc pre suf x] at hl
    have h1 := ih (pre ++ [a]) (a + 1) (by simpa using hl) (by omega) (by omega)
    simp only [List.length_append, List.length_cons, List.length_nil] at h1 ⊢
    rw [h1]
    simp [marks]
    omega
theorem heldIntS_l0 (n : Nat) : ∀ (pre : List Int) (a : Int), pre.length + n ≤ 1000000000000 → 0 ≤ a → a + n ≤ 4000000000000000000 →
    laws_heldIntS.l0v (pre ++ marks a n) a (pre.length : Int) = some (a + n) := by
  induction n with
  | zero =>
    intro pre a _ _ _
    rw [marks, laws_heldIntS.l0v_eq, if_neg (nlt_end pre)]
    simp
  | succ n ih =>
    intro pre a hl h0 ha
    have hl' : (pre ++ a :: marks (a + 1) n).length ≤ 1000000000000 := by
      simp only [List.length_append, List.length_cons, marks_len]
      omega
    have hn : pre.length < (pre ++ a :: marks (a + 1) n).length := by simp
    rw [marks, laws_heldIntS.l0v_eq, if_pos (lt_mid pre (marks (a + 1) n) a), if_pos (by omega), rd_mid, if_pos rfl, up_mid pre a hn hl', w64 (by omega) (by omega), mid_snoc pre (marks (a + 1) n) a]
    have h1 := ih (pre ++ [a]) (a + 1) (by simp; omega) (by omega) (by omega)
    rw [h1]
    congr 1
    omega
theorem markIntS_v (l : List Int) (a : Int) (hl : l.length ≤ 1000000000000) (h0 : 0 ≤ a) (ha : a ≤ 3000000000000000000) : laws_markIntS.fv l a = some (a + l.length, marks a l.length) := by
  rw [laws_markIntS.fv_eq]
  exact markIntS_l0 l [] a (by simpa using hl) h0 (by omega)
theorem heldIntS_v (n : Nat) (a : Int) (hl : n ≤ 1000000000000) (h0 : 0 ≤ a) (ha : a ≤ 3000000000000000000) : laws_heldIntS.fv (marks a n) a = some (a + n) := by
  rw [laws_heldIntS.fv_eq]
  exact heldIntS_l0 n [] a (by simpa using hl) h0 (by omega)
end Go.Proofs.Ytldcchjbaglppaa.Plain

/- What the law's own helpers on slices of whole numbers come to: a copy, equality, marks. Condition: the slice has at most 2 to the 40 numbers. -/

set_option linter.unusedSimpArgs false
set_option linter.unusedVariables false
namespace Go.Proofs.Ytldcchjbaglppaa.Plain
open Go.RowKit Go.Proofs.YtldcchjbaglppaaW.PrintWords Go.Proofs.Ytldcchjbaglppaa.Base Go.Proofs.Ytldcchjbaglppaa.Print

theorem eqIntS_l0 (sa : List Int) : ∀ (pre sb : List Int), sb.length = sa.length → (pre ++ sa).length ≤ 1000000000000 → laws_eqIntS.l0v (pre ++ sa) (pre ++ sb) (pre.length : Int) = some (decide (sa = sb)) := by
  induction sa with
  | nil =>
    intro pre sb hr _
    rw [laws_eqIntS.l0v_eq, if_neg (nlt_end pre)]
    simp at hr
    simp [hr]
  | cons x sa ih =>
    intro pre sb hr hl
    cases sb with
    | nil => simp at hr
    | cons y sb =>
      have hn : pre.length < (pre ++ x :: sa).length := by simp
      rw [laws_eqIntS.l0v_eq, if_pos (lt_mid pre sa x), if_pos (by omega), if_pos (lt_mid pre sb y), rd_mid, rd_mid, up_mid pre x hn hl]
      by_cases hxy : x = y
      · subst hxy
        rw [if_pos rfl]
        rw [mid_snoc pre sa x] at hl ⊢
        rw [mid_snoc pre sb x]
        rw [ih (pre ++ [x]) sb (by simpa using hr) hl]
        simp
      · rw [if_neg hxy]
        simp [hxy]

theorem eqIntS_v (a b : List Int) (hl : a.length ≤ 1000000000000) : laws_eqIntS.fv a b = some (decide (a = b)) := by
  rw [laws_eqIntS.fv_eq]
  by_cases h : a.length = b.length
  · rw [if_pos (by omega)]
    have h1 := eqIntS_l0 a [] b h.symm (by simpa using hl)
    simpa using h1
  · rw [if_neg (by omega)]
    have : a ≠ b := fun e => h (by rw [e])
    simp [this]
end Go.Proofs.Ytldcchjbaglppaa.Plain

/- FnExactWorksWith: whatever the line of machines and the peer, the program's WorksWith and the reference's WorksWith return the same, leave the machines as they were, and the result shares no memory. No condition. -/
set_option linter.unusedSimpArgs false
set_option linter.unusedVariables false
namespace Go.Proofs.Ytldcchjbaglppaa.Pure
open Go.RowKit Go.Proofs.YtldcchjbaglppaaW.PrintWords Go.Proofs.Ytldcchjbaglppaa.Base Go.Proofs.Ytldcchjbaglppaa.Print Go.Proofs.Ytldcchjbaglppaa.Plain

theorem FnExactWorksWith : laws_FnExactWorksWith.Pure := by
  rintro l ⟨s, e, m⟩ ⟨hl, hQ⟩ ⟨_, ⟨he, _⟩, ⟨hm, _⟩⟩
  have he : e.length * 1 ≤ 140737488351232 := he
  have hm : m.length * 32 ≤ 140737488351232 := hm
  refine ends (g := fun k => laws_FnExactWorksWith.f k l s e m) ?_
  show laws_FnExactWorksWith.fv l s e m = some true
  rw [laws_FnExactWorksWith.fv_eq, szMaS_v l 1048576 (by omega) (by omega) (by omega) (fitMs hQ), Option.bind_some]
  by_cases h1 : less (l.length + tot szMa l) 1048576 < 0
  · rw [if_pos h1]
  · have b1 := less_in (Int.not_lt.mp h1)
    rw [if_neg h1, szMa_f s e m _ (by omega) (by omega) (by omega) (by omega), Option.bind_some]
    by_cases h2 : less (e.length + m.length) (less (l.length + tot szMa l) 1048576) < 0
    · rw [if_pos h2]
    · have b2 := less_in (Int.not_lt.mp h2)
      have o := okMs_less (by omega) (Int.not_lt.mp h1)
      obtain ⟨o1, o2⟩ := okMs_to o
      have p1 : e.length ≤ 1000000000000 := by omega
      have p2 : m.length ≤ 1000000000000 := by omega
      have p3 : (m.map toMv).length ≤ 1000000000000 := by rw [List.length_map]; exact p2
      have q1 := specWorks_v (l.map toMa) ⟨s, e, m.map toMv⟩ o1 o2 ⟨p1, p3⟩
      have q2 := implWorks_v (l.map toMa) ⟨s, e, m.map toMv⟩ o1 o2 ⟨p1, p3⟩
      have wl := works_len ⟨s, e, m.map toMv⟩ (l.map toMa) 0
      have ms := macs_le l
      simp only at q1 q2
      generalize works ⟨s, e, m.map toMv⟩ 0 (l.map toMa) = g at q1 q2 wl
      have hg : g.length ≤ 1000000000000 := by omega
      have k1 := markMs_v (l.map toMa) 1 o1 o2 (by omega) (by omega)
      obtain ⟨x, y, k2⟩ := markMa_v s e (m.map toMv) (1 + macs (l.map toMa)) p1 p3 (by omega) (by omega)
      have k3 := markIntS_v g 1 hg (by omega) (by omega)
      have k4 := heldIntS_v g.length 1 hg (by omega) (by omega)
      have ej : laws_FnExactWorksWith.j0v l g g false s e m = some true := by
        rw [laws_FnExactWorksWith.j0v_eq, if_neg (by simp), k3, Option.bind_some, k4, Option.bind_some, if_neg (by omega), if_pos rfl, toMaS_v l o, Option.bind_some, toMa_v s e m p1 p2, Option.bind_some, q2, Option.bind_some, eqIntS_v g g hg, Option.bind_some, if_pos (by simp), Option.bind_some, if_neg (by omega), if_pos rfl]
      rw [if_neg h2, toMaS_v l o, Option.bind_some, toMa_v s e m p1 p2, Option.bind_some, q1, Option.bind_some, Option.bind_some, Option.bind_some, q2, Option.bind_some, eqIntS_v g g hg, Option.bind_some, if_pos (by simp), Option.bind_some, eqMaS_v l o, Option.bind_some, if_pos rfl, Option.bind_some, eqMa_v s e (m.map toMv) p1 p3, Option.bind_some, if_pos rfl, k1, Option.bind_some, k2, Option.bind_some, if_neg (by omega), Option.bind_some]
      simpa using ej
end Go.Proofs.Ytldcchjbaglppaa.Pure
