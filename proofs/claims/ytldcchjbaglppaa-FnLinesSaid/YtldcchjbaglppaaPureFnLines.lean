/- FnLines: whatever the bytes that the law draws from, who works with one version of a line that follows works with all later ones. No condition. -/
import Derived.Test.YtldcchjbaglppaaLimsFnLines
import Derived.Test.YtldcchjbaglppaaPrint1
import Derived.Test.YtldcchjbaglppaaPrint0
import Derived.Test.YtldcchjbaglppaaPrint3
import Derived.Test.YtldcchjbaglppaaPrint2
import Derived.Test.YtldcchjbaglppaaPrint5
import Derived.Test.YtldcchjbaglppaaPrint10
import Derived.Laws.Bits64b
/- Lists read by a whole number's index, and whole numbers that fit. No condition. -/
set_option linter.unusedSimpArgs false
set_option linter.unusedVariables false
namespace Go.Proofs.Ytldcchjbaglppaa.Plain
open Go.RowKit Go.Proofs.YtldcchjbaglppaaW.PrintWords

theorem w64 {x : Int} (h0 : -9223372036854775808 ≤ x) (h1 : x ≤ 9223372036854775807) : wrap64 x = x := by
  unfold wrap64
  omega
theorem rd_mid (pre suf : List Int) (x : Int) : rd (pre ++ x :: suf) (pre.length : Int) = x := by simp [rd]
theorem lt_mid {α : Type} (pre suf : List α) (x : α) : (pre.length : Int) < ((pre ++ x :: suf).length : Int) := by
  simp
  omega
theorem nlt_end {α : Type} (pre : List α) : ¬ (pre.length : Int) < ((pre ++ []).length : Int) := by simp
theorem up_mid {α : Type} (pre : List α) (x : α) {n : Nat} (h : pre.length < n) (hn : n ≤ 1000000000000) : wrap64 ((pre.length : Int) + 1) = ((pre ++ [x]).length : Int) := by
  rw [w64 (by omega) (by omega)]
  simp
theorem set_mid {α : Type} (pre suf : List α) (x y : α) : (pre ++ x :: suf).set (pre.length : Int).toNat y = (pre ++ [y]) ++ suf := by
  rw [Int.toNat_natCast, List.set_append_right _ _ (Nat.le_refl _), Nat.sub_self]
  simp
theorem mid_snoc {α : Type} (pre suf : List α) (x : α) : pre ++ x :: suf = (pre ++ [x]) ++ suf := by simp
theorem beq_ints (a b : List Int) : (a == b) = decide (a = b) := by
  by_cases h : a = b <;> simp [h]
end Go.Proofs.Ytldcchjbaglppaa.Plain

/- Ranges, of the program and of the reference. No condition. -/
set_option linter.unusedSimpArgs false
set_option linter.unusedVariables false
namespace Go.Proofs.Ytldcchjbaglppaa.Plain
open Go.RowKit Go.Proofs.YtldcchjbaglppaaW.PrintWords Go.Proofs.Ytldcchjbaglppaa.Base Go.Proofs.Ytldcchjbaglppaa.Print

/-- lo ≤ n ≤ hi -/
def inR (lo hi n : Int) : Bool := decide (lo ≤ n) && decide (n ≤ hi)
theorem inR_true {lo hi n : Int} : inR lo hi n = true ↔ lo ≤ n ∧ n ≤ hi := by simp [inR]
theorem inR_false {lo hi n : Int} : inR lo hi n = false ↔ n < lo ∨ hi < n := by
  simp only [inR, Bool.and_eq_false_iff, decide_eq_false_iff_not]
  omega
theorem inRange_f (n lo hi : Int) : impl_InRange.f n lo hi = some (inR lo hi n) := by
  unfold impl_InRange.f inR
  by_cases h : lo ≤ n <;> simp [h]
end Go.Proofs.Ytldcchjbaglppaa.Plain

/- Lists of versions: ascending, from 1 to 9; membership; what two lists share. No program. No condition. -/
set_option linter.unusedSimpArgs false
set_option linter.unusedVariables false
namespace Go.Proofs.Ytldcchjbaglppaa.Plain
open Go.RowKit Go.Proofs.YtldcchjbaglppaaW.PrintWords Go.Proofs.Ytldcchjbaglppaa.Base Go.Proofs.Ytldcchjbaglppaa.Print

/-- Versions that grow, all above p. -/
def vers : Int → List Int → Bool
  | _, [] => true
  | p, x :: l => inR 1 9 x && (decide (p < x) && vers x l)
/-- A list of versions, and not empty. -/
def areV (l : List Int) : Bool := vers 0 l && decide (0 < l.length)
/-- Is x in the list? -/
def mem (l : List Int) (x : Int) : Bool := decide (x ∈ l)
/-- What two lists share. -/
def com (a b : List Int) : List Int := a.filter (mem b)
/-- The best version that two lists share. -/
def best (a b : List Int) : Int := if areV a && areV b then (com a b).getLastD 0 else 0
theorem mem_cons (x y : Int) (l : List Int) : mem (y :: l) x = (decide (y = x) || mem l x) := by
  by_cases h : y = x
  · simp [mem, h]
  · have h' : ¬ x = y := fun e => h e.symm
    simp [mem, h, h']
theorem mem_nil (x : Int) : mem [] x = false := by simp [mem]
theorem vers_le {p q : Int} {l : List Int} (h : vers p l = true) (hq : q ≤ p) : vers q l = true := by
  cases l with
  | nil => rfl
  | cons x l =>
    simp only [vers, Bool.and_eq_true, decide_eq_true_eq] at h ⊢
    exact ⟨h.1, by omega, h.2.2⟩
theorem vers_filter (f : Int → Bool) {l : List Int} : ∀ {p : Int}, vers p l = true → vers p (l.filter f) = true := by
  induction l with
  | nil =>
    intro p h
    rfl
  | cons x l ih =>
    intro p h
    simp only [vers, Bool.and_eq_true, decide_eq_true_eq] at h
    cases hf : f x with
    | true =>
      rw [List.filter_cons_of_pos hf]
      simp only [vers, Bool.and_eq_true, decide_eq_true_eq]
      exact ⟨h.1, h.2.1, ih h.2.2⟩
    | false =>
      rw [List.filter_cons_of_neg (by simp [hf])]
      exact vers_le (ih h.2.2) (by omega)
theorem vers_len {l : List Int} : ∀ {p : Int}, vers p l = true → p ≤ 9 → (l.length : Int) ≤ 9 - p := by
  induction l with
  | nil =>
    intro p _ hp
    simp
    omega
  | cons x l ih =>
    intro p h hp
    simp only [vers, Bool.and_eq_true, decide_eq_true_eq, inR_true] at h
    have := ih h.2.2 (by omega)
    simp only [List.length_cons]
    omega
theorem areV_len {l : List Int} (h : areV l = true) : l.length ≤ 9 := by
  simp only [areV, Bool.and_eq_true] at h
  have := vers_len h.1 (by omega)
  omega
theorem vers_mem {l : List Int} : ∀ {p : Int}, vers p l = true → ∀ x ∈ l, 1 ≤ x ∧ x ≤ 9 ∧ p < x := by
  induction l with
  | nil =>
    intro p _ x hx
    cases hx
  | cons y l ih =>
    intro p h x hx
    simp only [vers, Bool.and_eq_true, decide_eq_true_eq, inR_true] at h
    cases hx with
    | head => omega
    | tail _ hx =>
      have := ih h.2.2 x hx
      omega
theorem areV_mem {l : List Int} (h : areV l = true) : ∀ x ∈ l, 1 ≤ x ∧ x ≤ 9 := by
  simp only [areV, Bool.and_eq_true] at h
  intro x hx
  have := vers_mem h.1 x hx
  omega
theorem com_len (a b : List Int) : (com a b).length ≤ a.length := List.length_filter_le _ _
theorem lastD_cons (x : Int) (l : List Int) (d : Int) : (x :: l).getLastD d = l.getLastD x := by
  cases l <;> rfl
theorem rd_lastD (pre suf : List Int) (h : pre ≠ []) : rd (pre ++ suf) ((pre.length : Int) - 1) = pre.getLastD 0 := by
  have hl : 0 < pre.length := List.length_pos_iff.mpr h
  have e : ((pre.length : Int) - 1).toNat = pre.length - 1 := by omega
  have h1 : pre.length - 1 < pre.length := by omega
  simp [rd, e, List.getD_eq_getElem?_getD, List.getElem?_append_left h1, List.getLastD_eq_getLast?, List.getLast?_eq_getElem?]
theorem lastD_mem (l : List Int) (h : l ≠ []) (d : Int) : l.getLastD d ∈ l := by
  cases l with
  | nil => exact absurd rfl h
  | cons x l => exact List.getLast_mem _
end Go.Proofs.Ytldcchjbaglppaa.Plain

/- Machines, told plainly: their moves, what they send and receive. No program. No condition. -/
set_option linter.unusedSimpArgs false
set_option linter.unusedVariables false
namespace Go.Proofs.Ytldcchjbaglppaa.Plain
open Go.RowKit Go.Proofs.YtldcchjbaglppaaW.PrintWords Go.Proofs.Ytldcchjbaglppaa.Base Go.Proofs.Ytldcchjbaglppaa.Print

abbrev Mv := S78
theorem rdMv_mid (pre suf : List Mv) (x : Mv) : rd_T78 (pre ++ x :: suf) (pre.length : Int) = x := by simp [rd_T78]
/-- A move that fits a machine of s states. -/
def isMv (s : Int) (m : Mv) : Bool := inR 0 (s - 1) m.f0 && (inR 0 (s - 1) m.f3 && inR 0 5 m.f2)
/-- Two moves that can't stand in one machine. -/
def clash (o m : Mv) : Bool := decide (o.f0 = m.f0) && (o.f1 != m.f1 || decide (o.f2 = m.f2))
def isMs (s : Int) : List Mv → List Mv → Bool
  | _, [] => true
  | pre, m :: suf => isMv s m && (!(pre.any fun o => clash o m) && isMs s (pre ++ [m]) suf)
/-- Is it a machine? -/
def isM (s : Int) (e : List Bool) (l : List Mv) : Bool := inR 1 6 s && (decide ((e.length : Int) = s) && (decide (l.length ≤ 12) && isMs s [] l))
/-- Is it the move of state st that sends, or receives, g? -/
def hit (st : Int) (b : Bool) (g : Int) (m : Mv) : Bool := decide (m.f0 = st) && (m.f1 == b && decide (m.f2 = g))
def mvAt (st : Int) (b : Bool) (g : Int) : Int → List Mv → Int
  | _, [] => -1
  | i, m :: l => if hit st b g m = true then i else mvAt st b g (i + 1) l
/-- The first such move's index, or -1. -/
def mvOf (l : List Mv) (st : Int) (b : Bool) (g : Int) : Int := mvAt st b g 0 l
def put : List Int → Int → List Int
  | [], x => [x]
  | y :: l, x => if y < x then y :: put l x else if y = x then y :: l else x :: y :: l
def raw (l : List Mv) (st : Int) (b : Bool) : List Int := (l.filter fun m => decide (m.f0 = st) && m.f1 == b).map (·.f2)
/-- What state st sends, or receives, in order. -/
def msgs (l : List Mv) (st : Int) (b : Bool) : List Int := (raw l st b).foldl put []
/-- May a run end there? -/
def endsAt (e : List Bool) (x : Int) : Bool := inR 0 ((e.length : Int) - 1) x && rdOf false e x

theorem put_mem (l : List Int) (x y : Int) : y ∈ put l x ↔ y = x ∨ y ∈ l := by
  induction l with
  | nil => simp [put]
  | cons z l ih =>
    unfold put
    split
    · rw [List.mem_cons, ih, List.mem_cons]
      grind
    · split
      · rename_i h
        subst h
        simp
      · simp
theorem put_len (l : List Int) (x : Int) : (put l x).length ≤ l.length + 1 := by
  induction l with
  | nil => simp [put]
  | cons z l ih =>
    unfold put
    split
    · simp only [List.length_cons]
      omega
    · split <;> simp
theorem put_new {l : List Int} {x : Int} (h : x ∉ l) : (put l x).length = l.length + 1 := by
  induction l with
  | nil => rfl
  | cons z l ih =>
    have hz : z ≠ x := fun e => h (by simp [e])
    have hl : x ∉ l := fun e => h (by simp [e])
    unfold put
    split
    · simp [ih hl]
    · simp [hz]
theorem put_up {l : List Int} (x : Int) (h : l.Pairwise (· < ·)) : (put l x).Pairwise (· < ·) := by
  induction l with
  | nil => simp [put]
  | cons z l ih =>
    rw [List.pairwise_cons] at h
    unfold put
    split
    · rw [List.pairwise_cons]
      refine ⟨fun y hy => ?_, ih h.2⟩
      rcases (put_mem l x y).1 hy with rfl | hy
      · assumption
      · exact h.1 y hy
    · split
      · rw [List.pairwise_cons]
        exact h
      · rw [List.pairwise_cons]
        refine ⟨fun y hy => ?_, by rw [List.pairwise_cons]; exact h⟩
        rcases List.mem_cons.1 hy with rfl | hy
        · omega
        · have := h.1 y hy
          omega
theorem put_lt (l : List Int) {x y : Int} (h : x < y) : put (l ++ [y]) x = put l x ++ [y] := by
  induction l with
  | nil =>
    simp only [List.nil_append, put]
    rw [if_neg (by omega), if_neg (by omega)]
    rfl
  | cons z l ih =>
    simp only [List.cons_append, put]
    split
    · rw [ih]
      rfl
    · split <;> rfl
theorem put_gt {l : List Int} {x : Int} (h : ∀ y ∈ l, y < x) : put l x = l ++ [x] := by
  induction l with
  | nil => rfl
  | cons z l ih =>
    simp only [put]
    rw [if_pos (h z List.mem_cons_self), ih fun y hy => h y (List.mem_cons_of_mem _ hy)]
    rfl
theorem fold_mem (l : List Int) : ∀ (a : List Int) (y : Int), y ∈ l.foldl put a ↔ y ∈ a ∨ y ∈ l := by
  induction l with
  | nil => simp
  | cons x l ih =>
    intro a y
    rw [List.foldl_cons, ih, put_mem, List.mem_cons]
    grind
theorem fold_up (l : List Int) : ∀ (a : List Int), a.Pairwise (· < ·) → (l.foldl put a).Pairwise (· < ·) := by
  induction l with
  | nil => exact fun _ h => h
  | cons x l ih => exact fun a h => ih _ (put_up x h)
theorem fold_len (l : List Int) : ∀ (a : List Int), (l.foldl put a).length ≤ a.length + l.length := by
  induction l with
  | nil => simp
  | cons x l ih =>
    intro a
    have h1 := ih (put a x)
    have h2 := put_len a x
    rw [List.foldl_cons, List.length_cons]
    omega
theorem raw_len (l : List Mv) (st : Int) (b : Bool) : (raw l st b).length ≤ l.length := by
  unfold raw
  rw [List.length_map]
  exact List.length_filter_le _ _
theorem msgs_len (l : List Mv) (st : Int) (b : Bool) : (msgs l st b).length ≤ l.length := by
  have h1 := fold_len (raw l st b) []
  have h2 := raw_len l st b
  unfold msgs
  simp only [List.length_nil] at h1
  omega
theorem msgs_mem {l : List Mv} {st : Int} {b : Bool} {g : Int} : g ∈ msgs l st b ↔ ∃ m ∈ l, m.f0 = st ∧ m.f1 = b ∧ m.f2 = g := by
  unfold msgs raw
  rw [fold_mem]
  simp only [List.not_mem_nil, false_or, List.mem_map, List.mem_filter, Bool.and_eq_true, decide_eq_true_eq, beq_iff_eq]
  constructor
  · rintro ⟨m, ⟨h1, h2, h3⟩, h4⟩
    exact ⟨m, h1, h2, h3, h4⟩
  · rintro ⟨m, h1, h2, h3, h4⟩
    exact ⟨m, ⟨h1, h2, h3⟩, h4⟩
theorem hit_iff {st : Int} {b : Bool} {g : Int} {m : Mv} : hit st b g m = true ↔ m.f0 = st ∧ m.f1 = b ∧ m.f2 = g := by
  simp [hit]
theorem mvAt_cases (st : Int) (b : Bool) (g : Int) (l : List Mv) : ∀ i : Int, (mvAt st b g i l = -1 ∧ ∀ m ∈ l, hit st b g m = false) ∨ ∃ pre m suf, l = pre ++ m :: suf ∧ hit st b g m = true ∧ (∀ o ∈ pre, hit st b g o = false) ∧ mvAt st b g i l = i + (pre.length : Int) := by
  induction l with
  | nil => exact fun i => .inl ⟨rfl, by simp⟩
  | cons x l ih =>
    intro i
    simp only [mvAt]
    cases hx : hit st b g x with
    | true => exact .inr ⟨[], x, l, rfl, hx, by simp, by simp⟩
    | false =>
      rw [if_neg (by simp)]
      rcases ih (i + 1) with ⟨h1, h2⟩ | ⟨pre, m, suf, h1, h2, h3, h4⟩
      · exact .inl ⟨h1, fun m hm => (List.mem_cons.1 hm).elim (fun e => e ▸ hx) (h2 m)⟩
      · refine .inr ⟨x :: pre, m, suf, by rw [h1]; rfl, h2, fun o ho => (List.mem_cons.1 ho).elim (fun e => e ▸ hx) (h3 o), ?_⟩
        rw [h4, List.length_cons]
        omega
theorem mvOf_cases (l : List Mv) (st : Int) (b : Bool) (g : Int) : (mvOf l st b g = -1 ∧ ∀ m ∈ l, hit st b g m = false) ∨ ∃ pre m suf, l = pre ++ m :: suf ∧ hit st b g m = true ∧ (∀ o ∈ pre, hit st b g o = false) ∧ mvOf l st b g = (pre.length : Int) := by
  rcases mvAt_cases st b g l 0 with h | ⟨pre, m, suf, h1, h2, h3, h4⟩
  · exact .inl h
  · exact .inr ⟨pre, m, suf, h1, h2, h3, by unfold mvOf; omega⟩
/-- A message is sent (or received) just where there is a move for it. -/
theorem msgs_iff {l : List Mv} {st : Int} {b : Bool} {g : Int} : g ∈ msgs l st b ↔ 0 ≤ mvOf l st b g := by
  rw [msgs_mem]
  rcases mvOf_cases l st b g with ⟨h1, h2⟩ | ⟨pre, m, suf, h1, h2, h3, h4⟩
  · constructor
    · rintro ⟨m, hm, h⟩
      have := h2 m hm
      rw [hit_iff.2 h] at this
      cases this
    · intro h
      omega
  · exact ⟨fun _ => by omega, fun _ => ⟨m, by rw [h1]; simp, hit_iff.1 h2⟩⟩
/-- Such a move lies in the machine, and its index too. -/
theorem mvOf_in {l : List Mv} {st : Int} {b : Bool} {g : Int} (h : 0 ≤ mvOf l st b g) : mvOf l st b g < (l.length : Int) ∧ rd_T78 l (mvOf l st b g) ∈ l ∧ hit st b g (rd_T78 l (mvOf l st b g)) = true := by
  rcases mvOf_cases l st b g with ⟨h1, _⟩ | ⟨pre, m, suf, h1, h2, h3, h4⟩
  · omega
  · rw [h4, h1, rdMv_mid]
    exact ⟨lt_mid pre suf m, by simp, h2⟩
theorem isMs_iff {s : Int} {l : List Mv} : ∀ {pre : List Mv}, isMs s pre l = true ↔ (∀ m ∈ l, isMv s m = true) ∧ (∀ o ∈ pre, ∀ m ∈ l, clash o m = false) ∧ l.Pairwise (fun o m => clash o m = false) := by
  induction l with
  | nil => simp [isMs]
  | cons x l ih =>
    intro pre
    simp only [isMs, Bool.and_eq_true, ih, Bool.not_eq_true', List.any_eq_false, Bool.not_eq_true, List.pairwise_cons, List.mem_cons, List.mem_append, List.mem_singleton, forall_eq_or_imp]
    constructor
    · rintro ⟨h1, h2, h3, h4, h5⟩
      exact ⟨⟨h1, h3⟩, fun o ho => ⟨h2 o ho, fun m hm => h4 o (.inl ho) m hm⟩, fun m hm => h4 x (.inr (.inl rfl)) m hm, h5⟩
    · rintro ⟨⟨h1, h3⟩, h2, h4, h5⟩
      refine ⟨h1, fun o ho => (h2 o ho).1, h3, fun o ho m hm => ?_, h5⟩
      rcases ho with ho | rfl | ho
      · exact (h2 o ho).2 m hm
      · exact h4 m hm
      · cases ho
theorem isM_all {s : Int} {e : List Bool} {l : List Mv} (h : isM s e l = true) : (∀ m ∈ l, isMv s m = true) ∧ l.Pairwise (fun o m => clash o m = false) ∧ l.length ≤ 12 ∧ (e.length : Int) = s ∧ 1 ≤ s ∧ s ≤ 6 := by
  simp only [isM, Bool.and_eq_true, decide_eq_true_eq, inR_true, isMs_iff] at h
  obtain ⟨⟨a, b⟩, c, d, f, _, g⟩ := h
  exact ⟨f, g, d, c, a, b⟩
/-- In a machine a state sends (or receives) each message once. -/
theorem raw_nodup {l : List Mv} (h : l.Pairwise (fun o m => clash o m = false)) (st : Int) (b : Bool) : (raw l st b).Nodup := by
  unfold raw
  rw [List.Nodup, List.pairwise_map]
  have h1 := (List.Pairwise.filter (fun m => decide (m.f0 = st) && m.f1 == b) h)
  refine List.Pairwise.imp_of_mem (fun {o m} ho hm hc he => ?_) h1
  rw [List.mem_filter, Bool.and_eq_true, decide_eq_true_eq, beq_iff_eq] at ho hm
  simp [clash, ho.2.1, hm.2.1, ho.2.2, hm.2.2, he] at hc
end Go.Proofs.Ytldcchjbaglppaa.Plain

/- What is reached from a first pair, step by step. No program. Condition: the pairs are pairs of numbers from 0 to 5. -/
set_option linter.unusedSimpArgs false
set_option linter.unusedVariables false
namespace Go.Proofs.Ytldcchjbaglppaa.Plain
open Go.RowKit Go.Proofs.YtldcchjbaglppaaW.PrintWords Go.Proofs.Ytldcchjbaglppaa.Base Go.Proofs.Ytldcchjbaglppaa.Print

/-- A pair of states. -/
def isPt (p : List Int) : Prop := ∃ x y : Int, p = [x, y] ∧ (0 ≤ x ∧ x ≤ 5) ∧ (0 ≤ y ∧ y ≤ 5)
def grid : List (List Int) := (List.range 6).flatMap fun (i : Nat) => (List.range 6).map fun (j : Nat) => [(i : Int), (j : Int)]
theorem grid_mem {p : List Int} (h : isPt p) : p ∈ grid := by
  obtain ⟨x, y, rfl, ⟨h0, h1⟩, h2, h3⟩ := h
  unfold grid
  rw [List.mem_flatMap]
  refine ⟨x.toNat, List.mem_range.2 (by omega), ?_⟩
  rw [List.mem_map]
  refine ⟨y.toNat, List.mem_range.2 (by omega), ?_⟩
  rw [Int.toNat_of_nonneg h0, Int.toNat_of_nonneg h2]
theorem nodup_le {α : Type} [DecidableEq α] (l : List α) : ∀ (g : List α), l.Nodup → (∀ x ∈ l, x ∈ g) → l.length ≤ g.length := by
  induction l with
  | nil => simp
  | cons x l ih =>
    intro g hn hs
    have hx := hs x List.mem_cons_self
    have h1 := ih (g.erase x) (List.nodup_cons.1 hn).2 fun y hy => (List.mem_erase_of_ne (fun e => (List.nodup_cons.1 hn).1 (by rw [← e]; exact hy))).2 (hs y (List.mem_cons_of_mem _ hy))
    rw [List.length_erase_of_mem hx] at h1
    have h2 := List.length_pos_of_mem hx
    rw [List.length_cons]
    omega
/-- Pairs, each once. -/
def okR (o : List (List Int)) : Prop := o.Nodup ∧ ∀ p ∈ o, isPt p
theorem okR_len {o : List (List Int)} (h : okR o) : o.length ≤ 36 := Nat.le_trans (nodup_le o grid h.1 fun p hp => grid_mem (h.2 p hp)) (by decide)
/-- One more, if it is new. -/
def addP (o : List (List Int)) (p : List Int) : List (List Int) := if p ∈ o then o else o ++ [p]
theorem addP_ok {o : List (List Int)} {p : List Int} (h : okR o) (hp : isPt p) : okR (addP o p) := by
  unfold addP
  split
  · exact h
  · rename_i hn
    refine ⟨?_, fun q hq => ?_⟩
    · rw [List.nodup_append]
      refine ⟨h.1, by simp, ?_⟩
      intro a ha b hb
      rw [List.mem_singleton] at hb
      rintro rfl
      exact hn (hb ▸ ha)
    · rcases List.mem_append.1 hq with hq | hq
      · exact h.2 q hq
      · rw [List.mem_singleton.1 hq]
        exact hp
theorem addP_len (o : List (List Int)) (p : List Int) : o.length ≤ (addP o p).length := by
  unfold addP
  split <;> simp
def adds (o l : List (List Int)) : List (List Int) := l.foldl addP o
theorem adds_ok {l : List (List Int)} : ∀ {o : List (List Int)}, okR o → (∀ p ∈ l, isPt p) → okR (adds o l) := by
  induction l with
  | nil => exact fun h _ => h
  | cons p l ih => exact fun h hp => ih (addP_ok h (hp p List.mem_cons_self)) fun q hq => hp q (List.mem_cons_of_mem _ hq)
theorem addP_pre (o : List (List Int)) (p : List Int) : ∃ t, addP o p = o ++ t := by
  unfold addP
  split
  · exact ⟨[], by simp⟩
  · exact ⟨[p], rfl⟩
theorem adds_pre (l : List (List Int)) : ∀ (o : List (List Int)), ∃ t, adds o l = o ++ t := by
  induction l with
  | nil => exact fun o => ⟨[], by simp [adds]⟩
  | cons p l ih =>
    intro o
    obtain ⟨t, ht⟩ := addP_pre o p
    obtain ⟨u, hu⟩ := ih (addP o p)
    exact ⟨t ++ u, by show adds (addP o p) l = _; rw [hu, ht, List.append_assoc]⟩
theorem adds_mem (l : List (List Int)) : ∀ (o : List (List Int)) (q : List Int), q ∈ adds o l ↔ q ∈ o ∨ q ∈ l := by
  induction l with
  | nil => simp [adds]
  | cons p l ih =>
    intro o q
    show q ∈ adds (addP o p) l ↔ _
    rw [ih, List.mem_cons]
    unfold addP
    split
    · rename_i h
      constructor
      · rintro (h1 | h1)
        · exact .inl h1
        · exact .inr (.inr h1)
      · rintro (h1 | rfl | h1)
        · exact .inl h1
        · exact .inl h
        · exact .inr h1
    · rw [List.mem_append, List.mem_singleton]
      grind
def px (p : List Int) : Int := rd p 0
def py (p : List Int) : Int := rd p 1
/-- All that is reached, in the order in which it is found: so many steps from the pair at a place on. -/
def reachT (nx : Int → Int → List (List Int)) : Nat → Nat → List (List Int) → List (List Int)
  | 0, _, o => o
  | k + 1, i, o => if i < o.length then reachT nx k (i + 1) (adds o (nx (px (rd_L3 o i)) (py (rd_L3 o i)))) else o
/-- All that is reached from the first pair. -/
def reach (nx : Int → Int → List (List Int)) : List (List Int) := reachT nx 37 0 [[0, 0]]
/-- Its steps lead to pairs of states. -/
def fine (nx : Int → Int → List (List Int)) : Prop := ∀ x y, ∀ p ∈ nx x y, isPt p
theorem reachT_ok {nx : Int → Int → List (List Int)} (hf : fine nx) (k : Nat) : ∀ (i : Nat) (o : List (List Int)), okR o → okR (reachT nx k i o) := by
  induction k with
  | zero => exact fun _ _ h => h
  | succ k ih =>
    intro i o h
    unfold reachT
    split
    · exact ih _ _ (adds_ok h (hf _ _))
    · exact h
theorem first_ok : okR [[0, 0]] := ⟨by simp, fun p hp => ⟨0, 0, List.mem_singleton.1 hp, by omega, by omega⟩⟩
theorem reach_ok {nx : Int → Int → List (List Int)} (hf : fine nx) : okR (reach nx) := reachT_ok hf _ _ _ first_ok
theorem reachT_pre (nx : Int → Int → List (List Int)) (k : Nat) : ∀ (i : Nat) (o : List (List Int)), ∃ t, reachT nx k i o = o ++ t := by
  induction k with
  | zero => exact fun _ o => ⟨[], by simp [reachT]⟩
  | succ k ih =>
    intro i o
    unfold reachT
    split
    · obtain ⟨t, ht⟩ := adds_pre (nx (px (rd_L3 o i)) (py (rd_L3 o i))) o
      obtain ⟨u, hu⟩ := ih (i + 1) (adds o (nx (px (rd_L3 o i)) (py (rd_L3 o i))))
      exact ⟨t ++ u, by rw [hu, ht, List.append_assoc]⟩
    · exact ⟨[], by simp⟩
theorem rdL_at (o : List (List Int)) (i : Nat) (h : i < o.length) : rd_L3 o (i : Int) = o[i] := by simp [rd_L3, h]
/-- Whatever a reached pair leads to is reached. -/
theorem reachT_closed {nx : Int → Int → List (List Int)} (hf : fine nx) (k : Nat) : ∀ (i : Nat) (o : List (List Int)), okR o → 37 ≤ i + k → (∀ j (h : j < o.length), j < i → ∀ q ∈ nx (px o[j]) (py o[j]), q ∈ o) →
    ∀ p ∈ reachT nx k i o, ∀ q ∈ nx (px p) (py p), q ∈ reachT nx k i o := by
  induction k with
  | zero =>
    intro i o h hi hc p hp q hq
    have hp : p ∈ o := hp
    show q ∈ o
    have := okR_len h
    obtain ⟨j, hj, rfl⟩ := List.mem_iff_getElem.1 hp
    exact hc j hj (by omega) q hq
  | succ k ih =>
    intro i o h hi hc
    unfold reachT
    split
    · rename_i hlt
      refine ih (i + 1) _ (adds_ok h (hf _ _)) (by omega) fun j hj hji q hq => ?_
      obtain ⟨t, ht⟩ := adds_pre (nx (px (rd_L3 o i)) (py (rd_L3 o i))) o
      have hjo : j < o.length := by omega
      have e : (adds o (nx (px (rd_L3 o i)) (py (rd_L3 o i))))[j] = o[j] := by
        simp only [ht, List.getElem_append_left hjo]
      rw [e] at hq
      rw [adds_mem]
      by_cases hj2 : j < i
      · exact .inl (hc j hjo hj2 q hq)
      · obtain rfl : j = i := by omega
        rw [rdL_at o j hlt]
        exact .inr hq
    · rename_i hge
      intro p hp q hq
      obtain ⟨j, hj, rfl⟩ := List.mem_iff_getElem.1 hp
      exact hc j hj (by omega) q hq
theorem reach_closed {nx : Int → Int → List (List Int)} (hf : fine nx) {p q : List Int} (hp : p ∈ reach nx) (hq : q ∈ nx (px p) (py p)) : q ∈ reach nx :=
  reachT_closed hf 37 0 _ first_ok (by omega) (fun j _ hj => by omega) p hp q hq
theorem reach_first (nx : Int → Int → List (List Int)) : [0, 0] ∈ reach nx := by
  obtain ⟨t, ht⟩ := reachT_pre nx 37 0 [[0, 0]]
  unfold reach
  rw [ht]
  simp
/-- Whatever holds of the first pair, and of each step of what it holds of, holds of all that is reached. -/
theorem reachT_ind {nx : Int → Int → List (List Int)} {R : List Int → Prop} (hs : ∀ p, R p → ∀ q ∈ nx (px p) (py p), R q) (k : Nat) : ∀ (i : Nat) (o : List (List Int)), (∀ p ∈ o, R p) → ∀ p ∈ reachT nx k i o, R p := by
  induction k with
  | zero => exact fun _ _ h => h
  | succ k ih =>
    intro i o h
    unfold reachT
    split
    · rename_i hlt
      refine ih _ _ fun p hp => ?_
      rcases (adds_mem _ _ _).1 hp with hp | hp
      · exact h p hp
      · rw [rdL_at o i hlt] at hp
        exact hs _ (h _ (List.getElem_mem hlt)) p hp
    · exact h
theorem reach_ind {nx : Int → Int → List (List Int)} {R : List Int → Prop} (h0 : R [0, 0]) (hs : ∀ p, R p → ∀ q ∈ nx (px p) (py p), R q) {p : List Int} (hp : p ∈ reach nx) : R p :=
  reachT_ind hs 37 0 _ (fun q hq => (List.mem_singleton.1 hq) ▸ h0) p hp
/-- Where two machines' moves lead, message by message. -/
def steps (la lb : List Mv) (x y : Int) (ba bb : Bool) : List Int → List (List Int)
  | [] => []
  | g :: r => if 0 ≤ mvOf la x ba g ∧ 0 ≤ mvOf lb y bb g then [(rd_T78 la (mvOf la x ba g)).f3, (rd_T78 lb (mvOf lb y bb g)).f3] :: steps la lb x y ba bb r else steps la lb x y ba bb r
theorem steps_mem {la lb : List Mv} {x y : Int} {ba bb : Bool} {r : List Int} {p : List Int} : p ∈ steps la lb x y ba bb r ↔ ∃ g ∈ r, 0 ≤ mvOf la x ba g ∧ 0 ≤ mvOf lb y bb g ∧ p = [(rd_T78 la (mvOf la x ba g)).f3, (rd_T78 lb (mvOf lb y bb g)).f3] := by
  induction r with
  | nil => simp [steps]
  | cons g r ih =>
    simp only [steps]
    by_cases h : 0 ≤ mvOf la x ba g ∧ 0 ≤ mvOf lb y bb g
    · rw [if_pos h, List.mem_cons, ih]
      constructor
      · rintro (h1 | ⟨z, h2, h3⟩)
        · exact ⟨g, List.mem_cons_self, h.1, h.2, h1⟩
        · exact ⟨z, List.mem_cons_of_mem _ h2, h3⟩
      · rintro ⟨z, h2, h3, h4, h5⟩
        rcases List.mem_cons.1 h2 with rfl | h2
        · exact .inl h5
        · exact .inr ⟨z, h2, h3, h4, h5⟩
    · rw [if_neg h, ih]
      constructor
      · rintro ⟨z, h2, h3⟩
        exact ⟨z, List.mem_cons_of_mem _ h2, h3⟩
      · rintro ⟨z, h2, h3, h4, h5⟩
        rcases List.mem_cons.1 h2 with rfl | h2
        · exact absurd ⟨h3, h4⟩ h
        · exact ⟨z, h2, h3, h4, h5⟩
theorem steps_len (la lb : List Mv) (x y : Int) (ba bb : Bool) (r : List Int) : (steps la lb x y ba bb r).length ≤ r.length := by
  induction r with
  | nil => simp [steps]
  | cons g r ih =>
    simp only [steps]
    split
    · rw [List.length_cons, List.length_cons]
      omega
    · rw [List.length_cons]
      omega
theorem mv_pt {s : Int} {l : List Mv} (h : ∀ m ∈ l, isMv s m = true) (hs : s ≤ 6) {st : Int} {b : Bool} {g : Int} (hg : 0 ≤ mvOf l st b g) : 0 ≤ (rd_T78 l (mvOf l st b g)).f3 ∧ (rd_T78 l (mvOf l st b g)).f3 ≤ 5 := by
  have h1 := h _ (mvOf_in hg).2.1
  simp only [isMv, Bool.and_eq_true, inR_true] at h1
  omega
theorem steps_pt {s t : Int} {la lb : List Mv} (ha : ∀ m ∈ la, isMv s m = true) (hs : s ≤ 6) (hb : ∀ m ∈ lb, isMv t m = true) (ht : t ≤ 6) {x y : Int} {ba bb : Bool} {r : List Int} : ∀ p ∈ steps la lb x y ba bb r, isPt p := by
  intro p hp
  obtain ⟨g, _, h1, h2, rfl⟩ := steps_mem.1 hp
  exact ⟨_, _, rfl, mv_pt ha hs h1, mv_pt hb ht h2⟩
end Go.Proofs.Ytldcchjbaglppaa.Plain

/- Machines whose rows are not too long; pairs read. No program. No condition. -/
set_option linter.unusedSimpArgs false
set_option linter.unusedVariables false
namespace Go.Proofs.Ytldcchjbaglppaa.Plain
open Go.RowKit Go.Proofs.YtldcchjbaglppaaW.PrintWords Go.Proofs.Ytldcchjbaglppaa.Base Go.Proofs.Ytldcchjbaglppaa.Print

abbrev Mach := S34
theorem rdMach_mid (pre suf : List Mach) (x : Mach) : rd_T34 (pre ++ x :: suf) (pre.length : Int) = x := by simp [rd_T34]
/-- Its rows are not too long. -/
def okM (a : Mach) : Prop := a.f1.length ≤ 1000000000000 ∧ a.f2.length ≤ 1000000000000
def isMa (a : Mach) : Bool := isM a.f0 a.f1 a.f2
theorem adds_app (o l m : List (List Int)) : adds (adds o l) m = adds o (l ++ m) := by
  unfold adds
  rw [List.foldl_append]
/-- The list of pairs, read at a place. -/
theorem pt_at {o : List (List Int)} (h : ∀ p ∈ o, isPt p) {p : List Int} (hp : p ∈ o) : p.length = 2 := by
  obtain ⟨x, y, rfl, _⟩ := h p hp
  rfl
end Go.Proofs.Ytldcchjbaglppaa.Plain

/- Machines, of the program: IsMachine, MoveOf, MovesFrom and ends. Condition: at most 10 to the 12 of each; of a machine's moves at most 12, no two of which clash. -/
set_option linter.unusedSimpArgs false
set_option linter.unusedVariables false
namespace Go.Proofs.Ytldcchjbaglppaa.Plain
open Go.RowKit Go.Proofs.YtldcchjbaglppaaW.PrintWords Go.Proofs.Ytldcchjbaglppaa.Base Go.Proofs.Ytldcchjbaglppaa.Print

theorem take_mid {α : Type} (pre suf : List α) : (pre ++ suf).take (pre.length : Int).toNat = pre := by
  rw [Int.toNat_natCast]
  simp
theorem implIsM_l1 (l : List Mv) (s : Int) (e : List Bool) (ms : List Mv) (n i : Int) (m : Mv) (suf : List Mv) : ∀ (pre : List Mv), (pre ++ suf).length ≤ 1000000000000 →
    impl_IsMachine.l1v l n i (pre ++ suf) ((pre ++ suf).length : Int) (pre.length : Int) s e ms m.f0 m.f1 m.f2 m.f3 = if (suf.any fun o => clash o m) = true then some false else impl_IsMachine.l0v l n (wrap64 (i + 1)) s e ms := by
  induction suf with
  | nil =>
    intro pre _
    rw [impl_IsMachine.l1v_eq, if_neg (nlt_end pre)]
    rfl
  | cons x suf ih =>
    intro pre hl
    have hn : pre.length < (pre ++ x :: suf).length := by simp
    rw [impl_IsMachine.l1v_eq, if_pos (lt_mid pre suf x), if_pos (by omega), if_pos (lt_mid pre suf x), rdMv_mid, up_mid pre x hn hl]
    have h1 := ih (pre ++ [x]) (by simpa using hl)
    rw [← mid_snoc pre suf x] at h1
    rw [h1]
    simp only [List.any_cons, clash]
    by_cases c0 : x.f0 = m.f0
    · rw [if_pos c0]
      rcases Bool.eq_false_or_eq_true (x.f1 != m.f1) with c1 | c1
      · rw [if_pos c1]
        simp [c0, c1]
      · rw [if_neg (by rw [c1]; decide)]
        by_cases c2 : x.f2 = m.f2
        · rw [if_pos c2]
          simp [c0, c2]
        · rw [if_neg c2]
          simp only [c0, c1, c2, decide_true, decide_false, Bool.or_false, Bool.and_false, Bool.false_or]
          rfl
    · rw [if_neg c0]
      simp [c0]
theorem implIsM_l0 (s : Int) (h0 : 1 ≤ s) (h1 : s ≤ 6) (e : List Bool) (suf : List Mv) : ∀ (pre : List Mv), (pre ++ suf).length ≤ 1000000000000 →
    impl_IsMachine.l0v (pre ++ suf) ((pre ++ suf).length : Int) (pre.length : Int) s e (pre ++ suf) = some (isMs s pre suf) := by
  induction suf with
  | nil =>
    intro pre _
    rw [impl_IsMachine.l0v_eq, if_neg (nlt_end pre)]
    rfl
  | cons x suf ih =>
    intro pre hl
    have hn : pre.length < (pre ++ x :: suf).length := by simp
    have hp : pre.length ≤ 1000000000000 := by omega
    have hw : wrap64 (s - 1) = s - 1 := w64 (by omega) (by omega)
    have h2 := ih (pre ++ [x]) (by simpa using hl)
    rw [← mid_snoc pre suf x] at h2
    have h3 : ∀ q : Bool, impl_IsMachine.j2v (pre.length : Int) (pre ++ x :: suf) ((pre ++ x :: suf).length : Int) (pre.length : Int) q s e (pre ++ x :: suf) x.f0 x.f1 x.f2 x.f3 = some (!q && (!(pre.any fun o => clash o x) && isMs s (pre ++ [x]) suf)) := by
      intro q
      rw [impl_IsMachine.j2v_eq]
      cases q with
      | true => rfl
      | false =>
        have h4 := implIsM_l1 (pre ++ x :: suf) s e (pre ++ x :: suf) ((pre ++ x :: suf).length : Int) (pre.length : Int) x pre [] (by simpa using hp)
        simp only [List.nil_append, List.length_nil, Int.natCast_zero] at h4
        rw [if_neg (by simp), if_pos (by omega), if_pos (by omega), take_mid, Option.bind_some, h4, up_mid pre x hn hl, h2]
        cases pre.any fun o => clash o x <;> rfl
    rw [impl_IsMachine.l0v_eq, if_pos (lt_mid pre suf x), if_pos (by omega), if_pos (lt_mid pre suf x), rdMv_mid, hw, inRange_f, Option.bind_some, inRange_f, Option.bind_some, inRange_f, Option.bind_some]
    simp only [h3, isMs, isMv]
    cases inR 0 (s - 1) x.f0 <;> cases inR 0 (s - 1) x.f3 <;> cases inR 0 5 x.f2 <;> simp
theorem implIsM_v (s : Int) (e : List Bool) (l : List Mv) (hl : l.length ≤ 1000000000000) : impl_IsMachine.fv s e l = some (isM s e l) := by
  rw [impl_IsMachine.fv_eq, inRange_f, Option.bind_some]
  unfold isM
  cases h : inR 1 6 s with
  | false =>
    rw [if_neg (by simp), impl_IsMachine.j0v_eq]
    rfl
  | true =>
    obtain ⟨h0, h1⟩ := inR_true.1 h
    rw [if_pos rfl]
    by_cases h2 : (e.length : Int) = s
    · rw [if_pos h2, impl_IsMachine.j0v_eq]
      by_cases h3 : l.length ≤ 12
      · have h4 := implIsM_l0 s h0 h1 e l [] (by simpa using hl)
        simp only [List.nil_append, List.length_nil, Int.natCast_zero] at h4
        rw [if_neg (by rw [decide_eq_true_eq]; omega), h4]
        simp [h2, h3]
      · rw [if_pos (by rw [decide_eq_true_eq]; omega)]
        simp [h3]
    · rw [if_neg h2, impl_IsMachine.j0v_eq]
      simp [h2]
theorem implHit_f (m : Mv) (st : Int) (b : Bool) (g : Int) : impl_MoveOf_1.f m.f0 m.f1 m.f2 m.f3 st b g = some (hit st b g m) := by
  unfold impl_MoveOf_1.f hit
  by_cases h : m.f0 = st
  · rw [if_pos h]
    by_cases hg : m.f2 = g <;> cases m.f1 <;> cases b <;> simp [h, hg]
  · rw [if_neg h]
    simp [h]
theorem implMvOf_l0 (st : Int) (b : Bool) (g : Int) (suf : List Mv) : ∀ (pre : List Mv), (pre ++ suf).length ≤ 1000000000000 →
    slices_IndexFunc_impl_Move_impl_Move_with_impl_MoveOf_1.l0v (pre ++ suf) ((pre ++ suf).length : Int) (pre.length : Int) st b g = some (mvAt st b g (pre.length : Int) suf) := by
  induction suf with
  | nil =>
    intro pre _
    rw [slices_IndexFunc_impl_Move_impl_Move_with_impl_MoveOf_1.l0v_eq, if_neg (nlt_end pre)]
    rfl
  | cons x suf ih =>
    intro pre hl
    have hn : pre.length < (pre ++ x :: suf).length := by simp
    rw [slices_IndexFunc_impl_Move_impl_Move_with_impl_MoveOf_1.l0v_eq, if_pos (lt_mid pre suf x), if_pos (by omega), if_pos (lt_mid pre suf x), rdMv_mid, implHit_f, Option.bind_some, up_mid pre x hn hl]
    simp only [mvAt]
    rw [mid_snoc pre suf x] at hl ⊢
    rw [ih (pre ++ [x]) hl, show ((pre ++ [x]).length : Int) = (pre.length : Int) + 1 by simp]
    cases hit st b g x <;> rfl
theorem implMvOf_v (s : Int) (e : List Bool) (l : List Mv) (st : Int) (b : Bool) (g : Int) (hl : l.length ≤ 1000000000000) : impl_MoveOf.fv s e l st b g = some (mvOf l st b g) := by
  rw [impl_MoveOf.fv_eq, slices_IndexFunc_impl_Move_impl_Move_with_impl_MoveOf_1.fv_eq]
  have h := implMvOf_l0 st b g l [] (by simpa using hl)
  simp only [List.nil_append, List.length_nil, Int.natCast_zero] at h
  rw [h]
  rfl
theorem less_f (a b : Int) : cmp_Less_int.f a b = some (decide (a < b)) := by
  unfold cmp_Less_int.f cmp_isNaN_int.f
  simp
theorem swap_mid (p q : List Int) (x y : Int) : ((p ++ [y] ++ x :: q).set ((p.length + 1 : Nat) : Int).toNat y).set (p.length : Int).toNat x = p ++ x :: y :: q := by
  rw [Int.toNat_natCast, Int.toNat_natCast]
  simp [List.set_append]
theorem sort_l1 (n i : Int) (m : Nat) : ∀ (p q : List Int) (x : Int), p.length = m → p.length ≤ 1000000000000 → p.Pairwise (· < ·) → x ∉ p →
    slices_insertionSortOrdered_int.l1v (p ++ x :: q) 0 n i (p.length : Int) = slices_insertionSortOrdered_int.l0v (put p x ++ q) 0 n (wrap64 (i + 1)) := by
  induction m with
  | zero =>
    intro p q x hm _ _ _
    obtain rfl := List.eq_nil_of_length_eq_zero hm
    rw [slices_insertionSortOrdered_int.l1v_eq, if_neg (by simp)]
    rfl
  | succ m ih =>
    intro p q x hm hl hu hx
    obtain ⟨p, y, rfl⟩ : ∃ p' y, p = p' ++ [y] := by
      rcases List.eq_nil_or_concat p with h | ⟨p', y, h⟩
      · rw [h] at hm
        cases hm
      · exact ⟨p', y, by rw [h]; simp⟩
    have hp : p.length = m := by simpa using hm
    have hxy : x ≠ y := fun e => hx (by simp [e])
    have hxp : x ∉ p := fun h => hx (by simp [h])
    rw [List.pairwise_append] at hu
    have e1 : ((p ++ [y]).length : Int) = (p.length : Int) + 1 := by simp
    have e2 : ((p ++ [y]).length : Int) = ((p.length + 1 : Nat) : Int) := by simp
    have hl' : p.length < 1000000000000 := by
      rw [List.length_append] at hl
      simp only [List.length_cons, List.length_nil] at hl
      omega
    rw [slices_insertionSortOrdered_int.l1v_eq, e1, if_pos (by omega), if_pos (by omega), if_pos (by simp; omega), w64 (by omega) (by omega), show (p.length : Int) + 1 - 1 = (p.length : Int) by omega, if_pos (by omega), if_pos (by simp; omega), ← e1, rd_mid (p ++ [y]) q x, show p ++ [y] ++ x :: q = p ++ y :: (x :: q) by simp, rd_mid p (x :: q) y, less_f, Option.bind_some]
    by_cases h : x < y
    · rw [if_pos (by rw [decide_eq_true_eq]; exact h), show p ++ y :: (x :: q) = p ++ [y] ++ x :: q by simp, e2, swap_mid p q x y, ih p (y :: q) x hp (by omega) hu.1 hxp, put_lt p h]
      simp
    · have h2 : ∀ z ∈ p ++ [y], z < x := by
        intro z hz
        rcases List.mem_append.1 hz with hz | hz
        · have := hu.2.2 z hz y (by simp)
          omega
        · have := List.mem_singleton.1 hz
          omega
      rw [if_neg (by rw [decide_eq_true_eq]; exact h), put_gt h2]
      simp
theorem sort_l0 (suf : List Int) : ∀ (a : List Int), a.length + suf.length ≤ 1000000000000 → a.Pairwise (· < ·) → suf.Nodup → (∀ x ∈ suf, x ∉ a) →
    slices_insertionSortOrdered_int.l0v (a ++ suf) 0 ((a.length + suf.length : Nat) : Int) (a.length : Int) = some (suf.foldl put a) := by
  induction suf with
  | nil =>
    intro a _ _ _ _
    rw [slices_insertionSortOrdered_int.l0v_eq, if_neg (by simp)]
    simp
  | cons x suf ih =>
    intro a hl hu hn hx
    have hxa := hx x List.mem_cons_self
    have hl' : a.length < 1000000000000 := by simp only [List.length_cons] at hl; omega
    rw [slices_insertionSortOrdered_int.l0v_eq, if_pos (by simp only [List.length_cons]; omega), sort_l1 _ _ a.length a suf x rfl (by omega) hu hxa, w64 (by omega) (by omega)]
    have hpl : (put a x).length = a.length + 1 := put_new hxa
    have e1 : (a.length : Int) + 1 = ((put a x).length : Int) := by omega
    have e2 : a.length + (x :: suf).length = (put a x).length + suf.length := by simp only [List.length_cons]; omega
    rw [e1, e2, ih (put a x) (by omega) (put_up x hu) (List.nodup_cons.1 hn).2 (fun y hy => ?_)]
    · rfl
    · rw [put_mem]
      rintro (rfl | h)
      · exact (List.nodup_cons.1 hn).1 hy
      · exact hx y (List.mem_cons_of_mem _ hy) h
theorem sort_v (l : List Int) (hl : l.length ≤ 12) (hn : l.Nodup) : slices_Sort_int_int.fv l = some (l.foldl put []) := by
  have hw : IntKind.u64.wrap (l.length : Int) = (l.length : Int) := by
    show (l.length : Int) % 18446744073709551616 = _
    omega
  rw [slices_Sort_int_int.fv_eq, hw]
  unfold bits_Len.f
  rw [if_pos (by omega), if_pos (by omega), Option.bind_some, slices_pdqsortOrdered_int.fv_eq, slices_pdqsortOrdered_int.l0v_eq, if_pos (by rw [w64 (by omega) (by omega)]; omega), slices_insertionSortOrdered_int.fv_eq]
  have e : slices_insertionSortOrdered_int.l0v l 0 (l.length : Int) (wrap64 (0 + 1)) = some (l.foldl put []) := by
    rw [w64 (by omega) (by omega)]
    cases l with
    | nil =>
      rw [slices_insertionSortOrdered_int.l0v_eq, if_neg (by simp)]
      rfl
    | cons x l =>
      have h := sort_l0 l [x] (by simp only [List.length_cons, List.length_nil] at hl ⊢; omega) (by simp) (List.nodup_cons.1 hn).2 (fun y hy h => by
        rw [List.mem_singleton.1 h] at hy
        exact (List.nodup_cons.1 hn).1 hy)
      have e1 : ((([x] : List Int).length + l.length : Nat) : Int) = ((x :: l).length : Int) := by simp only [List.length_cons, List.length_nil]; omega
      have e2 : (([x] : List Int).length : Int) = 0 + 1 := rfl
      rw [e1, e2] at h
      exact h
  rw [e]
  rfl
theorem compact_l0 (suf : List Int) : ∀ (pre : List Int) (y : Int), (pre ++ y :: suf).length ≤ 1000000000000 → (y :: suf).Pairwise (· < ·) →
    slices_Compact_int_int.l0v (pre ++ y :: suf) ((pre.length + 1 : Nat) : Int) = some (pre ++ y :: suf) := by
  induction suf with
  | nil =>
    intro pre y _ _
    rw [slices_Compact_int_int.l0v_eq, if_neg (by simp)]
  | cons x suf ih =>
    intro pre y hl hu
    have hl' : pre.length < 1000000000000 := by simp only [List.length_append, List.length_cons] at hl; omega
    have e0 : ((pre.length + 1 : Nat) : Int) = ((pre ++ [y]).length : Int) := by simp
    have hyx : y < x := (List.pairwise_cons.1 hu).1 x List.mem_cons_self
    have e3 : pre ++ y :: x :: suf = (pre ++ [y]) ++ x :: suf := by simp
    have hn : (pre ++ [y]).length < ((pre ++ [y]) ++ x :: suf).length := by simp
    have h2 := ih (pre ++ [y]) x (by rw [← e3]; exact hl) (List.pairwise_cons.1 hu).2
    rw [e3] at hl ⊢
    rw [slices_Compact_int_int.l0v_eq, if_pos (by rw [e0]; exact lt_mid (pre ++ [y]) suf x), if_pos (by omega), w64 (x := ((pre.length + 1 : Nat) : Int) - 1) (by omega) (by omega), if_pos (by omega), if_pos (by simp; omega)]
    have e4 : ((pre.length + 1 : Nat) : Int) - 1 = (pre.length : Int) := by omega
    rw [e4, e0, rd_mid (pre ++ [y]) suf x, ← e3, rd_mid pre (x :: suf) y, if_neg (by omega), e3, up_mid (pre ++ [y]) x hn hl]
    have e5 : (((pre ++ [y]) ++ [x]).length : Int) = (((pre ++ [y]).length + 1 : Nat) : Int) := by
      rw [List.length_append]
      rfl
    rw [e5]
    exact h2
theorem compact_v (l : List Int) (hl : l.length ≤ 1000000000000) (hu : l.Pairwise (· < ·)) : slices_Compact_int_int.fv l = some l := by
  rw [slices_Compact_int_int.fv_eq]
  split
  · rfl
  · cases l with
    | nil => simp at *
    | cons y l =>
      have h := compact_l0 l [] y (by simpa using hl) hu
      simpa using h
theorem implMsgs_l0 (s : Int) (e : List Bool) (st : Int) (b : Bool) (suf : List Mv) : ∀ (pre : List Mv), (pre ++ suf).length ≤ 12 → (pre ++ suf).Pairwise (fun o m => clash o m = false) →
    impl_MovesFrom.l0v st b (raw pre st b) (pre ++ suf) ((pre ++ suf).length : Int) (pre.length : Int) = some (msgs (pre ++ suf) st b) := by
  induction suf with
  | nil =>
    intro pre hl hp
    simp only [List.append_nil] at hl hp ⊢
    rw [impl_MovesFrom.l0v_eq, if_neg (by omega), sort_v _ (Nat.le_trans (raw_len pre st b) hl) (raw_nodup hp st b), Option.bind_some]
    have h1 : (msgs pre st b).length ≤ 12 := Nat.le_trans (msgs_len pre st b) hl
    rw [show (raw pre st b).foldl put [] = msgs pre st b from rfl, compact_v (msgs pre st b) (by omega) (fold_up (raw pre st b) [] List.Pairwise.nil), Option.bind_some]
  | cons x suf ih =>
    intro pre hl hp
    have hn : pre.length < (pre ++ x :: suf).length := by simp
    have hr := raw_len pre st b
    rw [impl_MovesFrom.l0v_eq, if_pos (lt_mid pre suf x), if_pos (by omega), if_pos (lt_mid pre suf x), rdMv_mid, up_mid pre x hn (by omega)]
    rw [mid_snoc pre suf x] at hl hp hn ⊢
    have h1 := ih (pre ++ [x]) hl hp
    have hr2 : raw (pre ++ [x]) st b = raw pre st b ++ if x.f0 = st ∧ x.f1 = b then [x.f2] else [] := by
      unfold raw
      rw [List.filter_append, List.map_append]
      congr 1
      by_cases c0 : x.f0 = st <;> by_cases c1 : x.f1 = b <;> simp [c0, c1]
    rw [hr2] at h1
    by_cases c0 : x.f0 = st
    · rw [if_pos c0]
      by_cases c1 : x.f1 = b
      · rw [if_pos (by simp [c1]), if_pos (by omega)]
        rw [if_pos ⟨c0, c1⟩] at h1
        exact h1
      · rw [if_neg (by simp [c1])]
        rw [if_neg (fun h => c1 h.2), List.append_nil] at h1
        exact h1
    · rw [if_neg c0]
      rw [if_neg (fun h => c0 h.1), List.append_nil] at h1
      exact h1
theorem implMsgs_v (s : Int) (e : List Bool) (l : List Mv) (st : Int) (b : Bool) (hl : l.length ≤ 12) (hp : l.Pairwise (fun o m => clash o m = false)) : impl_MovesFrom.fv s e l st b = some (msgs l st b) := by
  rw [impl_MovesFrom.fv_eq]
  have h := implMsgs_l0 s e st b l [] (by simpa using hl) (by simpa using hp)
  simpa [raw] using h
theorem implEnd_f (s : Int) (e : List Bool) (l : List Mv) (x : Int) (he : e.length ≤ 1000000000000) : impl_isEnd.f s e l x = some (endsAt e x) := by
  unfold impl_isEnd.f endsAt
  rw [w64 (by omega) (by omega), inRange_f, Option.bind_some]
  cases h : inR 0 ((e.length : Int) - 1) x with
  | false => rfl
  | true =>
    obtain ⟨h0, h1⟩ := inR_true.1 h
    rw [if_pos rfl, if_pos h0, if_pos (by omega)]
    rfl
end Go.Proofs.Ytldcchjbaglppaa.Plain

/- slices.Equal on whole numbers. Condition: at most 10 to the 12 numbers. -/
set_option linter.unusedSimpArgs false
set_option linter.unusedVariables false
namespace Go.Proofs.Ytldcchjbaglppaa.Plain
open Go.RowKit Go.Proofs.YtldcchjbaglppaaW.PrintWords Go.Proofs.Ytldcchjbaglppaa.Base Go.Proofs.Ytldcchjbaglppaa.Print

theorem slicesEqual_l0 (sa : List Int) : ∀ (pre sb : List Int), sb.length = sa.length → (pre ++ sa).length ≤ 1000000000000 → slices_Equal_int_int.l0v (pre ++ sa) (pre ++ sb) ((pre ++ sa).length : Int) (pre.length : Int) = some (decide (sa = sb)) := by
  induction sa with
  | nil =>
    intro pre sb hr _
    rw [slices_Equal_int_int.l0v_eq, if_neg (nlt_end pre)]
    simp at hr
    simp [hr]
  | cons x sa ih =>
    intro pre sb hr hl
    cases sb with
    | nil => simp at hr
    | cons y sb =>
      have hn : pre.length < (pre ++ x :: sa).length := by simp
      rw [slices_Equal_int_int.l0v_eq, if_pos (lt_mid pre sa x), if_pos (by omega), if_pos (lt_mid pre sa x), if_pos (lt_mid pre sb y), rd_mid, rd_mid, up_mid pre x hn hl]
      by_cases hxy : x = y
      · subst hxy
        rw [if_pos rfl]
        rw [mid_snoc pre sa x] at hl ⊢
        rw [mid_snoc pre sb x]
        rw [ih (pre ++ [x]) sb (by simpa using hr) hl]
        simp
      · rw [if_neg hxy]
        simp [hxy]
theorem slicesEqual_v (a b : List Int) (hl : a.length ≤ 1000000000000) : slices_Equal_int_int.fv a b = some (decide (a = b)) := by
  rw [slices_Equal_int_int.fv_eq]
  by_cases h : a.length = b.length
  · rw [if_pos (by omega)]
    have h1 := slicesEqual_l0 a [] b h.symm (by simpa using hl)
    simpa using h1
  · rw [if_neg (by omega)]
    have : a ≠ b := fun e => h (by rw [e])
    simp [this]
end Go.Proofs.Ytldcchjbaglppaa.Plain

/- slices.Contains on whole numbers. Condition: at most 10 to the 12 numbers. -/
set_option linter.unusedSimpArgs false
set_option linter.unusedVariables false
namespace Go.Proofs.Ytldcchjbaglppaa.Plain
open Go.RowKit Go.Proofs.YtldcchjbaglppaaW.PrintWords Go.Proofs.Ytldcchjbaglppaa.Base Go.Proofs.Ytldcchjbaglppaa.Print

theorem slIndex_l0 (x : Int) (suf : List Int) : ∀ (pre : List Int), (pre ++ suf).length ≤ 1000000000000 →
    ∃ r, slices_Index_int_int.l0v (pre ++ suf) x ((pre ++ suf).length : Int) (pre.length : Int) = some r ∧ decide (r ≥ 0) = mem suf x := by
  induction suf with
  | nil =>
    intro pre _
    refine ⟨-1, ?_, by simp [mem]⟩
    rw [slices_Index_int_int.l0v_eq, if_neg (nlt_end pre)]
  | cons y suf ih =>
    intro pre hl
    have hn : pre.length < (pre ++ y :: suf).length := by simp
    rw [slices_Index_int_int.l0v_eq, if_pos (lt_mid pre suf y), if_pos (by omega), if_pos (lt_mid pre suf y), rd_mid]
    by_cases hxy : x = y
    · rw [if_pos hxy]
      refine ⟨(pre.length : Int), rfl, ?_⟩
      rw [mem_cons, hxy]
      simp
    · rw [if_neg hxy, up_mid pre y hn hl]
      rw [mid_snoc pre suf y] at hl ⊢
      obtain ⟨r, h1, h2⟩ := ih (pre ++ [y]) hl
      refine ⟨r, h1, ?_⟩
      rw [h2, mem_cons]
      simp [show ¬ y = x from fun e => hxy e.symm]
theorem slHas_v (l : List Int) (x : Int) (hl : l.length ≤ 1000000000000) : slices_Contains_int_int.fv l x = some (mem l x) := by
  obtain ⟨r, h1, h2⟩ := slIndex_l0 x l [] (by simpa using hl)
  rw [slices_Contains_int_int.fv_eq, slices_Index_int_int.fv_eq]
  simp only [List.nil_append, List.length_nil, Int.natCast_zero] at h1
  rw [h1]
  simp [h2]
end Go.Proofs.Ytldcchjbaglppaa.Plain

/- A row of rows, read. No program. No condition. -/
set_option linter.unusedSimpArgs false
set_option linter.unusedVariables false
namespace Go.Proofs.Ytldcchjbaglppaa.Plain
open Go.RowKit Go.Proofs.YtldcchjbaglppaaW.PrintWords Go.Proofs.Ytldcchjbaglppaa.Base Go.Proofs.Ytldcchjbaglppaa.Print

theorem rdL1_mid (pre suf : List (List Int)) (x : List Int) : rd_L3 (pre ++ x :: suf) (pre.length : Int) = x := by simp [rd_L3]
end Go.Proofs.Ytldcchjbaglppaa.Plain

/- Is a pair among pairs? Of the program. And a list without the numbers of another one. Condition: at most 10 to the 12 of each. -/
set_option linter.unusedSimpArgs false
set_option linter.unusedVariables false
namespace Go.Proofs.Ytldcchjbaglppaa.Plain
open Go.RowKit Go.Proofs.YtldcchjbaglppaaW.PrintWords Go.Proofs.Ytldcchjbaglppaa.Base Go.Proofs.Ytldcchjbaglppaa.Print

theorem okR_rows {o : List (List Int)} (h : okR o) : ∀ x ∈ o, x.length ≤ 1000000000000 := by
  intro x hx
  obtain ⟨a, b, rfl, _⟩ := h.2 x hx
  simp
theorem implHasP_l0 (p : List Int) (suf : List (List Int)) : ∀ (pre : List (List Int)), (pre ++ suf).length ≤ 1000000000000 → (∀ x ∈ suf, x.length ≤ 1000000000000) →
    ∃ r, slices_IndexFunc_int_int_with_impl_reached_1.l0v (pre ++ suf) ((pre ++ suf).length : Int) (pre.length : Int) p = some r ∧ decide (r ≥ 0) = decide (p ∈ suf) := by
  induction suf with
  | nil =>
    intro pre _ _
    refine ⟨-1, ?_, by simp⟩
    rw [slices_IndexFunc_int_int_with_impl_reached_1.l0v_eq, if_neg (nlt_end pre)]
  | cons x suf ih =>
    intro pre hl hx
    have hn : pre.length < (pre ++ x :: suf).length := by simp
    rw [slices_IndexFunc_int_int_with_impl_reached_1.l0v_eq, if_pos (lt_mid pre suf x), if_pos (by omega), if_pos (lt_mid pre suf x), rdL1_mid, impl_reached_1.fv_eq, slicesEqual_v x p (hx x List.mem_cons_self), Option.bind_some, Option.bind_some, up_mid pre x hn hl]
    by_cases h : x = p
    · refine ⟨(pre.length : Int), ?_, ?_⟩
      · rw [if_pos (by simp [h])]
      · simp [h]
    · rw [if_neg (by simp [h])]
      rw [mid_snoc pre suf x] at hl ⊢
      obtain ⟨r, h1, h2⟩ := ih (pre ++ [x]) hl fun y hy => hx y (List.mem_cons_of_mem _ hy)
      refine ⟨r, h1, ?_⟩
      rw [h2]
      simp [show ¬ p = x from fun e => h e.symm]
theorem implHasP_v (l : List (List Int)) (p : List Int) (hl : l.length ≤ 1000000000000) (hx : ∀ x ∈ l, x.length ≤ 1000000000000) : slices_ContainsFunc_int_int_with_impl_reached_1.fv l p = some (decide (p ∈ l)) := by
  obtain ⟨r, h1, h2⟩ := implHasP_l0 p l [] (by simpa using hl) hx
  rw [slices_ContainsFunc_int_int_with_impl_reached_1.fv_eq, slices_IndexFunc_int_int_with_impl_reached_1.fv_eq]
  simp only [List.nil_append, List.length_nil, Int.natCast_zero] at h1
  rw [h1, Option.bind_some, h2]
theorem implWo_l0 (b : List Int) (hb : b.length ≤ 1000000000000) (suf : List Int) : ∀ (pre out : List Int), (pre ++ suf).length ≤ 1000000000000 → out.length ≤ pre.length →
    impl_without.l0v b out (pre ++ suf) ((pre ++ suf).length : Int) (pre.length : Int) = some (out ++ suf.filter fun v => !(mem b v)) := by
  induction suf with
  | nil =>
    intro pre out _ _
    rw [impl_without.l0v_eq, if_neg (nlt_end pre)]
    simp
  | cons x suf ih =>
    intro pre out hl ho
    have hn : pre.length < (pre ++ x :: suf).length := by simp
    have hp : pre.length < 1000000000000 := by omega
    rw [impl_without.l0v_eq, if_pos (lt_mid pre suf x), if_pos (by omega), if_pos (lt_mid pre suf x), rd_mid, slHas_v b x hb, Option.bind_some, up_mid pre x hn hl]
    rw [mid_snoc pre suf x] at hl ⊢
    cases h : mem b x with
    | true =>
      rw [if_pos rfl, ih (pre ++ [x]) out hl (by simp; omega)]
      simp [h]
    | false =>
      rw [if_neg (by simp), if_pos (by omega), ih (pre ++ [x]) (out ++ [x]) hl (by simp; omega)]
      simp [h]
theorem implWo_v (a b : List Int) (ha : a.length ≤ 1000000000000) (hb : b.length ≤ 1000000000000) : impl_without.fv a b = some (a.filter fun v => !(mem b v)) := by
  rw [impl_without.fv_eq]
  have h := implWo_l0 b hb a [] [] (by simpa using ha) (by simp)
  simpa using h
/-- Is each number of a list in another one? -/
def sub (a b : List Int) : Bool := a.all (mem b)
theorem wo_pos (a b : List Int) : decide (((a.filter fun v => !(mem b v)).length : Int) > 0) = !(sub a b) := by
  induction a with
  | nil => rfl
  | cons x a ih =>
    unfold sub at ih ⊢
    rw [List.all_cons]
    cases h : mem b x with
    | true =>
      rw [List.filter_cons_of_neg (by simp [h]), ih]
      rfl
    | false =>
      rw [List.filter_cons_of_pos (by simp [h]), List.length_cons]
      simp
end Go.Proofs.Ytldcchjbaglppaa.Plain

/- FollowPairs, of the program. Condition: machines of at most 12 moves, no two of which clash. -/
set_option linter.unusedSimpArgs false
set_option linter.unusedVariables false
namespace Go.Proofs.Ytldcchjbaglppaa.Plain
open Go.RowKit Go.Proofs.YtldcchjbaglppaaW.PrintWords Go.Proofs.Ytldcchjbaglppaa.Base Go.Proofs.Ytldcchjbaglppaa.Print

section
variable (s : Int) (e : List Bool) (l : List Mv) (s' : Int) (e' : List Bool) (l' : List Mv)
theorem nextF_l1 (hl : l.length ≤ 1000000000000) (hl' : l'.length ≤ 1000000000000) (x y : Int) (b : Bool) (q : List Bool) (n i : Int) (suf : List Int) : ∀ (pre : List Int) (out : List (List Int)), (pre ++ suf).length ≤ 1000000000000 → out.length + suf.length ≤ 1000000000000 →
    impl_nextFollowed.l1v x y out b q n i (pre ++ suf) ((pre ++ suf).length : Int) (pre.length : Int) s e l s' e' l' = impl_nextFollowed.l0v x y (out ++ steps l l' x y b b suf) q n (wrap64 (i + 1)) s e l s' e' l' := by
  induction suf with
  | nil =>
    intro pre out _ _
    rw [impl_nextFollowed.l1v_eq, if_neg (nlt_end pre)]
    simp [steps]
  | cons g suf ih =>
    intro pre out hp ho
    have hn : pre.length < (pre ++ g :: suf).length := by simp
    rw [List.length_cons] at ho
    rw [impl_nextFollowed.l1v_eq, if_pos (lt_mid pre suf g), if_pos (by omega), if_pos (lt_mid pre suf g), rd_mid, implMvOf_v s e l x b g hl, Option.bind_some, implMvOf_v s' e' l' y b g hl', Option.bind_some, up_mid pre g hn hp]
    simp only [steps]
    rw [mid_snoc pre suf g] at hp ⊢
    by_cases h1 : 0 ≤ mvOf l x b g
    · by_cases h2 : 0 ≤ mvOf l' y b g
      · have e1 := (mvOf_in h1).1
        have e2 := (mvOf_in h2).1
        rw [if_pos h1, if_pos h2, if_pos h1, if_pos e1, if_pos h2, if_pos e2, if_pos (by omega), ih (pre ++ [g]) _ hp (by simp; omega), if_pos ⟨h1, h2⟩]
        simp
      · rw [if_pos h1, if_neg h2, ih (pre ++ [g]) _ hp (by omega), if_neg (fun h => h2 h.2)]
    · rw [if_neg h1, ih (pre ++ [g]) _ hp (by omega), if_neg (fun h => h1 h.1)]
/-- Where two machines go from two states. -/
def nxF (l l' : List Mv) (x y : Int) : List (List Int) := steps l l' x y true true (msgs l x true) ++ steps l l' x y false false (msgs l' y false)
theorem nextF_v (hl : l.length ≤ 12) (hp : l.Pairwise (fun o m => clash o m = false)) (hl' : l'.length ≤ 12) (hp' : l'.Pairwise (fun o m => clash o m = false)) (x y : Int) :
    impl_nextFollowed.fv s e l s' e' l' x y = some (nxF l l' x y) := by
  have m1 := msgs_len l x true
  have m2 := msgs_len l' y false
  have st1 := steps_len l l' x y true true (msgs l x true)
  have r1 : rdOf false [true, false] 0 = true := rfl
  have r2 : rdOf false [true, false] 1 = false := rfl
  have w1 : wrap64 ((0 : Int) + 1) = 1 := w64 (by omega) (by omega)
  have w2 : wrap64 ((1 : Int) + 1) = 2 := w64 (by omega) (by omega)
  have a1 := nextF_l1 s e l s' e' l' (by omega) (by omega) x y true [true, false] 2 0 (msgs l x true) [] [] (by simp; omega) (by simp; omega)
  have a2 := nextF_l1 s e l s' e' l' (by omega) (by omega) x y false [true, false] 2 1 (msgs l' y false) [] (steps l l' x y true true (msgs l x true)) (by simp; omega) (by omega)
  simp only [List.nil_append, List.length_nil, Int.natCast_zero, Bool.not_true, Bool.not_false] at a1 a2
  rw [w1] at a1
  rw [w2] at a2
  rw [impl_nextFollowed.fv_eq, Option.bind_some, show (([true, false] : List Bool).length : Int) = 2 from rfl]
  rw [impl_nextFollowed.l0v_eq, if_pos (by decide), if_pos (by decide), if_pos (by decide), implMsgs_v s e l x true hl hp, Option.bind_some, r1, if_pos rfl, impl_nextFollowed.j1v_eq, a1]
  rw [impl_nextFollowed.l0v_eq, if_pos (by decide), if_pos (by decide), if_pos (by decide), implMsgs_v s e l x true hl hp, Option.bind_some, r2, if_neg (by decide), implMsgs_v s' e' l' y false hl' hp', Option.bind_some, impl_nextFollowed.j1v_eq, a2]
  rw [impl_nextFollowed.l0v_eq, if_neg (by decide)]
  rfl
theorem nxF_fine (h : isM s e l = true) (h' : isM s' e' l' = true) : fine (nxF l l') := by
  intro x y p hp
  obtain ⟨a1, _, _, _, _, a2⟩ := isM_all h
  obtain ⟨b1, _, _, _, _, b2⟩ := isM_all h'
  rcases List.mem_append.1 hp with hp | hp
  · exact steps_pt a1 a2 b1 b2 p hp
  · exact steps_pt a1 a2 b1 b2 p hp
theorem reachF_l1 (i : Int) (suf : List (List Int)) : ∀ (pre o : List (List Int)), (pre ++ suf).length ≤ 1000000000000 → okR o → (∀ p ∈ suf, isPt p) →
    impl_reached_with_impl_FollowPairs_1.l1v o i (pre ++ suf) ((pre ++ suf).length : Int) (pre.length : Int) s e l s' e' l' = impl_reached_with_impl_FollowPairs_1.l0v (adds o suf) (wrap64 (i + 1)) s e l s' e' l' := by
  induction suf with
  | nil =>
    intro pre o _ _ _
    rw [impl_reached_with_impl_FollowPairs_1.l1v_eq, if_neg (nlt_end pre)]
    rfl
  | cons p suf ih =>
    intro pre o hl ho hs
    have hn : pre.length < (pre ++ p :: suf).length := by simp
    have h36 := okR_len ho
    have hp := hs p List.mem_cons_self
    rw [impl_reached_with_impl_FollowPairs_1.l1v_eq, if_pos (lt_mid pre suf p), if_pos (by omega), if_pos (lt_mid pre suf p), rdL1_mid, implHasP_v o p (by omega) (okR_rows ho), Option.bind_some, up_mid pre p hn hl]
    rw [mid_snoc pre suf p] at hl ⊢
    show _ = impl_reached_with_impl_FollowPairs_1.l0v (adds (addP o p) suf) (wrap64 (i + 1)) s e l s' e' l'
    unfold addP
    by_cases h : p ∈ o
    · rw [if_pos (by simp [h]), if_pos h, ih (pre ++ [p]) o hl ho fun q hq => hs q (List.mem_cons_of_mem _ hq)]
    · have h2 : okR (o ++ [p]) := by
        have h3 := addP_ok ho hp
        rw [addP, if_neg h] at h3
        exact h3
      rw [if_neg (by simp [h]), if_neg h, if_pos (by omega), ih (pre ++ [p]) (o ++ [p]) hl h2 fun q hq => hs q (List.mem_cons_of_mem _ hq)]
theorem reachF_l0 (h : isM s e l = true) (h' : isM s' e' l' = true) (k : Nat) : ∀ (i : Nat) (o : List (List Int)), okR o → 37 ≤ i + k → i ≤ 37 → impl_reached_with_impl_FollowPairs_1.l0v o (i : Int) s e l s' e' l' = some (reachT (nxF l l') k i o) := by
  obtain ⟨_, a1, a2, _, _, _⟩ := isM_all h
  obtain ⟨_, b1, b2, _, _, _⟩ := isM_all h'
  have hf := nxF_fine s e l s' e' l' h h'
  induction k with
  | zero =>
    intro i o ho hi _
    have h36 := okR_len ho
    rw [impl_reached_with_impl_FollowPairs_1.l0v_eq, if_neg (by omega)]
    rfl
  | succ k ih =>
    intro i o ho hi hi2
    have h36 := okR_len ho
    unfold reachT
    by_cases hlt : i < o.length
    · obtain ⟨x, y, hxy, _⟩ := ho.2 _ (List.getElem_mem hlt)
      have hl2 : (rd_L3 o (i : Int)).length = 2 := by rw [rdL_at o i hlt, hxy]; rfl
      have hns := hf (px (rd_L3 o i)) (py (rd_L3 o i))
      have hnl : (nxF l l' (px (rd_L3 o i)) (py (rd_L3 o i))).length ≤ 1000000000000 := by
        have c1 := steps_len l l' (px (rd_L3 o i)) (py (rd_L3 o i)) true true (msgs l (px (rd_L3 o i)) true)
        have c2 := steps_len l l' (px (rd_L3 o i)) (py (rd_L3 o i)) false false (msgs l' (py (rd_L3 o i)) false)
        have c3 := msgs_len l (px (rd_L3 o i)) true
        have c4 := msgs_len l' (py (rd_L3 o i)) false
        unfold nxF
        rw [List.length_append]
        omega
      have h1 := reachF_l1 s e l s' e' l' (i : Int) (nxF l l' (px (rd_L3 o i)) (py (rd_L3 o i))) [] o (by simpa using hnl) ho hns
      simp only [List.nil_append, List.length_nil, Int.natCast_zero] at h1
      have h2 := ih (i + 1) (adds o (nxF l l' (px (rd_L3 o i)) (py (rd_L3 o i)))) (adds_ok ho hns) (by omega) (by omega)
      rw [impl_reached_with_impl_FollowPairs_1.l0v_eq, if_pos (by omega), if_pos (by omega), if_pos (by omega), if_pos (by omega), impl_FollowPairs_1.fv_eq, nextF_v s e l s' e' l' a2 a1 b2 b1, Option.bind_some, Option.bind_some, if_pos hlt]
      refine (h1.trans ?_)
      rw [w64 (by omega) (by omega), show (i : Int) + 1 = ((i + 1 : Nat) : Int) by omega]
      exact h2
    · rw [impl_reached_with_impl_FollowPairs_1.l0v_eq, if_neg (by omega), if_neg hlt]
/-- All pairs, or none where one is no machine. -/
def allF (s : Int) (e : List Bool) (l : List Mv) (s' : Int) (e' : List Bool) (l' : List Mv) : List (List Int) := if isM s e l = true ∧ isM s' e' l' = true then reach (nxF l l') else []
theorem pairsF_v (hl : l.length ≤ 1000000000000) (hl' : l'.length ≤ 1000000000000) : impl_FollowPairs.fv s e l s' e' l' = some (allF s e l s' e' l') := by
  rw [impl_FollowPairs.fv_eq, implIsM_v s e l hl, Option.bind_some, implIsM_v s' e' l' hl', Option.bind_some]
  unfold allF
  cases h : isM s e l with
  | false => simp
  | true =>
    cases h' : isM s' e' l' with
    | false => simp
    | true =>
      have h1 := reachF_l0 s e l s' e' l' h h' 37 0 [[0, 0]] first_ok (by omega) (by omega)
      rw [if_pos rfl, if_pos rfl, impl_reached_with_impl_FollowPairs_1.fv_eq, if_pos ⟨rfl, rfl⟩]
      rw [show ((0 : Nat) : Int) = 0 from rfl] at h1
      rw [h1]
      rfl
theorem allF_ok : okR (allF s e l s' e' l') := by
  unfold allF
  split
  · rename_i h
    exact reach_ok (nxF_fine s e l s' e' l' h.1 h.2)
  · exact ⟨List.nodup_nil, by simp⟩
end
end Go.Proofs.Ytldcchjbaglppaa.Plain

/- When a machine follows another one, told plainly. No program. No condition. -/
set_option linter.unusedSimpArgs false
set_option linter.unusedVariables false
namespace Go.Proofs.Ytldcchjbaglppaa.Plain
open Go.RowKit Go.Proofs.YtldcchjbaglppaaW.PrintWords Go.Proofs.Ytldcchjbaglppaa.Base Go.Proofs.Ytldcchjbaglppaa.Print

/-- What is asked of a pair of states where one machine follows another one. -/
def folAt (e : List Bool) (l : List Mv) (e' : List Bool) (l' : List Mv) (x y : Int) : Bool :=
  sub (msgs l' y false) (msgs l x false) && (sub (msgs l x true) (msgs l' y true) && ((decide (0 < (msgs l' y true).length) == decide (0 < (msgs l x true).length)) && (!(decide ((msgs l' y false).length = 0) && decide (0 < (msgs l x false).length)) && (endsAt e x || !(endsAt e' y)))))
def follows (a b : Mach) : Bool := isMa a && (isMa b && (allF a.f0 a.f1 a.f2 b.f0 b.f1 b.f2).all fun p => folAt a.f1 a.f2 b.f1 b.f2 (px p) (py p))
end Go.Proofs.Ytldcchjbaglppaa.Plain

/- PairsOf, of the program. Condition: machines of at most 12 moves, no two of which clash. -/
set_option linter.unusedSimpArgs false
set_option linter.unusedVariables false
namespace Go.Proofs.Ytldcchjbaglppaa.Plain
open Go.RowKit Go.Proofs.YtldcchjbaglppaaW.PrintWords Go.Proofs.Ytldcchjbaglppaa.Base Go.Proofs.Ytldcchjbaglppaa.Print

section
variable (s : Int) (e : List Bool) (l : List Mv) (s' : Int) (e' : List Bool) (l' : List Mv)
theorem nextS_l1 (hl : l.length ≤ 1000000000000) (hl' : l'.length ≤ 1000000000000) (x y : Int) (b : Bool) (q : List Bool) (n i : Int) (suf : List Int) : ∀ (pre : List Int) (out : List (List Int)), (pre ++ suf).length ≤ 1000000000000 → out.length + suf.length ≤ 1000000000000 →
    impl_NextPairs.l1v x y out b q n i (pre ++ suf) ((pre ++ suf).length : Int) (pre.length : Int) s e l s' e' l' = impl_NextPairs.l0v x y (out ++ steps l l' x y b (!b) suf) q n (wrap64 (i + 1)) s e l s' e' l' := by
  induction suf with
  | nil =>
    intro pre out _ _
    rw [impl_NextPairs.l1v_eq, if_neg (nlt_end pre)]
    simp [steps]
  | cons g suf ih =>
    intro pre out hp ho
    have hn : pre.length < (pre ++ g :: suf).length := by simp
    rw [List.length_cons] at ho
    rw [impl_NextPairs.l1v_eq, if_pos (lt_mid pre suf g), if_pos (by omega), if_pos (lt_mid pre suf g), rd_mid, implMvOf_v s e l x b g hl, Option.bind_some, implMvOf_v s' e' l' y (!b) g hl', Option.bind_some, up_mid pre g hn hp]
    simp only [steps]
    rw [mid_snoc pre suf g] at hp ⊢
    by_cases h1 : 0 ≤ mvOf l x b g
    · by_cases h2 : 0 ≤ mvOf l' y (!b) g
      · have e1 := (mvOf_in h1).1
        have e2 := (mvOf_in h2).1
        rw [if_pos h1, if_pos h2, if_pos h1, if_pos e1, if_pos h2, if_pos e2, if_pos (by omega), ih (pre ++ [g]) _ hp (by simp; omega), if_pos ⟨h1, h2⟩]
        simp
      · rw [if_pos h1, if_neg h2, ih (pre ++ [g]) _ hp (by omega), if_neg (fun h => h2 h.2)]
    · rw [if_neg h1, ih (pre ++ [g]) _ hp (by omega), if_neg (fun h => h1 h.1)]
/-- Where two machines go from two states. -/
def nxS (l l' : List Mv) (x y : Int) : List (List Int) := steps l l' x y true false (msgs l x true) ++ steps l l' x y false true (msgs l' y true)
theorem nextS_v (hl : l.length ≤ 12) (hp : l.Pairwise (fun o m => clash o m = false)) (hl' : l'.length ≤ 12) (hp' : l'.Pairwise (fun o m => clash o m = false)) (x y : Int) :
    impl_NextPairs.fv s e l s' e' l' x y = some (nxS l l' x y) := by
  have m1 := msgs_len l x true
  have m2 := msgs_len l' y true
  have st1 := steps_len l l' x y true false (msgs l x true)
  have r1 : rdOf false [true, false] 0 = true := rfl
  have r2 : rdOf false [true, false] 1 = false := rfl
  have w1 : wrap64 ((0 : Int) + 1) = 1 := w64 (by omega) (by omega)
  have w2 : wrap64 ((1 : Int) + 1) = 2 := w64 (by omega) (by omega)
  have a1 := nextS_l1 s e l s' e' l' (by omega) (by omega) x y true [true, false] 2 0 (msgs l x true) [] [] (by simp; omega) (by simp; omega)
  have a2 := nextS_l1 s e l s' e' l' (by omega) (by omega) x y false [true, false] 2 1 (msgs l' y true) [] (steps l l' x y true false (msgs l x true)) (by simp; omega) (by omega)
  simp only [List.nil_append, List.length_nil, Int.natCast_zero, Bool.not_true, Bool.not_false] at a1 a2
  rw [w1] at a1
  rw [w2] at a2
  rw [impl_NextPairs.fv_eq, Option.bind_some, show (([true, false] : List Bool).length : Int) = 2 from rfl]
  rw [impl_NextPairs.l0v_eq, if_pos (by decide), if_pos (by decide), if_pos (by decide), implMsgs_v s e l x true hl hp, Option.bind_some, r1, if_pos rfl, impl_NextPairs.j1v_eq, a1]
  rw [impl_NextPairs.l0v_eq, if_pos (by decide), if_pos (by decide), if_pos (by decide), implMsgs_v s e l x true hl hp, Option.bind_some, r2, if_neg (by decide), implMsgs_v s' e' l' y true hl' hp', Option.bind_some, impl_NextPairs.j1v_eq, a2]
  rw [impl_NextPairs.l0v_eq, if_neg (by decide)]
  rfl
theorem nxS_fine (h : isM s e l = true) (h' : isM s' e' l' = true) : fine (nxS l l') := by
  intro x y p hp
  obtain ⟨a1, _, _, _, _, a2⟩ := isM_all h
  obtain ⟨b1, _, _, _, _, b2⟩ := isM_all h'
  rcases List.mem_append.1 hp with hp | hp
  · exact steps_pt a1 a2 b1 b2 p hp
  · exact steps_pt a1 a2 b1 b2 p hp
theorem reachS_l1 (i : Int) (suf : List (List Int)) : ∀ (pre o : List (List Int)), (pre ++ suf).length ≤ 1000000000000 → okR o → (∀ p ∈ suf, isPt p) →
    impl_reached_with_impl_PairsOf_1.l1v o i (pre ++ suf) ((pre ++ suf).length : Int) (pre.length : Int) s e l s' e' l' = impl_reached_with_impl_PairsOf_1.l0v (adds o suf) (wrap64 (i + 1)) s e l s' e' l' := by
  induction suf with
  | nil =>
    intro pre o _ _ _
    rw [impl_reached_with_impl_PairsOf_1.l1v_eq, if_neg (nlt_end pre)]
    rfl
  | cons p suf ih =>
    intro pre o hl ho hs
    have hn : pre.length < (pre ++ p :: suf).length := by simp
    have h36 := okR_len ho
    have hp := hs p List.mem_cons_self
    rw [impl_reached_with_impl_PairsOf_1.l1v_eq, if_pos (lt_mid pre suf p), if_pos (by omega), if_pos (lt_mid pre suf p), rdL1_mid, implHasP_v o p (by omega) (okR_rows ho), Option.bind_some, up_mid pre p hn hl]
    rw [mid_snoc pre suf p] at hl ⊢
    show _ = impl_reached_with_impl_PairsOf_1.l0v (adds (addP o p) suf) (wrap64 (i + 1)) s e l s' e' l'
    unfold addP
    by_cases h : p ∈ o
    · rw [if_pos (by simp [h]), if_pos h, ih (pre ++ [p]) o hl ho fun q hq => hs q (List.mem_cons_of_mem _ hq)]
    · have h2 : okR (o ++ [p]) := by
        have h3 := addP_ok ho hp
        rw [addP, if_neg h] at h3
        exact h3
      rw [if_neg (by simp [h]), if_neg h, if_pos (by omega), ih (pre ++ [p]) (o ++ [p]) hl h2 fun q hq => hs q (List.mem_cons_of_mem _ hq)]
theorem reachS_l0 (h : isM s e l = true) (h' : isM s' e' l' = true) (k : Nat) : ∀ (i : Nat) (o : List (List Int)), okR o → 37 ≤ i + k → i ≤ 37 → impl_reached_with_impl_PairsOf_1.l0v o (i : Int) s e l s' e' l' = some (reachT (nxS l l') k i o) := by
  obtain ⟨_, a1, a2, _, _, _⟩ := isM_all h
  obtain ⟨_, b1, b2, _, _, _⟩ := isM_all h'
  have hf := nxS_fine s e l s' e' l' h h'
  induction k with
  | zero =>
    intro i o ho hi _
    have h36 := okR_len ho
    rw [impl_reached_with_impl_PairsOf_1.l0v_eq, if_neg (by omega)]
    rfl
  | succ k ih =>
    intro i o ho hi hi2
    have h36 := okR_len ho
    unfold reachT
    by_cases hlt : i < o.length
    · obtain ⟨x, y, hxy, _⟩ := ho.2 _ (List.getElem_mem hlt)
      have hl2 : (rd_L3 o (i : Int)).length = 2 := by rw [rdL_at o i hlt, hxy]; rfl
      have hns := hf (px (rd_L3 o i)) (py (rd_L3 o i))
      have hnl : (nxS l l' (px (rd_L3 o i)) (py (rd_L3 o i))).length ≤ 1000000000000 := by
        have c1 := steps_len l l' (px (rd_L3 o i)) (py (rd_L3 o i)) true false (msgs l (px (rd_L3 o i)) true)
        have c2 := steps_len l l' (px (rd_L3 o i)) (py (rd_L3 o i)) false true (msgs l' (py (rd_L3 o i)) true)
        have c3 := msgs_len l (px (rd_L3 o i)) true
        have c4 := msgs_len l' (py (rd_L3 o i)) true
        unfold nxS
        rw [List.length_append]
        omega
      have h1 := reachS_l1 s e l s' e' l' (i : Int) (nxS l l' (px (rd_L3 o i)) (py (rd_L3 o i))) [] o (by simpa using hnl) ho hns
      simp only [List.nil_append, List.length_nil, Int.natCast_zero] at h1
      have h2 := ih (i + 1) (adds o (nxS l l' (px (rd_L3 o i)) (py (rd_L3 o i)))) (adds_ok ho hns) (by omega) (by omega)
      rw [impl_reached_with_impl_PairsOf_1.l0v_eq, if_pos (by omega), if_pos (by omega), if_pos (by omega), if_pos (by omega), impl_PairsOf_1.fv_eq, nextS_v s e l s' e' l' a2 a1 b2 b1, Option.bind_some, Option.bind_some, if_pos hlt]
      refine (h1.trans ?_)
      rw [w64 (by omega) (by omega), show (i : Int) + 1 = ((i + 1 : Nat) : Int) by omega]
      exact h2
    · rw [impl_reached_with_impl_PairsOf_1.l0v_eq, if_neg (by omega), if_neg hlt]
/-- All pairs, or none where one is no machine. -/
def allS (s : Int) (e : List Bool) (l : List Mv) (s' : Int) (e' : List Bool) (l' : List Mv) : List (List Int) := if isM s e l = true ∧ isM s' e' l' = true then reach (nxS l l') else []
theorem pairsS_v (hl : l.length ≤ 1000000000000) (hl' : l'.length ≤ 1000000000000) : impl_PairsOf.fv s e l s' e' l' = some (allS s e l s' e' l') := by
  rw [impl_PairsOf.fv_eq, implIsM_v s e l hl, Option.bind_some, implIsM_v s' e' l' hl', Option.bind_some]
  unfold allS
  cases h : isM s e l with
  | false => simp
  | true =>
    cases h' : isM s' e' l' with
    | false => simp
    | true =>
      have h1 := reachS_l0 s e l s' e' l' h h' 37 0 [[0, 0]] first_ok (by omega) (by omega)
      rw [if_pos rfl, if_pos rfl, impl_reached_with_impl_PairsOf_1.fv_eq, if_pos ⟨rfl, rfl⟩]
      rw [show ((0 : Nat) : Int) = 0 from rfl] at h1
      rw [h1]
      rfl
theorem allS_ok : okR (allS s e l s' e' l') := by
  unfold allS
  split
  · rename_i h
    exact reach_ok (nxS_fine s e l s' e' l' h.1 h.2)
  · exact ⟨List.nodup_nil, by simp⟩
end
end Go.Proofs.Ytldcchjbaglppaa.Plain

/- When two machines are safe, told plainly. No program. No condition. -/
set_option linter.unusedSimpArgs false
set_option linter.unusedVariables false
namespace Go.Proofs.Ytldcchjbaglppaa.Plain
open Go.RowKit Go.Proofs.YtldcchjbaglppaaW.PrintWords Go.Proofs.Ytldcchjbaglppaa.Base Go.Proofs.Ytldcchjbaglppaa.Print

/-- What is wrong at a pair of states: nothing, a message that is not read, or both wait. -/
def trouble (e : List Bool) (l : List Mv) (e' : List Bool) (l' : List Mv) (x y : Int) : Int :=
  if (!(sub (msgs l x true) (msgs l' y false)) || !(sub (msgs l' y true) (msgs l x false))) = true then 1
  else if (decide ((nxS l l' x y).length = 0) && !(endsAt e x && endsAt e' y)) = true then 2 else 0
def fineAt (e : List Bool) (l : List Mv) (e' : List Bool) (l' : List Mv) (x y : Int) : Bool := decide (trouble e l e' l' x y = 0)
def safe (a b : Mach) : Bool := isMa a && (isMa b && (allS a.f0 a.f1 a.f2 b.f0 b.f1 b.f2).all fun p => fineAt a.f1 a.f2 b.f1 b.f2 (px p) (py p))
end Go.Proofs.Ytldcchjbaglppaa.Plain

/- What follows from following: who is safe with a machine is safe with what follows it; following leads on; a machine follows itself. No program. No condition. -/
set_option linter.unusedSimpArgs false
set_option linter.unusedVariables false
namespace Go.Proofs.Ytldcchjbaglppaa.Plain
open Go.RowKit Go.Proofs.YtldcchjbaglppaaW.PrintWords Go.Proofs.Ytldcchjbaglppaa.Base Go.Proofs.Ytldcchjbaglppaa.Print

theorem sub_iff {a b : List Int} : sub a b = true ↔ ∀ g ∈ a, g ∈ b := by
  unfold sub mem
  simp
theorem folAt_iff {e e' : List Bool} {l l' : List Mv} {x y : Int} : folAt e l e' l' x y = true ↔
    (∀ g ∈ msgs l' y false, g ∈ msgs l x false) ∧ (∀ g ∈ msgs l x true, g ∈ msgs l' y true) ∧ (msgs l' y true = [] ↔ msgs l x true = []) ∧ (msgs l' y false = [] → msgs l x false = []) ∧ (endsAt e' y = true → endsAt e x = true) := by
  unfold folAt
  have p1 : ∀ q : List Int, decide (0 < q.length) = !(decide (q = [])) := fun q => by cases q <;> simp
  have p2 : ∀ q : List Int, decide (q.length = 0) = decide (q = []) := fun q => by cases q <;> simp
  rw [p1, p1, p1, p2, Bool.and_eq_true, Bool.and_eq_true, Bool.and_eq_true, Bool.and_eq_true, sub_iff, sub_iff]
  refine and_congr Iff.rfl (and_congr Iff.rfl (and_congr ?_ (and_congr ?_ ?_)))
  · by_cases h1 : msgs l' y true = [] <;> by_cases h2 : msgs l x true = [] <;> simp [h1, h2]
  · by_cases h1 : msgs l' y false = [] <;> by_cases h2 : msgs l x false = [] <;> simp [h1, h2]
  · cases endsAt e x <;> cases endsAt e' y <;> simp
theorem fineAt_iff {e e' : List Bool} {l l' : List Mv} {x y : Int} : fineAt e l e' l' x y = true ↔
    (∀ g ∈ msgs l x true, g ∈ msgs l' y false) ∧ (∀ g ∈ msgs l' y true, g ∈ msgs l x false) ∧ (nxS l l' x y = [] → endsAt e x = true ∧ endsAt e' y = true) := by
  unfold fineAt trouble
  have p2 : decide ((nxS l l' x y).length = 0) = decide (nxS l l' x y = []) := by cases nxS l l' x y <;> simp
  rw [p2, ← sub_iff, ← sub_iff]
  by_cases h : nxS l l' x y = [] <;> cases sub (msgs l x true) (msgs l' y false) <;> cases sub (msgs l' y true) (msgs l x false) <;> cases endsAt e x <;> cases endsAt e' y <;> simp [h]
theorem follows_iff {a b : Mach} : follows a b = true ↔ isMa a = true ∧ isMa b = true ∧ ∀ p ∈ reach (nxF a.f2 b.f2), folAt a.f1 a.f2 b.f1 b.f2 (px p) (py p) = true := by
  unfold follows allF
  rw [Bool.and_eq_true, Bool.and_eq_true]
  refine and_congr_right fun h1 => and_congr_right fun h2 => ?_
  rw [if_pos ⟨h1, h2⟩, List.all_eq_true]
theorem safe_iff {a b : Mach} : safe a b = true ↔ isMa a = true ∧ isMa b = true ∧ ∀ p ∈ reach (nxS a.f2 b.f2), fineAt a.f1 a.f2 b.f1 b.f2 (px p) (py p) = true := by
  unfold safe allS
  rw [Bool.and_eq_true, Bool.and_eq_true]
  refine and_congr_right fun h1 => and_congr_right fun h2 => ?_
  rw [if_pos ⟨h1, h2⟩, List.all_eq_true]
/-- Where a move leads. -/
def toOf (l : List Mv) (x : Int) (b : Bool) (g : Int) : Int := (rd_T78 l (mvOf l x b g)).f3
theorem nxF_mem {l l' : List Mv} {x y : Int} {p : List Int} : p ∈ nxF l l' x y ↔ ∃ b g, g ∈ msgs l x b ∧ g ∈ msgs l' y b ∧ p = [toOf l x b g, toOf l' y b g] := by
  unfold nxF
  rw [List.mem_append, steps_mem, steps_mem]
  constructor
  · rintro (⟨g, _, h1, h2, h3⟩ | ⟨g, _, h1, h2, h3⟩)
    · exact ⟨true, g, msgs_iff.2 h1, msgs_iff.2 h2, h3⟩
    · exact ⟨false, g, msgs_iff.2 h1, msgs_iff.2 h2, h3⟩
  · rintro ⟨b, g, h1, h2, h3⟩
    cases b
    · exact .inr ⟨g, h2, msgs_iff.1 h1, msgs_iff.1 h2, h3⟩
    · exact .inl ⟨g, h1, msgs_iff.1 h1, msgs_iff.1 h2, h3⟩
theorem nxS_mem {l l' : List Mv} {x y : Int} {p : List Int} : p ∈ nxS l l' x y ↔ ∃ b g, g ∈ msgs l x b ∧ g ∈ msgs l' y (!b) ∧ p = [toOf l x b g, toOf l' y (!b) g] := by
  unfold nxS
  rw [List.mem_append, steps_mem, steps_mem]
  constructor
  · rintro (⟨g, _, h1, h2, h3⟩ | ⟨g, _, h1, h2, h3⟩)
    · exact ⟨true, g, msgs_iff.2 h1, msgs_iff.2 h2, h3⟩
    · exact ⟨false, g, msgs_iff.2 h1, msgs_iff.2 h2, h3⟩
  · rintro ⟨b, g, h1, h2, h3⟩
    cases b
    · exact .inr ⟨g, h2, msgs_iff.1 h1, msgs_iff.1 h2, h3⟩
    · exact .inl ⟨g, h1, msgs_iff.1 h1, msgs_iff.1 h2, h3⟩
theorem px_two (x y : Int) : px [x, y] = x := rfl
theorem py_two (x y : Int) : py [x, y] = y := rfl
theorem reach_stepF {a b : Mach} (ha : isMa a = true) (hb : isMa b = true) {x y : Int} (h : [x, y] ∈ reach (nxF a.f2 b.f2)) {d : Bool} {g : Int} (h1 : g ∈ msgs a.f2 x d) (h2 : g ∈ msgs b.f2 y d) : [toOf a.f2 x d g, toOf b.f2 y d g] ∈ reach (nxF a.f2 b.f2) :=
  reach_closed (nxF_fine _ _ _ _ _ _ ha hb) h (nxF_mem.2 ⟨d, g, h1, h2, rfl⟩)
theorem reach_stepS {a b : Mach} (ha : isMa a = true) (hb : isMa b = true) {x y : Int} (h : [x, y] ∈ reach (nxS a.f2 b.f2)) {d : Bool} {g : Int} (h1 : g ∈ msgs a.f2 x d) (h2 : g ∈ msgs b.f2 y (!d)) : [toOf a.f2 x d g, toOf b.f2 y (!d) g] ∈ reach (nxS a.f2 b.f2) :=
  reach_closed (nxS_fine _ _ _ _ _ _ ha hb) h (nxS_mem.2 ⟨d, g, h1, h2, rfl⟩)
/-- Who is safe with a machine is safe with what follows it. -/
theorem safe_on {n o p : Mach} (hf : follows n o = true) (hs : safe o p = true) : safe n p = true := by
  obtain ⟨hn, ho, hF⟩ := follows_iff.1 hf
  obtain ⟨_, hp, hS⟩ := safe_iff.1 hs
  have inv : ∀ q ∈ reach (nxS n.f2 p.f2), ∃ x y z, q = [x, z] ∧ [x, y] ∈ reach (nxF n.f2 o.f2) ∧ [y, z] ∈ reach (nxS o.f2 p.f2) := by
    intro q hq
    refine reach_ind (R := fun q => ∃ x y z, q = [x, z] ∧ [x, y] ∈ reach (nxF n.f2 o.f2) ∧ [y, z] ∈ reach (nxS o.f2 p.f2)) ⟨0, 0, 0, rfl, reach_first _, reach_first _⟩ ?_ hq
    rintro _ ⟨x, y, z, rfl, h1, h2⟩ q hq
    rw [px_two, py_two] at hq
    obtain ⟨d, g, k1, k2, rfl⟩ := nxS_mem.1 hq
    have f1 := folAt_iff.1 (hF _ h1)
    have f2 := fineAt_iff.1 (hS _ h2)
    rw [px_two, py_two] at f1 f2
    have k3 : g ∈ msgs o.f2 y d := by
      cases d
      · exact f2.2.1 g k2
      · exact f1.2.1 g k1
    exact ⟨_, _, _, rfl, reach_stepF hn ho h1 k1 k3, reach_stepS ho hp h2 k3 k2⟩
  refine safe_iff.2 ⟨hn, hp, fun q hq => ?_⟩
  obtain ⟨x, y, z, rfl, h1, h2⟩ := inv q hq
  have f1 := folAt_iff.1 (hF _ h1)
  have f2 := fineAt_iff.1 (hS _ h2)
  rw [px_two, py_two] at f1 f2 ⊢
  refine fineAt_iff.2 ⟨fun g hg => f2.1 g (f1.2.1 g hg), fun g hg => f1.1 g (f2.2.1 g hg), fun h0 => ?_⟩
  have e1 : msgs n.f2 x true = [] := by
    rcases hm : msgs n.f2 x true with _ | ⟨g, r⟩
    · rfl
    · have hg : g ∈ msgs n.f2 x true := by rw [hm]; exact List.mem_cons_self
      have := nxS_mem.2 ⟨true, g, hg, f2.1 g (f1.2.1 g hg), rfl⟩
      rw [h0] at this
      cases this
  have e2 : msgs p.f2 z true = [] := by
    rcases hm : msgs p.f2 z true with _ | ⟨g, r⟩
    · rfl
    · have hg : g ∈ msgs p.f2 z true := by rw [hm]; exact List.mem_cons_self
      have := nxS_mem.2 ⟨false, g, f1.1 g (f2.2.1 g hg), hg, rfl⟩
      rw [h0] at this
      cases this
  have e3 := f1.2.2.1.2 e1
  have e4 : nxS o.f2 p.f2 y z = [] := by
    unfold nxS
    rw [e3, e2]
    rfl
  have := f2.2.2 e4
  exact ⟨f1.2.2.2.2 this.1, this.2⟩
/-- What follows a machine that follows another one follows that one, too. -/
theorem follows_trans {a b c : Mach} (h : follows a b = true) (k : follows b c = true) : follows a c = true := by
  obtain ⟨ha, hb, hF⟩ := follows_iff.1 h
  obtain ⟨_, hc, hG⟩ := follows_iff.1 k
  have inv : ∀ q ∈ reach (nxF a.f2 c.f2), ∃ x y z, q = [x, z] ∧ [x, y] ∈ reach (nxF a.f2 b.f2) ∧ [y, z] ∈ reach (nxF b.f2 c.f2) := by
    intro q hq
    refine reach_ind (R := fun q => ∃ x y z, q = [x, z] ∧ [x, y] ∈ reach (nxF a.f2 b.f2) ∧ [y, z] ∈ reach (nxF b.f2 c.f2)) ⟨0, 0, 0, rfl, reach_first _, reach_first _⟩ ?_ hq
    rintro _ ⟨x, y, z, rfl, h1, h2⟩ q hq
    rw [px_two, py_two] at hq
    obtain ⟨d, g, k1, k2, rfl⟩ := nxF_mem.1 hq
    have f1 := folAt_iff.1 (hF _ h1)
    have f2 := folAt_iff.1 (hG _ h2)
    rw [px_two, py_two] at f1 f2
    have k3 : g ∈ msgs b.f2 y d := by
      cases d
      · exact f2.1 g k2
      · exact f1.2.1 g k1
    exact ⟨_, _, _, rfl, reach_stepF ha hb h1 k1 k3, reach_stepF hb hc h2 k3 k2⟩
  refine follows_iff.2 ⟨ha, hc, fun q hq => ?_⟩
  obtain ⟨x, y, z, rfl, h1, h2⟩ := inv q hq
  have f1 := folAt_iff.1 (hF _ h1)
  have f2 := folAt_iff.1 (hG _ h2)
  rw [px_two, py_two] at f1 f2 ⊢
  exact folAt_iff.2 ⟨fun g hg => f1.1 g (f2.1 g hg), fun g hg => f2.2.1 g (f1.2.1 g hg), f2.2.2.1.trans f1.2.2.1, fun h0 => f1.2.2.2.1 (f2.2.2.2.1 h0), fun h0 => f1.2.2.2.2 (f2.2.2.2.2 h0)⟩
/-- A machine follows itself. -/
theorem follows_refl {a : Mach} (ha : isMa a = true) : follows a a = true := by
  refine follows_iff.2 ⟨ha, ha, fun q hq => ?_⟩
  have inv : ∃ x, q = [x, x] := by
    refine reach_ind (R := fun q => ∃ x, q = [x, x]) ⟨0, rfl⟩ ?_ hq
    rintro _ ⟨x, rfl⟩ q hq
    rw [px_two, py_two] at hq
    obtain ⟨d, g, _, _, rfl⟩ := nxF_mem.1 hq
    exact ⟨_, rfl⟩
  obtain ⟨x, rfl⟩ := inv
  rw [px_two, py_two]
  exact folAt_iff.2 ⟨fun _ h => h, fun _ h => h, Iff.rfl, fun h => h, fun h => h⟩
theorem follows_ma {a b : Mach} (h : follows a b = true) : isMa a = true := (follows_iff.1 h).1
/-- Each machine of a line follows the one before it. -/
def chainT (p : Mach) : List Mach → Bool
  | [] => true
  | x :: l => follows x p && chainT x l
def chainF : List Mach → Bool
  | [] => false
  | p :: l => chainT p l && isMa p
theorem chainT_follows {p : Mach} {l : List Mach} (h : chainT p l = true) : ∀ x ∈ l, follows x p = true := by
  induction l generalizing p with
  | nil => intro x hx; cases hx
  | cons y l ih =>
    simp only [chainT, Bool.and_eq_true] at h
    intro x hx
    rcases List.mem_cons.1 hx with rfl | hx
    · exact h.1
    · exact follows_trans (ih h.2 x hx) h.1
theorem chainF_far {l : List Mach} (h : chainF l = true) : ∀ (i j : Nat) (hj : j < l.length) (hij : i ≤ j), follows l[j] (l[i]'(Nat.lt_of_le_of_lt hij hj)) = true := by
  induction l with
  | nil => intro i j hj; simp at hj
  | cons p l ih =>
    simp only [chainF, Bool.and_eq_true] at h
    intro i j hj hij
    cases i with
    | zero =>
      cases j with
      | zero => exact follows_refl h.2
      | succ j => exact chainT_follows h.1 _ (List.getElem_mem _)
    | succ i =>
      cases j with
      | zero => omega
      | succ j =>
        cases l with
        | nil => simp at hj
        | cons q l =>
          simp only [chainT, Bool.and_eq_true] at h
          refine ih ?_ i j (by simpa using hj) (by omega)
          simp only [chainF, Bool.and_eq_true]
          exact ⟨h.1.2, follows_ma h.1.1⟩
end Go.Proofs.Ytldcchjbaglppaa.Plain

/- FollowsAt and Follows, of the program. Condition: at most 10 to the 12 of each. -/
set_option linter.unusedSimpArgs false
set_option linter.unusedVariables false
namespace Go.Proofs.Ytldcchjbaglppaa.Plain
open Go.RowKit Go.Proofs.YtldcchjbaglppaaW.PrintWords Go.Proofs.Ytldcchjbaglppaa.Base Go.Proofs.Ytldcchjbaglppaa.Print

section
variable (s : Int) (e : List Bool) (l : List Mv) (s' : Int) (e' : List Bool) (l' : List Mv)
theorem implFolAt_j1 (he : e.length ≤ 1000000000000) (he' : e'.length ≤ 1000000000000) (x y : Int) (q : Bool) : impl_FollowsAt.j1v x y q s e l s' e' l' = some (!q && (endsAt e x || !(endsAt e' y))) := by
  rw [impl_FollowsAt.j1v_eq, implEnd_f s e l x he, Option.bind_some, implEnd_f s' e' l' y he', Option.bind_some]
  cases q <;> cases endsAt e x <;> cases endsAt e' y <;> rfl
theorem implFolAt_v (h : isM s e l = true) (h' : isM s' e' l' = true) (x y : Int) : impl_FollowsAt.fv s e l s' e' l' x y = some (folAt e l e' l' x y) := by
  obtain ⟨_, a1, a2, a3, _, _⟩ := isM_all h
  obtain ⟨_, b1, b2, b3, _, _⟩ := isM_all h'
  have he : e.length ≤ 1000000000000 := by
    have := isM_all h
    omega
  have he' : e'.length ≤ 1000000000000 := by
    have := isM_all h'
    omega
  have m1 := msgs_len l x true
  have m2 := msgs_len l x false
  have m3 := msgs_len l' y true
  have m4 := msgs_len l' y false
  have hj := implFolAt_j1 s e l s' e' l' he he' x y
  rw [impl_FollowsAt.fv_eq, implMsgs_v s e l x true a2 a1, Option.bind_some, implMsgs_v s e l x false a2 a1, Option.bind_some, implMsgs_v s' e' l' y true b2 b1, Option.bind_some, implMsgs_v s' e' l' y false b2 b1, Option.bind_some, implWo_v (msgs l' y false) (msgs l x false) (by omega) (by omega), Option.bind_some, implWo_v (msgs l x true) (msgs l' y true) (by omega) (by omega), Option.bind_some]
  simp only [impl_FollowsAt.j0v_eq, hj, folAt]
  have p1 := wo_pos (msgs l' y false) (msgs l x false)
  have p2 := wo_pos (msgs l x true) (msgs l' y true)
  rw [p2]
  generalize (endsAt e x || !(endsAt e' y)) = q
  generalize sub (msgs l' y false) (msgs l x false) = s1 at p1
  generalize sub (msgs l x true) (msgs l' y true) = s2
  cases s1 with
  | false =>
    rw [if_pos (of_decide_eq_true (by simpa using p1))]
    rfl
  | true =>
    rw [if_neg (of_decide_eq_false (by simpa using p1))]
    cases s2 with
    | false => rfl
    | true =>
      rw [if_neg (by decide)]
      by_cases c1 : (msgs l' y true).length = 0
      · rw [if_neg (by omega)]
        by_cases c2 : (msgs l x true).length = 0
        · rw [if_neg (by omega)]
          by_cases c3 : (msgs l' y false).length = 0
          · rw [if_pos (by omega)]
            by_cases c4 : (msgs l x false).length = 0
            · simp [c1, c2, c3, c4]
            · simp [c1, c2, c3, c4, Nat.pos_of_ne_zero c4]
          · rw [if_neg (by omega)]
            simp [c1, c2, c3]
        · rw [if_pos (by omega)]
          simp [c1, Nat.pos_of_ne_zero c2]
      · rw [if_pos (by omega)]
        by_cases c2 : (msgs l x true).length = 0
        · rw [if_neg (by omega)]
          simp [c2, Nat.pos_of_ne_zero c1]
        · rw [if_pos (by omega)]
          by_cases c3 : (msgs l' y false).length = 0
          · rw [if_pos (by omega)]
            by_cases c4 : (msgs l x false).length = 0
            · simp [Nat.pos_of_ne_zero c1, Nat.pos_of_ne_zero c2, c3, c4]
            · simp [Nat.pos_of_ne_zero c1, Nat.pos_of_ne_zero c2, c3, Nat.pos_of_ne_zero c4]
          · rw [if_neg (by omega)]
            simp [Nat.pos_of_ne_zero c1, Nat.pos_of_ne_zero c2, c3]
theorem implFol_l0 (h : isM s e l = true) (h' : isM s' e' l' = true) (suf : List (List Int)) : ∀ (pre : List (List Int)), (pre ++ suf).length ≤ 1000000000000 → (∀ p ∈ suf, isPt p) →
    impl_Follows.l0v (pre ++ suf) ((pre ++ suf).length : Int) (pre.length : Int) s e l s' e' l' = some (suf.all fun p => folAt e l e' l' (px p) (py p)) := by
  induction suf with
  | nil =>
    intro pre _ _
    rw [impl_Follows.l0v_eq, if_neg (nlt_end pre)]
    rfl
  | cons p suf ih =>
    intro pre hl hs
    have hn : pre.length < (pre ++ p :: suf).length := by simp
    have hp2 := pt_at hs List.mem_cons_self
    rw [impl_Follows.l0v_eq, if_pos (lt_mid pre suf p), if_pos (by omega), if_pos (lt_mid pre suf p), rdL1_mid, if_pos (by omega), if_pos (by omega), implFolAt_v s e l s' e' l' h h', Option.bind_some, up_mid pre p hn hl]
    rw [mid_snoc pre suf p] at hl ⊢
    rw [ih (pre ++ [p]) hl fun q hq => hs q (List.mem_cons_of_mem _ hq), List.all_cons]
    show (if folAt e l e' l' (px p) (py p) = true then _ else _) = _
    cases folAt e l e' l' (px p) (py p) <;> rfl
end
theorem implFol_v (a b : Mach) (ha : okM a) (hb : okM b) : impl_Follows.fv a.f0 a.f1 a.f2 b.f0 b.f1 b.f2 = some (follows a b) := by
  rw [impl_Follows.fv_eq, implIsM_v a.f0 a.f1 a.f2 ha.2, Option.bind_some, implIsM_v b.f0 b.f1 b.f2 hb.2, Option.bind_some]
  unfold follows isMa
  cases h : isM a.f0 a.f1 a.f2 with
  | false =>
    rw [if_neg (by simp), impl_Follows.j0v_eq, if_pos rfl]
    rfl
  | true =>
    rw [if_pos rfl, impl_Follows.j0v_eq]
    cases h' : isM b.f0 b.f1 b.f2 with
    | false =>
      rw [if_pos (by decide)]
      rfl
    | true =>
      have ho := allF_ok a.f0 a.f1 a.f2 b.f0 b.f1 b.f2
      have h36 := okR_len ho
      have h1 := implFol_l0 a.f0 a.f1 a.f2 b.f0 b.f1 b.f2 h h' (allF a.f0 a.f1 a.f2 b.f0 b.f1 b.f2) [] (by simp; omega) ho.2
      simp only [List.nil_append, List.length_nil, Int.natCast_zero] at h1
      rw [if_neg (by simp), pairsF_v a.f0 a.f1 a.f2 b.f0 b.f1 b.f2 ha.2 hb.2, Option.bind_some, h1]
      rfl
end Go.Proofs.Ytldcchjbaglppaa.Plain

/- Lines of machines: BreaksAt, of both sides. Condition: at most 10 to the 12 of each. -/

set_option linter.unusedSimpArgs false
set_option linter.unusedVariables false
namespace Go.Proofs.Ytldcchjbaglppaa.Plain
open Go.RowKit Go.Proofs.YtldcchjbaglppaaW.PrintWords Go.Proofs.Ytldcchjbaglppaa.Base Go.Proofs.Ytldcchjbaglppaa.Print

/-- Where a line breaks, from a machine on. -/
def breaks (i : Int) (p : Mach) : List Mach → Int
  | [] => -1
  | x :: l => if follows x p = true then breaks (i + 1) x l else i
def breaksAt : List Mach → Int
  | [] => -1
  | p :: l => breaks 1 p l
theorem rdMach_two (pre suf : List Mach) (p : Mach) : rd_T34 (pre ++ p :: suf) (pre.length : Int) = p := rdMach_mid pre suf p
theorem implBr_l0 (suf : List Mach) : ∀ (pre : List Mach) (p : Mach), (pre ++ p :: suf).length ≤ 1000000000000 → okM p → (∀ x ∈ suf, okM x) → impl_BreaksAt.l0v (pre ++ p :: suf) ((pre.length + 1 : Nat) : Int) = some (breaks ((pre.length + 1 : Nat) : Int) p suf) := by
  induction suf with
  | nil =>
    intro pre p _ _ _
    rw [impl_BreaksAt.l0v_eq, if_neg (by simp)]
    rfl
  | cons x suf ih =>
    intro pre p hl hp hs
    have hx := hs x List.mem_cons_self
    have hl2 : pre.length < 1000000000000 := by rw [List.length_append, List.length_cons] at hl; omega
    have e0 : ((pre.length + 1 : Nat) : Int) = ((pre ++ [p]).length : Int) := by simp
    have e3 : pre ++ p :: x :: suf = (pre ++ [p]) ++ x :: suf := by simp
    have r1 : rd_T34 (pre ++ p :: x :: suf) ((pre.length + 1 : Nat) : Int) = x := by rw [e0, e3]; exact rdMach_mid (pre ++ [p]) suf x
    have r2 : rd_T34 (pre ++ p :: x :: suf) (pre.length : Int) = p := rdMach_mid pre (x :: suf) p
    have h2 := ih (pre ++ [p]) x (by rw [← e3]; exact hl) hx (fun y hy => hs y (List.mem_cons_of_mem _ hy))
    have e5 : (((pre ++ [p]).length + 1 : Nat) : Int) = ((pre.length + 1 : Nat) : Int) + 1 := by rw [List.length_append]; rfl
    rw [← e3, e5] at h2
    have hn : ((pre.length + 1 : Nat) : Int) < ((pre ++ p :: x :: suf).length : Int) := by simp; omega
    rw [impl_BreaksAt.l0v_eq, if_pos hn, if_pos (by omega), w64 (x := ((pre.length + 1 : Nat) : Int) - 1) (by omega) (by omega), show ((pre.length + 1 : Nat) : Int) - 1 = (pre.length : Int) by omega, if_pos (by omega), if_pos (by omega), r1, r2, implFol_v x p hx hp, Option.bind_some, w64 (by omega) (by omega), h2]
    simp only [breaks]
    cases follows x p <;> rfl
theorem implBr_v (l : List Mach) (hl : l.length ≤ 1000000000000) (hs : ∀ x ∈ l, okM x) : impl_BreaksAt.fv l = some (breaksAt l) := by
  rw [impl_BreaksAt.fv_eq]
  cases l with
  | nil =>
    rw [impl_BreaksAt.l0v_eq, if_neg (by simp)]
    rfl
  | cons p l => exact implBr_l0 l [] p (by simpa using hl) (hs p List.mem_cons_self) (fun x hx => hs x (List.mem_cons_of_mem _ hx))
end Go.Proofs.Ytldcchjbaglppaa.Plain

/- TroubleAt, FirstTrouble and IsSafe, of the program. Condition: at most 10 to the 12 of each. -/
set_option linter.unusedSimpArgs false
set_option linter.unusedVariables false
namespace Go.Proofs.Ytldcchjbaglppaa.Plain
open Go.RowKit Go.Proofs.YtldcchjbaglppaaW.PrintWords Go.Proofs.Ytldcchjbaglppaa.Base Go.Proofs.Ytldcchjbaglppaa.Print

section
variable (s : Int) (e : List Bool) (l : List Mv) (s' : Int) (e' : List Bool) (l' : List Mv)
theorem implTr_v (h : isM s e l = true) (h' : isM s' e' l' = true) (x y : Int) : impl_TroubleAt.fv s e l s' e' l' x y = some (trouble e l e' l' x y) := by
  obtain ⟨_, a1, a2, a3, _, _⟩ := isM_all h
  obtain ⟨_, b1, b2, b3, _, _⟩ := isM_all h'
  have he : e.length ≤ 1000000000000 := by
    have := isM_all h
    omega
  have he' : e'.length ≤ 1000000000000 := by
    have := isM_all h'
    omega
  have m1 := msgs_len l x true
  have m2 := msgs_len l x false
  have m3 := msgs_len l' y true
  have m4 := msgs_len l' y false
  rw [impl_TroubleAt.fv_eq, implMsgs_v s e l x true a2 a1, Option.bind_some, implMsgs_v s' e' l' y false b2 b1, Option.bind_some, implWo_v (msgs l x true) (msgs l' y false) (by omega) (by omega), Option.bind_some, implMsgs_v s' e' l' y true b2 b1, Option.bind_some, implMsgs_v s e l x false a2 a1, Option.bind_some, implWo_v (msgs l' y true) (msgs l x false) (by omega) (by omega), Option.bind_some]
  simp only [impl_TroubleAt.j0v_eq, nextS_v s e l s' e' l' a2 a1 b2 b1, Option.bind_some, implEnd_f s e l x he, implEnd_f s' e' l' y he', trouble]
  have p1 := wo_pos (msgs l x true) (msgs l' y false)
  have p2 := wo_pos (msgs l' y true) (msgs l x false)
  rw [p2]
  generalize sub (msgs l x true) (msgs l' y false) = s1 at p1
  generalize sub (msgs l' y true) (msgs l x false) = s2
  cases s1 with
  | false =>
    rw [if_pos (of_decide_eq_true (by simpa using p1))]
    rfl
  | true =>
    rw [if_neg (of_decide_eq_false (by simpa using p1))]
    cases s2 with
    | false => rfl
    | true =>
      by_cases c1 : (nxS l l' x y).length = 0
      · rw [if_neg (by decide), if_pos (by omega)]
        simp only [c1, decide_true, Bool.true_and]
        cases endsAt e x <;> cases endsAt e' y <;> rfl
      · rw [if_neg (by decide), if_neg (by omega)]
        simp [c1]
theorem implTr_l0 (h : isM s e l = true) (h' : isM s' e' l' = true) (suf : List (List Int)) : ∀ (pre : List (List Int)), (pre ++ suf).length ≤ 1000000000000 → (∀ p ∈ suf, isPt p) →
    ∃ r, impl_FirstTrouble.l0v (pre ++ suf) ((pre ++ suf).length : Int) (pre.length : Int) s e l s' e' l' = some r ∧ ((r.length : Int) == 0) = suf.all fun p => fineAt e l e' l' (px p) (py p) := by
  induction suf with
  | nil =>
    intro pre _ _
    rw [impl_FirstTrouble.l0v_eq, if_neg (nlt_end pre)]
    exact ⟨[], rfl, rfl⟩
  | cons p suf ih =>
    intro pre hl hs
    have hn : pre.length < (pre ++ p :: suf).length := by simp
    have hp2 := pt_at hs List.mem_cons_self
    rw [impl_FirstTrouble.l0v_eq, if_pos (lt_mid pre suf p), if_pos (by omega), if_pos (lt_mid pre suf p), rdL1_mid, if_pos (by omega), if_pos (by omega), implTr_v s e l s' e' l' h h', Option.bind_some, up_mid pre p hn hl]
    rw [mid_snoc pre suf p] at hl ⊢
    obtain ⟨r, h1, h2⟩ := ih (pre ++ [p]) hl fun q hq => hs q (List.mem_cons_of_mem _ hq)
    rw [List.all_cons]
    by_cases c : trouble e l e' l' (px p) (py p) = 0
    · refine ⟨r, ?_, ?_⟩
      · rw [if_pos (by exact c)]
        exact h1
      · rw [h2]
        simp [fineAt, c]
    · refine ⟨p, ?_, ?_⟩
      · rw [if_neg (by exact c)]
      · simp [fineAt, c, hp2]
end
theorem implSafe_v (a b : Mach) (ha : okM a) (hb : okM b) : impl_IsSafe.fv a.f0 a.f1 a.f2 b.f0 b.f1 b.f2 = some (safe a b) := by
  rw [impl_IsSafe.fv_eq, implIsM_v a.f0 a.f1 a.f2 ha.2, Option.bind_some, implIsM_v b.f0 b.f1 b.f2 hb.2, Option.bind_some]
  unfold safe isMa
  cases h : isM a.f0 a.f1 a.f2 with
  | false => rfl
  | true =>
    cases h' : isM b.f0 b.f1 b.f2 with
    | false => rfl
    | true =>
      have ho := allS_ok a.f0 a.f1 a.f2 b.f0 b.f1 b.f2
      have h36 := okR_len ho
      obtain ⟨r, h1, h2⟩ := implTr_l0 a.f0 a.f1 a.f2 b.f0 b.f1 b.f2 h h' (allS a.f0 a.f1 a.f2 b.f0 b.f1 b.f2) [] (by simp; omega) ho.2
      simp only [List.nil_append, List.length_nil, Int.natCast_zero] at h1
      rw [if_pos rfl, if_pos rfl, impl_FirstTrouble.fv_eq, pairsS_v a.f0 a.f1 a.f2 b.f0 b.f1 b.f2 ha.2 hb.2, Option.bind_some, h1, Option.bind_some, h2]
      rfl
end Go.Proofs.Ytldcchjbaglppaa.Plain

/- WorksWith and LatestFor, of both sides. Condition: at most 10 to the 12 of each. -/

set_option linter.unusedSimpArgs false
set_option linter.unusedVariables false
namespace Go.Proofs.Ytldcchjbaglppaa.Plain
open Go.RowKit Go.Proofs.YtldcchjbaglppaaW.PrintWords Go.Proofs.Ytldcchjbaglppaa.Base Go.Proofs.Ytldcchjbaglppaa.Print

/-- Which machines of a line are safe with a peer. -/
def works (b : Mach) : Int → List Mach → List Int
  | _, [] => []
  | i, x :: l => if safe x b = true then i :: works b (i + 1) l else works b (i + 1) l
theorem works_len (b : Mach) (l : List Mach) : ∀ i : Int, (works b i l).length ≤ l.length := by
  induction l with
  | nil => exact fun _ => Nat.le_refl _
  | cons x l ih =>
    intro i
    have := ih (i + 1)
    simp only [works]
    split <;> simp only [List.length_cons] <;> omega
theorem implWorks_l0 (b : Mach) (hb : okM b) (suf : List Mach) : ∀ (pre : List Mach) (out : List Int), (pre ++ suf).length ≤ 1000000000000 → (∀ x ∈ suf, okM x) → out.length ≤ pre.length →
    impl_WorksWith.l0v out (pre ++ suf) ((pre ++ suf).length : Int) (pre.length : Int) b.f0 b.f1 b.f2 = some (out ++ works b (pre.length : Int) suf) := by
  induction suf with
  | nil =>
    intro pre out _ _ _
    rw [impl_WorksWith.l0v_eq, if_neg (nlt_end pre)]
    simp [works]
  | cons x suf ih =>
    intro pre out hl hs ho
    have hn : pre.length < (pre ++ x :: suf).length := by simp
    have hp : pre.length < 1000000000000 := by omega
    rw [impl_WorksWith.l0v_eq, if_pos (lt_mid pre suf x), if_pos (by omega), if_pos (lt_mid pre suf x), rdMach_mid, implSafe_v x b (hs x List.mem_cons_self) hb, Option.bind_some, up_mid pre x hn hl]
    simp only [works]
    have e1 : ((pre ++ [x]).length : Int) = (pre.length : Int) + 1 := by simp
    have hs' : ∀ y ∈ suf, okM y := fun y hy => hs y (List.mem_cons_of_mem _ hy)
    rw [mid_snoc pre suf x] at hl ⊢
    rw [← e1]
    cases safe x b with
    | true =>
      rw [if_pos rfl, if_pos rfl, if_pos (by omega), ih (pre ++ [x]) (out ++ [(pre.length : Int)]) hl hs' (by simp; omega)]
      simp
    | false => rw [if_neg (by simp), if_neg (by simp), ih (pre ++ [x]) out hl hs' (by simp; omega)]
theorem implWorks_v (l : List Mach) (b : Mach) (hl : l.length ≤ 1000000000000) (hs : ∀ x ∈ l, okM x) (hb : okM b) : impl_WorksWith.fv l b.f0 b.f1 b.f2 = some (works b 0 l) := by
  rw [impl_WorksWith.fv_eq]
  have h := implWorks_l0 b hb l [] [] (by simpa using hl) hs (by simp)
  simpa using h
/-- The last number of a list, or -1. -/
def lastOr (w : List Int) : Int := if w.length = 0 then -1 else rd w ((w.length : Int) - 1)
theorem implLatest_v (l : List Mach) (b : Mach) (hl : l.length ≤ 1000000000000) (hs : ∀ x ∈ l, okM x) (hb : okM b) : impl_LatestFor.fv l b.f0 b.f1 b.f2 = some (lastOr (works b 0 l)) := by
  have h := works_len b l 0
  rw [impl_LatestFor.fv_eq, implWorks_v l b hl hs hb, Option.bind_some, w64 (by omega) (by omega)]
  unfold lastOr
  by_cases c : (works b 0 l).length = 0
  · rw [if_pos (by omega), if_pos c]
  · rw [if_neg (by omega), if_neg c, if_pos (by omega), if_pos (by omega)]
end Go.Proofs.Ytldcchjbaglppaa.Plain

/- FarFollows, of both sides. Condition: at most 10 to the 12 of each. -/

set_option linter.unusedSimpArgs false
set_option linter.unusedVariables false
namespace Go.Proofs.Ytldcchjbaglppaa.Plain
open Go.RowKit Go.Proofs.YtldcchjbaglppaaW.PrintWords Go.Proofs.Ytldcchjbaglppaa.Base Go.Proofs.Ytldcchjbaglppaa.Print

theorem rdMach_in {l : List Mach} {i : Int} (h0 : 0 ≤ i) (h1 : i < (l.length : Int)) : rd_T34 l i ∈ l := by
  have h : i.toNat < l.length := by omega
  have e : rd_T34 l i = l[i.toNat] := by simp [rd_T34, h]
  rw [e]
  exact List.getElem_mem h
/-- Does a machine of a line follow an earlier one? -/
def far (l : List Mach) (i k : Int) : Bool := inR 0 k i && (decide (k < (l.length : Int)) && follows (rd_T34 l k) (rd_T34 l i))
theorem implFar_v (l : List Mach) (i k : Int) (hs : ∀ x ∈ l, okM x) : impl_FarFollows.fv l i k = some (far l i k) := by
  rw [impl_FarFollows.fv_eq, inRange_f, Option.bind_some]
  unfold far
  cases h : inR 0 k i with
  | false => rfl
  | true =>
    obtain ⟨h0, h1⟩ := inR_true.1 h
    rw [if_pos rfl]
    by_cases h2 : k < (l.length : Int)
    · rw [if_pos h2, if_pos (by omega), if_pos h0, if_pos (by omega), implFol_v _ _ (hs _ (rdMach_in (by omega) h2)) (hs _ (rdMach_in h0 (by omega))), Option.bind_some]
      simp [h2]
    · rw [if_neg h2]
      simp [h2]
end Go.Proofs.Ytldcchjbaglppaa.Plain

/- NextOnly, of both sides. Condition: at most 10 to the 12 of each. -/

set_option linter.unusedSimpArgs false
set_option linter.unusedVariables false
namespace Go.Proofs.Ytldcchjbaglppaa.Plain
open Go.RowKit Go.Proofs.YtldcchjbaglppaaW.PrintWords Go.Proofs.Ytldcchjbaglppaa.Base Go.Proofs.Ytldcchjbaglppaa.Print

/-- Is a machine safe with its own peer and with the one before it? -/
def near (x q : Mach) (pp : List Mach) : Bool := safe x q && (match pp.getLast? with | none => true | some r => safe x r)
/-- Is a machine not safe with one of the peers? -/
def fails (x : Mach) (ps : List Mach) : Bool := ps.any fun r => !(safe x r)
def nOnly : List Mach → Bool → List Mach → List Mach → Bool
  | pp, f, x :: l, q :: p => near x q pp && nOnly (pp ++ [q]) (f || fails x pp) l p
  | _, f, _, _ => f
def nextOnly (l p : List Mach) : Bool := decide (l.length = p.length) && (decide (2 ≤ l.length) && nOnly [] false l p)
theorem implNx_l1 (l : List Mach) (n i : Int) (x : Mach) (hx : okM x) (rest pb : List Mach) : ∀ (pa : List Mach) (f : Bool), (pa ++ pb).length ≤ 1000000000000 → (∀ r ∈ pb, okM r) →
    impl_NextOnly.l1v (pa ++ pb ++ rest) f l n i ((pa ++ pb).length : Int) (pa.length : Int) x.f0 x.f1 x.f2 = impl_NextOnly.l0v (pa ++ pb ++ rest) (f || fails x pb) l n (wrap64 (i + 1)) := by
  induction pb with
  | nil =>
    intro pa f _ _
    rw [impl_NextOnly.l1v_eq, if_neg (nlt_end pa)]
    simp [fails]
  | cons r pb ih =>
    intro pa f hl hs
    have hn : pa.length < (pa ++ r :: pb).length := by simp
    have h1 := ih (pa ++ [r]) (f || !(safe x r)) (by simpa using hl) (fun y hy => hs y (List.mem_cons_of_mem _ hy))
    rw [← mid_snoc pa pb r] at h1
    have e1 : pa ++ r :: pb ++ rest = pa ++ r :: (pb ++ rest) := by simp
    have hlt : (pa.length : Int) < ((pa ++ r :: pb ++ rest).length : Int) := by simp; omega
    have hr : rd_T34 (pa ++ r :: pb ++ rest) (pa.length : Int) = r := by rw [e1]; exact rdMach_mid pa (pb ++ rest) r
    have e2 : (f || !(safe x r) || fails x pb) = (f || fails x (r :: pb)) := by simp [fails, Bool.or_assoc]
    rw [impl_NextOnly.l1v_eq, if_pos (lt_mid pa pb r), up_mid pa r hn hl]
    cases f with
    | true =>
      rw [if_pos rfl]
      simp only [Bool.true_or] at h1 ⊢
      exact h1
    | false =>
      rw [if_neg (by simp), if_pos (by omega), if_pos hlt, hr, implSafe_v x r hx (hs r List.mem_cons_self), Option.bind_some]
      rw [e2] at h1
      simp only [Bool.false_or] at h1 ⊢
      exact h1
theorem implNx_l0 (suf : List Mach) : ∀ (pre pp sp : List Mach) (f : Bool), pp.length = pre.length → sp.length = suf.length → (pre ++ suf).length ≤ 1000000000000 → (∀ x ∈ suf, okM x) → (∀ x ∈ pp, okM x) → (∀ x ∈ sp, okM x) →
    impl_NextOnly.l0v (pp ++ sp) f (pre ++ suf) ((pre ++ suf).length : Int) (pre.length : Int) = some (nOnly pp f suf sp) := by
  induction suf with
  | nil =>
    intro pre pp sp f _ hr _ _ _ _
    rw [impl_NextOnly.l0v_eq, if_neg (nlt_end pre)]
    cases sp <;> rfl
  | cons x suf ih =>
    intro pre pp sp f hq hr hl hs hp hp2
    cases sp with
    | nil => simp at hr
    | cons q sp =>
      have hn : pre.length < (pre ++ x :: suf).length := by simp
      have hx := hs x List.mem_cons_self
      have hqo := hp2 q List.mem_cons_self
      have hlp : pp.length ≤ 1000000000000 := by omega
      have rq : rd_T34 (pp ++ q :: sp) (pre.length : Int) = q := by rw [← hq]; exact rdMach_mid pp sp q
      have lq : (pre.length : Int) < ((pp ++ q :: sp).length : Int) := by rw [← hq]; exact lt_mid pp sp q
      have h1 := implNx_l1 (pre ++ x :: suf) ((pre ++ x :: suf).length : Int) (pre.length : Int) x hx (q :: sp) pp [] f (by simpa using hlp) hp
      simp only [List.nil_append, List.length_nil, Int.natCast_zero] at h1
      rw [hq, up_mid pre x hn hl] at h1
      have h2 := ih (pre ++ [x]) (pp ++ [q]) sp (f || fails x pp) (by simp [hq]) (by simpa using hr) (by simpa using hl) (fun y hy => hs y (List.mem_cons_of_mem _ hy)) (fun y hy => (List.mem_append.1 hy).elim (hp y) (fun h => (List.mem_singleton.1 h) ▸ hqo)) (fun y hy => hp2 y (List.mem_cons_of_mem _ hy))
      rw [← mid_snoc pre suf x, ← mid_snoc pp sp q] at h2
      have hj : ∀ b : Bool, impl_NextOnly.j2v (pp ++ q :: sp) f (pre.length : Int) (pre ++ x :: suf) ((pre ++ x :: suf).length : Int) (pre.length : Int) b x.f0 x.f1 x.f2 = some (!b && nOnly (pp ++ [q]) (f || fails x pp) suf sp) := by
        intro b
        rw [impl_NextOnly.j2v_eq]
        cases b with
        | true => rfl
        | false =>
          rw [if_neg (by simp), h1, h2]
          rfl
      rw [impl_NextOnly.l0v_eq, if_pos (lt_mid pre suf x), if_pos (by omega), if_pos (lt_mid pre suf x), if_pos lq, rdMach_mid, rq, implSafe_v x q hx hqo, Option.bind_some]
      simp only [nOnly, near, hj]
      cases safe x q with
      | false => rfl
      | true =>
        rw [if_pos rfl]
        rcases List.eq_nil_or_concat pp with h | ⟨pp', r, h⟩
        · subst h
          simp only [List.length_nil] at hq
          rw [if_neg (by omega)]
          rfl
        · rw [List.concat_eq_append] at h
          subst h
          have hq' : pp'.length + 1 = pre.length := by simpa using hq
          have e1 : pp' ++ [r] ++ q :: sp = pp' ++ r :: (q :: sp) := by simp
          have rr : rd_T34 (pp' ++ [r] ++ q :: sp) ((pre.length : Int) - 1) = r := by
            rw [e1, show (pre.length : Int) - 1 = (pp'.length : Int) by omega]
            exact rdMach_mid pp' (q :: sp) r
          rw [if_pos (by omega), w64 (by omega) (by omega), if_pos (by omega), if_pos (by simp; omega), rr, implSafe_v x r hx (hp r (by simp)), Option.bind_some]
          simp
theorem implNx_v (l p : List Mach) (hl : l.length ≤ 1000000000000) (hs : ∀ x ∈ l, okM x) (hp : ∀ x ∈ p, okM x) : impl_NextOnly.fv l p = some (nextOnly l p) := by
  rw [impl_NextOnly.fv_eq]
  simp only [impl_NextOnly.j0v_eq, nextOnly]
  by_cases h1 : l.length = p.length
  · rw [if_pos (by omega)]
    by_cases h2 : 2 ≤ l.length
    · have h := implNx_l0 l [] [] p false rfl h1.symm (by simpa using hl) hs (by simp) hp
      simp only [List.nil_append, List.length_nil, Int.natCast_zero] at h
      rw [if_neg (by rw [decide_eq_true_eq]; omega), h]
      simp [h1, h1 ▸ h2]
    · rw [if_pos (by rw [decide_eq_true_eq]; omega)]
      simp [h2]
  · rw [if_neg (by omega)]
    simp [h1]
/-- Are the last two all right? -/
def okTail (x : Mach) (pb : List Mach) : Bool := (pb.drop (pb.length - 2)).all (safe x)
theorem okTail_near (x q : Mach) (pp : List Mach) : okTail x (pp ++ [q]) = near x q pp := by
  unfold okTail near
  rcases List.eq_nil_or_concat pp with h | ⟨pp', r, h⟩
  · subst h
    simp
  · rw [List.concat_eq_append] at h
    subst h
    have e : (pp' ++ [r] ++ [q]).drop ((pp' ++ [r] ++ [q]).length - 2) = [r, q] := by
      rw [show (pp' ++ [r] ++ [q]).length - 2 = pp'.length by simp, List.append_assoc]
      simp
    rw [e]
    simp [Bool.and_comm]
end Go.Proofs.Ytldcchjbaglppaa.Plain

/- Lines of machines each of which follows the one before it: who works with one works with all later ones. Condition: at most 10 to the 12 of each. -/
set_option linter.unusedSimpArgs false
set_option linter.unusedVariables false
namespace Go.Proofs.Ytldcchjbaglppaa.Plain
open Go.RowKit Go.Proofs.YtldcchjbaglppaaW.PrintWords Go.Proofs.Ytldcchjbaglppaa.Base Go.Proofs.Ytldcchjbaglppaa.Print

theorem breaks_chain {p : Mach} {l : List Mach} (h : chainT p l = true) : ∀ i : Int, breaks i p l = -1 := by
  induction l generalizing p with
  | nil => exact fun _ => rfl
  | cons x l ih =>
    simp only [chainT, Bool.and_eq_true] at h
    intro i
    simp only [breaks]
    rw [if_pos h.1]
    exact ih h.2 _
theorem breaksAt_chain {l : List Mach} (h : chainF l = true) : breaksAt l = -1 := by
  cases l with
  | nil => rfl
  | cons p l =>
    simp only [chainF, Bool.and_eq_true] at h
    exact breaks_chain h.1 1
theorem works_ge (b : Mach) (l : List Mach) : ∀ (i : Int), ∀ x ∈ works b i l, i ≤ x := by
  induction l with
  | nil => intro i x hx; cases hx
  | cons y l ih =>
    intro i x hx
    simp only [works] at hx
    split at hx
    · rcases List.mem_cons.1 hx with rfl | hx
      · omega
      · have := ih _ _ hx
        omega
    · have := ih _ _ hx
      omega
theorem works_all (b : Mach) (l : List Mach) (h : ∀ x ∈ l, safe x b = true) : ∀ i : Int, (works b i l).length = l.length := by
  induction l with
  | nil => exact fun _ => rfl
  | cons y l ih =>
    intro i
    simp only [works]
    rw [if_pos (h y List.mem_cons_self), List.length_cons, List.length_cons, ih (fun x hx => h x (List.mem_cons_of_mem _ hx))]
theorem works_chain (b : Mach) (l : List Mach) : ∀ (p : Mach) (i : Int), chainT p l = true → works b i (p :: l) = [] ∨ ∃ x r, works b i (p :: l) = x :: r ∧ i ≤ x ∧ (((x :: r).length : Nat) : Int) = ((p :: l).length : Int) - (x - i) := by
  induction l with
  | nil =>
    intro p i _
    simp only [works]
    split
    · exact .inr ⟨i, [], rfl, by omega, by simp⟩
    · exact .inl rfl
  | cons y l ih =>
    intro p i h
    by_cases hs : safe p b = true
    · refine .inr ⟨i, works b (i + 1) (y :: l), ?_, by omega, ?_⟩
      · rw [works, if_pos hs]
      · rw [List.length_cons, works_all b (y :: l) fun x hx => safe_on (chainT_follows h x hx) hs]
        simp
    · simp only [chainT, Bool.and_eq_true] at h
      rw [works, if_neg hs]
      rcases ih y (i + 1) h.2 with h1 | ⟨x, r, h1, h2, h3⟩
      · exact .inl h1
      · refine .inr ⟨x, r, h1, by omega, ?_⟩
        rw [h3]
        simp only [List.length_cons]
        omega
/-- A line whose machines follow: all machines behind the first that works work, too. -/
theorem works_line (b : Mach) {l : List Mach} (h : chainF l = true) (hw : 0 < (works b 0 l).length) : ((works b 0 l).length : Int) = (l.length : Int) - rd (works b 0 l) 0 := by
  cases l with
  | nil => simp [works] at hw
  | cons p l =>
    simp only [chainF, Bool.and_eq_true] at h
    rcases works_chain b l p 0 h.1 with h1 | ⟨x, r, h1, _, h3⟩
    · rw [h1] at hw
      simp at hw
    · rw [h1]
      have : rd (x :: r) 0 = x := rfl
      rw [this, h3]
      omega
theorem lastOr_mem {w : List Int} (c : ¬ w.length = 0) : lastOr w ∈ w := by
  unfold lastOr
  rw [if_neg c]
  have h9 : ((w.length : Int) - 1).toNat < w.length := by omega
  have e9 : rd w ((w.length : Int) - 1) = w[((w.length : Int) - 1).toNat] := by
    unfold rd
    rw [List.getD_eq_getElem?_getD, List.getElem?_eq_getElem h9]
    rfl
  rw [e9]
  exact List.getElem_mem h9
theorem lastOr_none (w : List Int) (h : ∀ x ∈ w, 0 ≤ x) : lastOr w = -1 ↔ w.length = 0 := by
  unfold lastOr
  constructor
  · intro e
    by_cases c : w.length = 0
    · exact c
    · rw [if_neg c] at e
      have hm : rd w ((w.length : Int) - 1) ∈ w := by
        have h9 : ((w.length : Int) - 1).toNat < w.length := by omega
        have e9 : rd w ((w.length : Int) - 1) = w[((w.length : Int) - 1).toNat] := by
          unfold rd
          rw [List.getD_eq_getElem?_getD, List.getElem?_eq_getElem h9]
          rfl
        rw [e9]
        exact List.getElem_mem h9
      have := h _ hm
      omega
  · intro c
    rw [if_pos c]
theorem far_chain {l : List Mach} (h : chainF l = true) (i k : Int) : far l i k = (inR 0 k i && decide (k < (l.length : Int))) := by
  unfold far
  by_cases h1 : inR 0 k i = true
  · by_cases h2 : k < (l.length : Int)
    · obtain ⟨h3, h4⟩ := inR_true.1 h1
      have hj : k.toNat < l.length := by omega
      have hi : i.toNat < l.length := by omega
      have e1 : rd_T34 l k = l[k.toNat] := by simp [rd_T34, hj]
      have e2 : rd_T34 l i = l[i.toNat] := by simp [rd_T34, hi]
      rw [e1, e2, chainF_far h i.toNat k.toNat hj (by omega)]
      simp
    · simp [h2]
  · have h1 : inR 0 k i = false := by simpa using h1
    simp [h1]
theorem nOnly_chain (l : List Mach) : ∀ (q : Mach) (pp p : List Mach) (f : Bool), chainT q l = true → (∀ r ∈ pp, safe q r = true) → nOnly pp f l p = true → f = true := by
  induction l with
  | nil =>
    intro q pp p f _ _ h
    cases p <;> exact h
  | cons x l ih =>
    intro q pp p f hc hs h
    simp only [chainT, Bool.and_eq_true] at hc
    cases p with
    | nil => exact h
    | cons r p =>
      simp only [nOnly, Bool.and_eq_true] at h
      have hx : ∀ s ∈ pp, safe x s = true := fun s hs2 => safe_on hc.1 (hs s hs2)
      have hr : safe x r = true := by
        have := h.1
        simp only [near, Bool.and_eq_true] at this
        exact this.1
      have hf : fails x pp = false := by
        unfold fails
        rw [List.any_eq_false]
        intro s hs2
        rw [hx s hs2]
        decide
      have := ih x (pp ++ [r]) p (f || fails x pp) hc.2 (fun s hs2 => by
        rcases List.mem_append.1 hs2 with h9 | h9
        · exact hx s h9
        · rw [List.mem_singleton.1 h9]
          exact hr) h.2
      rw [hf, Bool.or_false] at this
      exact this
theorem nextOnly_chain {l p : List Mach} (h : nextOnly l p = true) : chainF l = false := by
  cases hc : chainF l with
  | false => rfl
  | true =>
    exfalso
    unfold nextOnly at h
    simp only [Bool.and_eq_true] at h
    cases l with
    | nil => exact absurd hc (by decide)
    | cons x l =>
      simp only [chainF, Bool.and_eq_true] at hc
      cases p with
      | nil => simp at h
      | cons r p =>
        have h2 := h.2.2
        simp only [nOnly, Bool.and_eq_true] at h2
        have hr : safe x r = true := by
          have := h2.1
          simp only [near, Bool.and_eq_true] at this
          exact this.1
        have := nOnly_chain l x ([] ++ [r]) p (false || fails x []) hc.1 (fun s hs => by
          rw [List.mem_singleton.1 hs]
          exact hr) h2.2
        simp [fails] at this
end Go.Proofs.Ytldcchjbaglppaa.Plain

/- The numbers that the laws draw from bytes: each draw comes to an answer, in its range, and leaves a place in the bytes. Condition: at most 2 to the 40 bytes; the place lies in the bytes. -/
set_option linter.unusedSimpArgs false
set_option linter.unusedVariables false
namespace Go.Proofs.Ytldcchjbaglppaa.Plain
open Go.RowKit Go.Proofs.YtldcchjbaglppaaW.PrintWords Go.Proofs.Ytldcchjbaglppaa.Base Go.Proofs.Ytldcchjbaglppaa.Print

/-- A place in the bytes. -/
def St (l : List Int) (p : Int) : Prop := 0 ≤ p ∧ p ≤ l.length ∧ l.length ≤ 1000000000000
theorem and255 (x : Int) : 0 ≤ Go.bits .and .i64 x 255 ∧ Go.bits .and .i64 x 255 ≤ 255 := by
  have hle : (BitVec.ofInt 64 x &&& BitVec.ofInt 64 255).toNat ≤ 255 := by
    rw [BitVec.toNat_and]
    exact Nat.and_le_right
  have h : Go.bits .and .i64 x 255 = wrap64 ((BitVec.ofInt 64 x &&& BitVec.ofInt 64 255).toNat : Int) := by
    unfold wrap64
    exact Go.IntKind.wrap_i64 _
  rw [h, w64 (by omega) (by omega)]
  omega
theorem l1Byte_ex (l : List Int) (p r : Int) (h : St l p) : ∃ b p' r', spec_l1Byte.f l p r = some (b, p', r') ∧ St l p' ∧ 0 ≤ b ∧ b ≤ 255 := by
  obtain ⟨h0, h1, h2⟩ := h
  unfold spec_l1Byte.f
  by_cases hp : p < (l.length : Int)
  · rw [if_pos hp, if_pos h0]
    refine ⟨_, _, _, rfl, ⟨?_, ?_, h2⟩, (and255 _).1, (and255 _).2⟩
    · rw [w64 (by omega) (by omega)]
      omega
    · rw [w64 (by omega) (by omega)]
      omega
  · rw [if_neg hp]
    exact ⟨_, _, _, rfl, ⟨h0, h1, h2⟩, (and255 _).1, (and255 _).2⟩
theorem tmod_in (x n : Int) (hx : 0 ≤ x) (hn : 0 < n) : 0 ≤ Int.tmod x n ∧ Int.tmod x n < n := ⟨Int.tmod_nonneg _ hx, Int.tmod_lt_of_pos _ hn⟩
theorem l1Below_ex (l : List Int) (p r n : Int) (h : St l p) (hn : 0 < n) : ∃ b p' r', spec_l1Below.f l p r n = some (b, p', r') ∧ St l p' ∧ 0 ≤ b ∧ b < n := by
  unfold spec_l1Below.f
  rw [if_neg (by omega)]
  obtain ⟨b, p', r', e, h', b0, b1⟩ := l1Byte_ex l p r h
  rw [e]
  by_cases h256 : n ≤ 256
  · rw [if_pos h256]
    simp only [Option.bind_some]
    rw [if_neg (by omega)]
    exact ⟨_, _, _, rfl, h', tmod_in _ _ b0 hn⟩
  · rw [if_neg h256]
    simp only [Option.bind_some]
    obtain ⟨c, p2, r2, e2, h2, c0, c1⟩ := l1Byte_ex l p' r' h'
    rw [e2]
    simp only [Option.bind_some]
    obtain ⟨d, p3, r3, e3, h3, d0, d1⟩ := l1Byte_ex l p2 r2 h2
    rw [e3]
    simp only [Option.bind_some]
    rw [if_neg (by omega)]
    refine ⟨_, _, _, rfl, h3, tmod_in _ _ ?_ hn⟩
    rw [w64 (x := b * 65536) (by omega) (by omega), w64 (x := c * 256) (by omega) (by omega), w64 (x := b * 65536 + c * 256) (by omega) (by omega), w64 (by omega) (by omega)]
    omega
theorem l1Below_any (l : List Int) (p r n : Int) (h : St l p) : ∃ b p' r', spec_l1Below.f l p r n = some (b, p', r') ∧ St l p' := by
  by_cases hn : 0 < n
  · obtain ⟨b, p', r', e, h', _⟩ := l1Below_ex l p r n h hn
    exact ⟨b, p', r', e, h'⟩
  · unfold spec_l1Below.f
    rw [if_pos (by omega)]
    exact ⟨_, _, _, rfl, h⟩
theorem l1Once_ex (l : List Int) (p r n : Int) (h : St l p) (hn : 0 < n) : ∃ (b : Bool) (p' r' : Int), spec_l1Once.f l p r n = some (b, p', r') ∧ St l p' := by
  unfold spec_l1Once.f
  obtain ⟨b, p', r', e, h', b0, b1⟩ := l1Below_ex l p r n h hn
  rw [e]
  exact ⟨_, _, _, rfl, h'⟩
theorem l1New_l0 (suf : List Int) : ∀ (pre : List Int) (s : Int), (pre ++ suf).length ≤ 1000000000000 → ∃ r, spec_l1New.l0v (pre ++ suf) s (pre.length : Int) = some (pre ++ suf, 0, r) := by
  induction suf with
  | nil =>
    intro pre s _
    rw [spec_l1New.l0v_eq, if_neg (nlt_end pre)]
    exact ⟨_, rfl⟩
  | cons x suf ih =>
    intro pre s hl
    have hn : pre.length < (pre ++ x :: suf).length := by simp
    rw [spec_l1New.l0v_eq, if_pos (lt_mid pre suf x)]
    by_cases h4 : (pre.length : Int) < 4000
    · rw [if_pos h4, if_pos (by omega), up_mid pre x hn hl]
      rw [mid_snoc pre suf x] at hl ⊢
      exact ih (pre ++ [x]) _ hl
    · rw [if_neg h4]
      exact ⟨_, rfl⟩
theorem l1New_ex (l : List Int) (hl : l.length ≤ 1000000000000) : ∃ r, spec_l1New.fv l = some (l, 0, r) ∧ St l 0 := by
  rw [spec_l1New.fv_eq]
  obtain ⟨r, h⟩ := l1New_l0 l [] (wrap64 (193017 + (l.length : Int))) (by simpa using hl)
  exact ⟨r, h, by omega, by omega, hl⟩
end Go.Proofs.Ytldcchjbaglppaa.Plain

/- MoveOf and MovesFrom, of the reference. Condition: at most 10 to the 12 of each. -/
set_option linter.unusedSimpArgs false
set_option linter.unusedVariables false
namespace Go.Proofs.Ytldcchjbaglppaa.Plain
open Go.RowKit Go.Proofs.YtldcchjbaglppaaW.PrintWords Go.Proofs.Ytldcchjbaglppaa.Base Go.Proofs.Ytldcchjbaglppaa.Print

theorem specMvOf_l0 (s : Int) (e : List Bool) (st : Int) (b : Bool) (g : Int) (suf : List Mv) : ∀ (pre : List Mv), (pre ++ suf).length ≤ 1000000000000 →
    spec_MoveOf.l0v st b g (pre.length : Int) s e (pre ++ suf) = some (mvAt st b g (pre.length : Int) suf) := by
  induction suf with
  | nil =>
    intro pre _
    rw [spec_MoveOf.l0v_eq, if_neg (nlt_end pre)]
    rfl
  | cons x suf ih =>
    intro pre hl
    have hn : pre.length < (pre ++ x :: suf).length := by simp
    rw [spec_MoveOf.l0v_eq, if_pos (lt_mid pre suf x), if_pos (by omega), rdMv_mid, up_mid pre x hn hl]
    simp only [mvAt, hit]
    rw [mid_snoc pre suf x] at hl ⊢
    rw [ih (pre ++ [x]) hl, show ((pre ++ [x]).length : Int) = (pre.length : Int) + 1 by simp]
    by_cases c0 : x.f0 = st
    · rw [if_pos c0]
      rcases Bool.eq_false_or_eq_true (x.f1 == b) with c1 | c1
      · rw [if_pos c1]
        by_cases c2 : x.f2 = g
        · rw [if_pos c2]
          simp [c0, c1, c2]
        · rw [if_neg c2]
          simp [c2]
      · rw [if_neg (by rw [c1]; decide)]
        simp [c1]
    · rw [if_neg c0]
      simp [c0]
theorem specMvOf_v (s : Int) (e : List Bool) (l : List Mv) (st : Int) (b : Bool) (g : Int) (hl : l.length ≤ 1000000000000) : spec_MoveOf.fv s e l st b g = some (mvOf l st b g) := by
  rw [spec_MoveOf.fv_eq]
  have h := specMvOf_l0 s e st b g l [] (by simpa using hl)
  simpa [mvOf] using h
theorem put_l0 (x : Int) (suf : List Int) : ∀ (pre : List Int), (pre ++ suf).length ≤ 1000000000000 → spec_l4Put.l0v (pre ++ suf) x (pre.length : Int) = some (pre ++ put suf x) := by
  induction suf with
  | nil =>
    intro pre hl
    simp only [List.append_nil] at hl ⊢
    have h1 : pre.take (pre.length : Int).toNat = pre := by simp
    have h2 : pre.drop (pre.length : Int).toNat = [] := by simp
    rw [spec_l4Put.l0v_eq, if_neg (by omega), Option.bind_some, if_pos (by omega), if_pos (by omega), h1, if_pos (by simp; omega), Option.bind_some, Option.bind_some, if_pos (by simp; omega), Option.bind_some, h2, if_pos (by simp; omega)]
    simp [put]
  | cons y suf ih =>
    intro pre hl
    have hn : pre.length < (pre ++ y :: suf).length := by simp
    have hl2 : pre.length + suf.length + 1 ≤ 1000000000000 := by
      rw [List.length_append, List.length_cons] at hl
      omega
    have h1 : (pre ++ y :: suf).take (pre.length : Int).toNat = pre := by simp
    have h2 : (pre ++ y :: suf).drop (pre.length : Int).toNat = y :: suf := by simp
    rw [spec_l4Put.l0v_eq, if_pos (lt_mid pre suf y), if_pos (by omega), rd_mid, up_mid pre y hn hl]
    simp only [put]
    by_cases c0 : y < x
    · rw [if_pos c0, if_pos c0]
      rw [mid_snoc pre suf y] at hl ⊢
      rw [ih (pre ++ [y]) hl]
      simp
    · rw [if_neg c0, if_neg c0]
      by_cases c1 : y = x
      · rw [if_pos c1, if_pos c1, Option.bind_some, if_pos (by simp; omega)]
        simp
      · rw [if_neg c1, if_neg c1, Option.bind_some, if_pos (by omega), h1, if_pos (by simp; omega), Option.bind_some, Option.bind_some, if_pos (by simp; omega), Option.bind_some, h2, if_pos (by simp; omega)]
        simp
theorem put_v (l : List Int) (x : Int) (hl : l.length ≤ 1000000000000) : spec_l4Put.fv l x = some (put l x) := by
  rw [spec_l4Put.fv_eq]
  have h := put_l0 x l [] (by simpa using hl)
  simpa using h
theorem specMsgs_l0 (s : Int) (e : List Bool) (st : Int) (b : Bool) (suf : List Mv) : ∀ (pre : List Mv), (pre ++ suf).length ≤ 1000000000000 →
    spec_MovesFrom.l0v st b (msgs pre st b) (pre.length : Int) s e (pre ++ suf) = some (msgs (pre ++ suf) st b) := by
  induction suf with
  | nil =>
    intro pre _
    rw [spec_MovesFrom.l0v_eq, if_neg (nlt_end pre), List.append_nil]
  | cons x suf ih =>
    intro pre hl
    have hn : pre.length < (pre ++ x :: suf).length := by simp
    have hm := msgs_len pre st b
    rw [spec_MovesFrom.l0v_eq, if_pos (lt_mid pre suf x), if_pos (by omega), rdMv_mid, put_v (msgs pre st b) x.f2 (by omega), Option.bind_some, up_mid pre x hn hl]
    rw [mid_snoc pre suf x] at hl ⊢
    have h1 := ih (pre ++ [x]) hl
    have hr2 : msgs (pre ++ [x]) st b = if x.f0 = st ∧ x.f1 = b then put (msgs pre st b) x.f2 else msgs pre st b := by
      unfold msgs raw
      rw [List.filter_append, List.map_append, List.foldl_append]
      by_cases c0 : x.f0 = st <;> by_cases c1 : x.f1 = b <;> simp [c0, c1]
    rw [hr2] at h1
    by_cases c0 : x.f0 = st
    · rw [if_pos c0]
      by_cases c1 : x.f1 = b
      · rw [if_pos (by simp [c1])]
        rw [if_pos ⟨c0, c1⟩] at h1
        exact h1
      · rw [if_neg (by simp [c1])]
        rw [if_neg (fun h => c1 h.2)] at h1
        exact h1
    · rw [if_neg c0]
      rw [if_neg (fun h => c0 h.1)] at h1
      exact h1
theorem specMsgs_v (s : Int) (e : List Bool) (l : List Mv) (st : Int) (b : Bool) (hl : l.length ≤ 1000000000000) : spec_MovesFrom.fv s e l st b = some (msgs l st b) := by
  rw [spec_MovesFrom.fv_eq]
  have h := specMsgs_l0 s e st b l [] (by simpa using hl)
  simpa [msgs, raw] using h
end Go.Proofs.Ytldcchjbaglppaa.Plain

/- The machines and the lines of machines that the laws draw from bytes: each draw comes to an answer, and its rows are short. Condition: at most 10 to the 12 bytes; the place lies in the bytes. -/
set_option linter.unusedSimpArgs false
set_option linter.unusedVariables false
namespace Go.Proofs.Ytldcchjbaglppaa.Plain
open Go.RowKit Go.Proofs.YtldcchjbaglppaaW.PrintWords Go.Proofs.Ytldcchjbaglppaa.Base Go.Proofs.Ytldcchjbaglppaa.Print

/-- What the outer loop of a machine's draw does from n rounds before its end. -/
def L13 (n : Nat) : Prop := ∀ (c : List Int) (p r i s : Int) (d : List Bool) (e : List Mv), St c p → i + (n : Int) = s → 0 ≤ i → s ≤ 4 → d.length + n ≤ 1000 → e.length + 3 * n ≤ 1000 →
  ∃ d' e' p' r', spec_l13Draw.l0v i c p r s d e = some (s, d', e', p', r') ∧ St c p' ∧ d'.length ≤ 1000 ∧ e'.length ≤ 1000
theorem l13_l1 (n : Nat) (ih : L13 n) (m : Nat) : ∀ (c : List Int) (p r i s j o : Int) (q : Bool) (d : List Bool) (e : List Mv), St c p → i + ((n + 1 : Nat) : Int) = s → 0 ≤ i → s ≤ 4 → d.length + (n + 1) ≤ 1000 → e.length + m + 3 * n ≤ 1000 → j + (m : Int) = o → 0 ≤ j → o ≤ 3 →
    ∃ d' e' p' r', spec_l13Draw.l1v i q o j c p r s d e = some (s, d', e', p', r') ∧ St c p' ∧ d'.length ≤ 1000 ∧ e'.length ≤ 1000 := by
  induction m with
  | zero =>
    intro c p r i s j o q d e h hi h0 hs hd he hj hj0 ho
    rw [spec_l13Draw.l1v_eq, if_neg (by omega)]
    by_cases hz : o = 0
    · rw [if_pos hz, if_pos (by omega), w64 (by omega) (by omega)]
      exact ih c p r (i + 1) s (d ++ [true]) e h (by omega) (by omega) hs (by simp; omega) (by omega)
    · rw [if_neg hz]
      obtain ⟨b, p1, r1, e1, h1⟩ := l1Once_ex c p r 4 h (by decide)
      rw [e1, Option.bind_some, if_pos (by omega), w64 (by omega) (by omega)]
      exact ih c p1 r1 (i + 1) s (d ++ [b]) e h1 (by omega) (by omega) hs (by simp; omega) (by omega)
  | succ m ihm =>
    intro c p r i s j o q d e h hi h0 hs hd he hj hj0 ho
    rw [spec_l13Draw.l1v_eq, if_pos (by omega)]
    obtain ⟨b, p1, r1, e1, h1⟩ := l1Below_any c p r 3 h
    rw [e1, Option.bind_some]
    obtain ⟨b2, p2, r2, e2, h2⟩ := l1Below_any c p1 r1 s h1
    rw [e2, Option.bind_some, specMvOf_v s d e i q b (by omega), Option.bind_some, w64 (by omega) (by omega)]
    by_cases hm : mvOf e i q b < 0
    · rw [if_pos hm, if_pos (by omega)]
      exact ihm c p2 r2 i s (j + 1) o q d (e ++ [⟨i, q, b, b2⟩]) h2 hi h0 hs hd (by simp; omega) (by omega) (by omega) ho
    · rw [if_neg hm]
      exact ihm c p2 r2 i s (j + 1) o q d e h2 hi h0 hs hd (by omega) (by omega) (by omega) ho
theorem l13_l0 (n : Nat) : L13 n := by
  induction n with
  | zero =>
    intro c p r i s d e h hi h0 hs hd he
    rw [spec_l13Draw.l0v_eq, if_neg (by omega)]
    exact ⟨d, e, p, r, rfl, h, by omega, by omega⟩
  | succ n ih =>
    intro c p r i s d e h hi h0 hs hd he
    rw [spec_l13Draw.l0v_eq, if_pos (by omega)]
    obtain ⟨q, p1, r1, e1, h1⟩ := l1Once_ex c p r 2 h (by decide)
    rw [e1, Option.bind_some]
    obtain ⟨o, p2, r2, e2, h2, o0, o1⟩ := l1Below_ex c p1 r1 3 h1 (by decide)
    rw [e2, Option.bind_some]
    by_cases hz : i = 0
    · rw [if_pos hz]
      obtain ⟨o', p3, r3, e3, h3, p0, q1⟩ := l1Below_ex c p2 r2 2 h2 (by decide)
      rw [e3, Option.bind_some, spec_l13Draw.j1v_eq, w64 (by omega) (by omega)]
      obtain ⟨m, hm⟩ : ∃ m : Nat, 1 + o' = (m : Int) := ⟨(1 + o').toNat, by omega⟩
      exact l13_l1 n ih m c p3 r3 i s 0 (1 + o') q d e h3 hi h0 hs hd (by omega) (by omega) (by omega) (by omega)
    · rw [if_neg hz, spec_l13Draw.j1v_eq]
      obtain ⟨m, hm⟩ : ∃ m : Nat, o = (m : Int) := ⟨o.toNat, by omega⟩
      exact l13_l1 n ih m c p2 r2 i s 0 o q d e h2 hi h0 hs hd (by omega) (by omega) (by omega) (by omega)
theorem l13_ex (c : List Int) (p r : Int) (h : St c p) : ∃ s d e p' r', spec_l13Draw.fv c p r = some (s, d, e, p', r') ∧ St c p' ∧ d.length ≤ 1000 ∧ e.length ≤ 1000 := by
  rw [spec_l13Draw.fv_eq]
  obtain ⟨b, p1, r1, e1, h1, b0, b1⟩ := l1Below_ex c p r 4 h (by decide)
  rw [e1, Option.bind_some, w64 (by omega) (by omega)]
  obtain ⟨n, hn⟩ : ∃ n : Nat, 1 + b = (n : Int) := ⟨(1 + b).toNat, by omega⟩
  obtain ⟨d, e, p2, r2, e2, h2, d1, f1⟩ := l13_l0 n c p1 r1 0 (1 + b) [] [] h1 (by omega) (by omega) (by omega) (by simp; omega) (by simp; omega)
  exact ⟨1 + b, d, e, p2, r2, e2, h2, d1, f1⟩
theorem dual_l0 (x : Int) (d0 : List Bool) (s : Int) (d : List Bool) (suf : List Mv) : ∀ (pre b : List Mv), (pre ++ suf).length ≤ 1000000000000 → b.length = pre.length → ∃ b', spec_DualOf.l0v (pre.length : Int) x d0 (pre ++ suf) s d b = some (s, d, b') ∧ b'.length = (pre ++ suf).length := by
  induction suf with
  | nil =>
    intro pre b hl hb
    rw [spec_DualOf.l0v_eq, if_neg (nlt_end pre)]
    exact ⟨b, rfl, by simp [hb]⟩
  | cons y suf ih =>
    intro pre b hl hb
    have hn : pre.length < (pre ++ y :: suf).length := by simp
    rw [spec_DualOf.l0v_eq, if_pos (lt_mid pre suf y), if_pos (by omega), if_pos (by omega), up_mid pre y hn hl]
    rw [mid_snoc pre suf y] at hl ⊢
    exact ih (pre ++ [y]) _ hl (by simp [hb])
theorem dual_ex (s : Int) (d : List Bool) (l : List Mv) (hd : d.length ≤ 1000) (hl : l.length ≤ 1000) : ∃ l', spec_DualOf.fv s d l = some (s, d, l') ∧ l'.length = l.length := by
  rw [spec_DualOf.fv_eq, Option.bind_some, if_pos (by simp; omega)]
  obtain ⟨b, e, hb⟩ := dual_l0 s d s d l [] [] (by simp; omega) rfl
  exact ⟨b, e, by simpa using hb⟩
theorem take_drop_len (l : List Mv) (i : Nat) : (([] : List Mv) ++ l.take i).length ≤ l.length ∧ ((([] : List Mv) ++ l.take i) ++ l.drop (i + 1)).length ≤ l.length := by
  simp only [List.nil_append, List.length_append, List.length_take, List.length_drop]
  omega
/-- What the loop of a next machine's draw does from n rounds before its end. -/
def N15 (n : Nat) : Prop := ∀ (c : List Int) (p r s : Int) (d : List Bool) (l : List Mv), St c p → n ≤ 1000 → l.length ≤ 1000 →
  ∃ l' p' r', spec_l15Next.l0v (n : Int) c p r s d l = some (s, d, l', p', r') ∧ St c p' ∧ l'.length ≤ 1000
theorem n15_end (n : Int) (c : List Int) (p r s : Int) (d : List Bool) (l : List Mv) (h : St c p) (hl : l.length ≤ 1000) : ∃ l' p' r', spec_l15Next.j1v n false c p r s d l = some (s, d, l', p', r') ∧ St c p' ∧ l'.length ≤ 1000 := by
  rw [spec_l15Next.j1v_eq, if_neg (by decide)]
  obtain ⟨b, p1, r1, e1, h1⟩ := l1Once_ex c p r 6 h (by decide)
  have h2 : (0 : Int) ≤ (l.length : Int) / 2 := by omega
  rw [e1, Option.bind_some]
  cases b with
  | true =>
    rw [if_pos rfl, w64 (by omega) (by omega), if_pos h2, if_pos (by omega)]
    exact ⟨_, _, _, rfl, h1, by rw [List.length_take]; omega⟩
  | false =>
    rw [if_neg (by simp)]
    exact ⟨_, _, _, rfl, h1, hl⟩
theorem n15_step (n : Nat) (hn : n + 1 ≤ 1000) (ih : N15 n) (c : List Int) (p r s : Int) (d : List Bool) (l : List Mv) (i : Int) (v : Bool) (x : Int) (y : Bool) (z u : Int) (h : St c p) (hl : l.length ≤ 1000) (h0 : 0 ≤ i) (h1 : i < (l.length : Int)) : ∃ l' p' r', spec_l15Next.j2v ((n + 1 : Nat) : Int) i v c p r s d l x y z u = some (s, d, l', p', r') ∧ St c p' ∧ l'.length ≤ 1000 := by
  have w1 : wrap64 (((n + 1 : Nat) : Int) - 1) = (n : Int) := by rw [w64 (by omega) (by omega)]; omega
  have w2 : wrap64 (i + 1) = i + 1 := w64 (by omega) (by omega)
  obtain ⟨t1, t2⟩ := take_drop_len l i.toNat
  have t3 : (i + 1 : Int).toNat = i.toNat + 1 := by omega
  rw [spec_l15Next.j2v_eq, w1]
  cases v with
  | true =>
    rw [if_pos rfl, Option.bind_some, if_pos h0, if_pos (by omega), Option.bind_some, if_pos (by rw [← List.length_append]; omega), Option.bind_some, w2, if_pos (by omega), if_pos (by omega), Option.bind_some, t3, if_pos (by rw [← List.length_append]; omega)]
    exact ih c p r s d _ h (by omega) (by omega)
  | false =>
    rw [if_neg (by decide)]
    cases y with
    | true =>
      rw [if_pos rfl]
      exact ih c p r s d l h (by omega) hl
    | false =>
      rw [if_neg (by decide)]
      obtain ⟨b, p1, r1, e1, g1⟩ := l1Below_any c p r 5 h
      rw [e1, Option.bind_some]
      obtain ⟨b2, p2, r2, e2, g2⟩ := l1Below_any c p1 r1 s g1
      rw [e2, Option.bind_some, specMvOf_v s d l x false b (by omega), Option.bind_some]
      by_cases hm : mvOf l x false b < 0
      · rw [if_pos hm]
        by_cases h12 : (l.length : Int) < 12
        · rw [if_pos h12, if_pos (by omega)]
          exact ih c p2 r2 s d _ g2 (by omega) (by simp; omega)
        · rw [if_neg h12]
          exact ih c p2 r2 s d l g2 (by omega) hl
      · rw [if_neg hm]
        exact ih c p2 r2 s d l g2 (by omega) hl
theorem n15_l0 (n : Nat) : N15 n := by
  induction n with
  | zero =>
    intro c p r s d l h _ hl
    rw [spec_l15Next.l0v_eq, if_neg (by omega)]
    exact n15_end _ c p r s d l h hl
  | succ n ih =>
    intro c p r s d l h hn hl
    rw [spec_l15Next.l0v_eq, if_pos (by omega)]
    by_cases hz : (l.length : Int) > 0
    · rw [show decide ((l.length : Int) > 0) = true from decide_eq_true hz, spec_l15Next.j1v_eq, if_pos rfl]
      obtain ⟨b, p1, r1, e1, h1, b0, b1⟩ := l1Below_ex c p r (l.length : Int) h hz
      rw [e1, Option.bind_some, if_pos b0, if_pos b1]
      cases hs : (rd_T78 l b).f1 with
      | true =>
        rw [if_pos rfl, specMsgs_v s d l _ true (by omega), Option.bind_some]
        exact n15_step n hn ih c p1 r1 s d l b _ _ _ _ _ h1 hl b0 b1
      | false =>
        rw [if_neg (by decide)]
        exact n15_step n hn ih c p1 r1 s d l b _ _ _ _ _ h1 hl b0 b1
    · rw [show decide ((l.length : Int) > 0) = false from decide_eq_false hz]
      exact n15_end _ c p r s d l h hl
theorem l15_ex (c : List Int) (p r s : Int) (d : List Bool) (l : List Mv) (h : St c p) (hd : d.length ≤ 1000) (hl : l.length ≤ 1000) : ∃ l' p' r', spec_l15Next.fv c p r s d l = some (s, d, l', p', r') ∧ St c p' ∧ l'.length ≤ 1000 := by
  rw [spec_l15Next.fv_eq]
  obtain ⟨a, e1, ha⟩ := dual_ex s d l hd hl
  rw [e1, Option.bind_some]
  obtain ⟨b, e2, hb⟩ := dual_ex s d a hd (by omega)
  rw [e2, Option.bind_some]
  obtain ⟨n, p1, r1, e3, h1, n0, n1⟩ := l1Below_ex c p r 3 h (by decide)
  rw [e3, Option.bind_some]
  obtain ⟨m, rfl⟩ : ∃ m : Nat, n = (m : Int) := ⟨n.toNat, by omega⟩
  exact n15_l0 m c p1 r1 s d b h1 (by omega) (by omega)
/-- What the loop of a pair's draw does from n rounds before its end. -/
def P14 (n : Nat) : Prop := ∀ (c : List Int) (p r : Int) (s : Int) (d : List Bool) (l : List Mv) (s' : Int) (d' : List Bool) (l' : List Mv), St c p → n ≤ 10 → l'.length + n ≤ 2000 →
  ∃ l2 p' r', spec_l14Pair.l0v (n : Int) c p r s d l s' d' l' = some (s, d, l, s', d', l2, p', r') ∧ St c p' ∧ l2.length ≤ 2000
theorem p14_end (n : Int) (c : List Int) (p r : Int) (s : Int) (d : List Bool) (l : List Mv) (s' : Int) (d' : List Bool) (l' : List Mv) (h : St c p) (hl : l'.length ≤ 2000) : ∃ l2 p' r', spec_l14Pair.j1v n false c p r s d l s' d' l' = some (s, d, l, s', d', l2, p', r') ∧ St c p' ∧ l2.length ≤ 2000 := by
  rw [spec_l14Pair.j1v_eq, if_neg (by decide)]
  exact ⟨_, _, _, rfl, h, hl⟩
theorem p14_l0 (n : Nat) : P14 n := by
  induction n with
  | zero =>
    intro c p r s d l s' d' l' h _ hl
    rw [spec_l14Pair.l0v_eq, if_neg (by omega)]
    exact p14_end _ c p r s d l s' d' l' h (by omega)
  | succ n ih =>
    intro c p r s d l s' d' l' h hn hl
    have w1 : wrap64 (((n + 1 : Nat) : Int) - 1) = (n : Int) := by rw [w64 (by omega) (by omega)]; omega
    rw [spec_l14Pair.l0v_eq, if_pos (by omega)]
    by_cases hz : (l'.length : Int) > 0
    · rw [show decide ((l'.length : Int) > 0) = true from decide_eq_true hz, spec_l14Pair.j1v_eq, if_pos rfl, w1]
      obtain ⟨b, p1, r1, e1, h1, b0, b1⟩ := l1Below_ex c p r (l'.length : Int) h hz
      rw [e1, Option.bind_some]
      obtain ⟨q, p2, r2, e2, h2⟩ := l1Below_any c p1 r1 4 h1
      rw [e2, Option.bind_some]
      dsimp only
      have w2 : wrap64 (b + 1) = b + 1 := w64 (by omega) (by omega)
      obtain ⟨t1, t2⟩ := take_drop_len l' b.toNat
      have t3 : (b + 1 : Int).toNat = b.toNat + 1 := by omega
      by_cases q0 : q = 0
      · rw [if_pos q0, Option.bind_some, if_pos b0, if_pos (by omega), Option.bind_some, if_pos (by rw [← List.length_append]; omega), Option.bind_some, w2, if_pos (by omega), if_pos (by omega), Option.bind_some, t3, if_pos (by rw [← List.length_append]; omega)]
        exact ih c p2 r2 s d l s' d' _ h2 (by omega) (by omega)
      · rw [if_neg q0]
        by_cases q1 : q = 1
        · rw [if_pos q1, if_pos b0, if_pos b1]
          obtain ⟨g, p3, r3, e3, h3⟩ := l1Below_any c p2 r2 4 h2
          rw [e3, Option.bind_some, specMvOf_v s' d' l' _ _ g (by omega), Option.bind_some]
          by_cases hm : mvOf l' (rd_T78 l' b).f0 (rd_T78 l' b).f1 g < 0
          · rw [if_pos hm, if_pos (by omega)]
            exact ih c p3 r3 s d l s' d' _ h3 (by omega) (by simp; omega)
          · rw [if_neg hm]
            exact ih c p3 r3 s d l s' d' l' h3 (by omega) (by omega)
        · rw [if_neg q1]
          by_cases q2 : q = 2
          · rw [if_pos q2]
            obtain ⟨g, p3, r3, e3, h3⟩ := l1Below_any c p2 r2 s' h2
            rw [e3, Option.bind_some, if_pos b0, if_pos b1]
            exact ih c p3 r3 s d l s' d' _ h3 (by omega) (by rw [List.length_set]; omega)
          · rw [if_neg q2]
            exact ih c p2 r2 s d l s' d' l' h2 (by omega) (by omega)
    · rw [show decide ((l'.length : Int) > 0) = false from decide_eq_false hz]
      exact p14_end _ c p r s d l s' d' l' h (by omega)
theorem l14_ex (c : List Int) (p r : Int) (h : St c p) : ∃ s d l s' d' l' p' r', spec_l14Pair.fv c p r = some (s, d, l, s', d', l', p', r') ∧ St c p' ∧ d'.length ≤ 2000 ∧ l'.length ≤ 2000 := by
  rw [spec_l14Pair.fv_eq]
  obtain ⟨s, d, e, p1, r1, e1, h1, hd, he⟩ := l13_ex c p r h
  rw [e1, Option.bind_some]
  obtain ⟨b, e2, hb⟩ := dual_ex s d e hd he
  rw [e2, Option.bind_some]
  obtain ⟨n, p2, r2, e3, h2, n0, n1⟩ := l1Below_ex c p1 r1 3 h1 (by decide)
  rw [e3, Option.bind_some]
  obtain ⟨m, rfl⟩ : ∃ m : Nat, n = (m : Int) := ⟨n.toNat, by omega⟩
  obtain ⟨l2, p3, r3, e4, h3, hl⟩ := p14_l0 m c p2 r2 s d e s d b h2 (by omega) (by omega)
  exact ⟨s, d, e, s, d, l2, p3, r3, e4, h3, by omega, hl⟩
/-- A machine of short rows. -/
def few (x : Mach) : Prop := x.f1.length ≤ 1000 ∧ x.f2.length ≤ 1000
theorem rdM_in {l : List Mach} {i : Int} (h0 : 0 ≤ i) (h1 : i < (l.length : Int)) : rd_T34 l i ∈ l := by
  have h : i.toNat < l.length := by omega
  have e : rd_T34 l i = l[i.toNat] := by simp [rd_T34, h]
  rw [e]
  exact List.getElem_mem h
theorem few_snoc {l : List Mach} {x : Mach} (h : ∀ y ∈ l, few y) (hx : few x) : ∀ y ∈ l ++ [x], few y := by
  intro y hy
  rcases List.mem_append.1 hy with hy | hy
  · exact h y hy
  · rw [List.mem_singleton.1 hy]
    exact hx
theorem line_l0 (n : Nat) : ∀ (l : List Mach) (c : List Int) (p r : Int), St c p → n ≤ 10 → 1 ≤ l.length → l.length + n ≤ 20 → (∀ x ∈ l, few x) → ∃ l' p' r', spec_l30Line.l0v l (n : Int) c p r = some (l', p', r') ∧ St c p' ∧ 1 ≤ l'.length ∧ l'.length ≤ 20 ∧ ∀ x ∈ l', few x := by
  induction n with
  | zero =>
    intro l c p r h _ h1 h2 hf
    rw [spec_l30Line.l0v_eq, if_neg (by omega)]
    exact ⟨l, p, r, rfl, h, h1, by omega, hf⟩
  | succ n ih =>
    intro l c p r h hn h1 h2 hf
    have w1 : wrap64 (((n + 1 : Nat) : Int) - 1) = (n : Int) := by rw [w64 (by omega) (by omega)]; omega
    have w2 : wrap64 ((l.length : Int) - 1) = (l.length : Int) - 1 := w64 (by omega) (by omega)
    rw [spec_l30Line.l0v_eq, if_pos (by omega), w1, w2, if_pos (by omega), if_pos (by omega)]
    obtain ⟨f1, f2⟩ := hf _ (rdM_in (l := l) (i := (l.length : Int) - 1) (by omega) (by omega))
    obtain ⟨a, p1, r1, e1, g1, ha⟩ := l15_ex c p r (rd_T34 l ((l.length : Int) - 1)).f0 _ _ h f1 f2
    rw [e1, Option.bind_some]
    obtain ⟨b, p2, r2, e2, g2⟩ := l1Once_ex c p1 r1 8 g1 (by decide)
    rw [e2, Option.bind_some]
    cases b with
    | true =>
      rw [if_pos rfl]
      obtain ⟨s, d, m, p3, r3, e3, g3, hd, hm⟩ := l13_ex c p2 r2 g2
      rw [e3, Option.bind_some, if_pos (by omega)]
      exact ih _ c p3 r3 g3 (by omega) (by simp) (by simp; omega) (few_snoc hf ⟨hd, hm⟩)
    | false =>
      rw [if_neg (by simp), if_pos (by omega)]
      exact ih _ c p2 r2 g2 (by omega) (by simp) (by simp; omega) (few_snoc hf ⟨f1, ha⟩)
theorem line_ex (c : List Int) (p r : Int) (h : St c p) : ∃ l p' r', spec_l30Line.fv c p r = some (l, p', r') ∧ St c p' ∧ 1 ≤ l.length ∧ l.length ≤ 20 ∧ ∀ x ∈ l, few x := by
  rw [spec_l30Line.fv_eq]
  obtain ⟨s, d, e, p1, r1, e1, h1, hd, he⟩ := l13_ex c p r h
  rw [e1, Option.bind_some]
  obtain ⟨b, p2, r2, e2, h2, b0, b1⟩ := l1Below_ex c p1 r1 3 h1 (by decide)
  rw [e2, Option.bind_some, w64 (by omega) (by omega)]
  obtain ⟨n, hn⟩ : ∃ n : Nat, 1 + b = (n : Int) := ⟨(1 + b).toNat, by omega⟩
  rw [hn]
  exact line_l0 n _ c p2 r2 h2 (by omega) (by simp) (by simp; omega) (fun x hx => by
    rw [List.mem_singleton.1 hx]
    exact ⟨hd, he⟩)
theorem three_l0 (t : Int) (n : Nat) : ∀ (l q : List Mach) (i : Int), i + (n : Int) = 3 → 0 ≤ i → l.length + n ≤ 20 → q.length + n ≤ 20 → (∀ x ∈ l, few x) → (∀ x ∈ q, few x) → ∃ l' q', spec_l30Three.l0v t l q i = some (l', q') ∧ l'.length ≤ 20 ∧ q'.length ≤ 20 ∧ (∀ x ∈ l', few x) ∧ ∀ x ∈ q', few x := by
  induction n with
  | zero =>
    intro l q i hi _ hl hq fl fq
    rw [spec_l30Three.l0v_eq, if_neg (by omega)]
    exact ⟨l, q, rfl, by omega, by omega, fl, fq⟩
  | succ n ih =>
    intro l q i hi h0 hl hq fl fq
    have g1 : few (⟨2, [false, true], [⟨0, false, i, 1⟩] ++ [⟨0, false, wrap64 (i - 1), 1⟩]⟩ : Mach) := ⟨by simp, by simp⟩
    have g2 : few (⟨2, [false, true], [⟨0, false, i, 1⟩]⟩ : Mach) := ⟨by simp, by simp⟩
    have g3 : few (⟨2, [false, true], [⟨0, true, wrap64 (i + t), 1⟩]⟩ : Mach) := ⟨by simp, by simp⟩
    rw [spec_l30Three.l0v_eq, if_pos (by omega), Option.bind_some, if_pos (by simp), List.nil_append, Option.bind_some, w64 (x := i + 1) (by omega) (by omega)]
    by_cases c : i > 0
    · rw [if_pos c, if_pos (by simp), if_pos (by omega), if_pos (by omega)]
      exact ih _ _ (i + 1) (by omega) (by omega) (by simp; omega) (by simp; omega) (few_snoc fl g1) (few_snoc fq g3)
    · rw [if_neg c, if_pos (by omega), if_pos (by omega)]
      exact ih _ _ (i + 1) (by omega) (by omega) (by simp; omega) (by simp; omega) (few_snoc fl g2) (few_snoc fq g3)
theorem few_ok {x : Mach} (h : few x) : okM x := ⟨by have := h.1; omega, by have := h.2; omega⟩
theorem drawWorks_ex (c : List Int) (hc : c.length ≤ 1000000000000) : ∃ l s d m, spec_DrawWorksWith.fv c = some (l, s, d, m) ∧ l.length ≤ 20 ∧ (∀ x ∈ l, okM x) ∧ okM ⟨s, d, m⟩ := by
  rw [spec_DrawWorksWith.fv_eq]
  obtain ⟨r, e1, h1⟩ := l1New_ex c hc
  rw [e1, Option.bind_some]
  obtain ⟨l, p2, r2, e2, h2, l1, l2, hf⟩ := line_ex c 0 r h1
  rw [e2, Option.bind_some]
  obtain ⟨b, p3, r3, e3, h3⟩ := l1Once_ex c p2 r2 3 h2 (by decide)
  rw [e3, Option.bind_some]
  cases b with
  | true =>
    rw [if_pos rfl]
    obtain ⟨_, _, _, s, d, m, p4, r4, e4, _, hd, hm⟩ := l14_ex c p3 r3 h3
    rw [e4, Option.bind_some]
    exact ⟨l, s, d, m, rfl, l2, fun x hx => few_ok (hf x hx), by show d.length ≤ _; omega, by show m.length ≤ _; omega⟩
  | false =>
    rw [if_neg (by simp)]
    obtain ⟨i, p4, r4, e4, h4, i0, i1⟩ := l1Below_ex c p3 r3 (l.length : Int) h3 (by omega)
    rw [e4, Option.bind_some, if_pos i0, if_pos i1]
    obtain ⟨f1, f2⟩ := hf _ (rdM_in i0 i1)
    obtain ⟨m, e5, hm⟩ := dual_ex (rd_T34 l i).f0 _ _ f1 f2
    rw [e5, Option.bind_some]
    exact ⟨l, _, _, m, rfl, l2, fun x hx => few_ok (hf x hx), by show (rd_T34 l i).f1.length ≤ _; omega, by show m.length ≤ _; omega⟩
theorem drawFar_ex (c : List Int) (hc : c.length ≤ 1000000000000) : ∃ l i k, spec_DrawFarFollows.fv c = some (l, i, k) ∧ l.length ≤ 20 ∧ ∀ x ∈ l, okM x := by
  rw [spec_DrawFarFollows.fv_eq]
  obtain ⟨r, e1, h1⟩ := l1New_ex c hc
  rw [e1, Option.bind_some]
  obtain ⟨l, p2, r2, e2, h2, _, l2, hf⟩ := line_ex c 0 r h1
  rw [e2, Option.bind_some]
  obtain ⟨b, p3, r3, e3, h3⟩ := l1Below_any c p2 r2 3 h2
  rw [e3, Option.bind_some]
  obtain ⟨b2, p4, r4, e4, h4⟩ := l1Below_any c p3 r3 4 h3
  rw [e4, Option.bind_some]
  exact ⟨l, _, _, rfl, l2, fun x hx => few_ok (hf x hx)⟩
theorem nextOnly_l0 (c : List Int) (p r : Int) (h : St c p) (suf : List Mach) : ∀ (pre q : List Mach), (pre ++ suf).length ≤ 20 → q.length = pre.length → (∀ x ∈ pre ++ suf, few x) → (∀ x ∈ q, few x) →
    ∃ l' q', spec_DrawNextOnly.l0v (pre ++ suf) q (pre.length : Int) c p r = some (l', q') ∧ l'.length ≤ 20 ∧ (∀ x ∈ l', few x) ∧ ∀ x ∈ q', few x := by
  induction suf with
  | nil =>
    intro pre q hl hq fl fq
    rw [spec_DrawNextOnly.l0v_eq, if_neg (nlt_end pre)]
    obtain ⟨b, p1, r1, e1, h1⟩ := l1Once_ex c p r 3 h (by decide)
    rw [e1, Option.bind_some]
    cases b with
    | true =>
      rw [if_pos rfl]
      obtain ⟨t, p2, r2, e2, _⟩ := l1Below_any c p1 r1 2 h1
      rw [e2, Option.bind_some, spec_l30Three.fv_eq]
      obtain ⟨l', q', e3, a1, _, a2, a3⟩ := three_l0 t 3 [] [] 0 (by decide) (by decide) (by decide) (by decide) (fun x hx => by cases hx) (fun x hx => by cases hx)
      rw [e3, Option.bind_some]
      exact ⟨l', q', rfl, a1, a2, a3⟩
    | false =>
      rw [if_neg (by simp)]
      exact ⟨_, q, rfl, hl, fl, fq⟩
  | cons x suf ih =>
    intro pre q hl hq fl fq
    have hn : pre.length < (pre ++ x :: suf).length := by simp
    obtain ⟨f1, f2⟩ := fl x (by simp)
    obtain ⟨m, e1, hm⟩ := dual_ex x.f0 x.f1 x.f2 f1 f2
    rw [spec_DrawNextOnly.l0v_eq, if_pos (lt_mid pre suf x), if_pos (by omega), rdMach_mid, e1, Option.bind_some, if_pos (by omega), up_mid pre x hn (by omega)]
    rw [mid_snoc pre suf x] at hl fl ⊢
    exact ih (pre ++ [x]) _ hl (by simp [hq]) fl (few_snoc fq ⟨f1, by show m.length ≤ 1000; omega⟩)
theorem drawNext_ex (c : List Int) (hc : c.length ≤ 1000000000000) : ∃ l q, spec_DrawNextOnly.fv c = some (l, q) ∧ l.length ≤ 20 ∧ (∀ x ∈ l, okM x) ∧ ∀ x ∈ q, okM x := by
  rw [spec_DrawNextOnly.fv_eq]
  obtain ⟨r, e1, h1⟩ := l1New_ex c hc
  rw [e1, Option.bind_some]
  obtain ⟨l, p2, r2, e2, h2, _, l2, hf⟩ := line_ex c 0 r h1
  rw [e2, Option.bind_some]
  obtain ⟨l', q', e3, a1, a2, a3⟩ := nextOnly_l0 c p2 r2 h2 l [] [] (by simpa using l2) rfl (by simpa using hf) (fun x hx => by cases hx)
  exact ⟨l', q', by simpa using e3, a1, fun x hx => few_ok (a2 x hx), fun x hx => few_ok (a3 x hx)⟩
end Go.Proofs.Ytldcchjbaglppaa.Plain

/- FnLines: whatever the bytes that the law draws from, who works with one version of a line that follows works with all later ones. No condition. -/
set_option linter.unusedSimpArgs false
set_option linter.unusedVariables false
namespace Go.Proofs.Ytldcchjbaglppaa.Pure
open Go.RowKit Go.Proofs.YtldcchjbaglppaaW.PrintWords Go.Proofs.YtldcchjbaglppaaW.PrintMore Go.Proofs.Ytldcchjbaglppaa.Base Go.Proofs.Ytldcchjbaglppaa.Print Go.Proofs.Ytldcchjbaglppaa.Plain

theorem chain_l0 (h0 : Mach) (tl : List Mach) (suf : List Mach) : ∀ (pre : List Mach) (p : Mach), pre ++ p :: suf = h0 :: tl → (pre ++ p :: suf).length ≤ 1000000000000 → okM h0 → okM p → (∀ x ∈ suf, okM x) →
    impl_ChainFollows.l0v (pre ++ p :: suf) ((pre.length + 1 : Nat) : Int) = some (chainT p suf && isMa h0) := by
  induction suf with
  | nil =>
    intro pre p he hl hh _ _
    have e0 : rd_T34 (pre ++ [p]) 0 = h0 := by rw [he]; rfl
    have h1 : (0 : Int) < ((pre ++ [p]).length : Int) := by simp only [List.length_append, List.length_cons, List.length_nil]; omega
    rw [impl_ChainFollows.l0v_eq, if_neg (by simp), if_pos h1, if_pos h1, e0, implIsM_v h0.f0 h0.f1 h0.f2 hh.2, Option.bind_some]
    simp [chainT, isMa]
  | cons x suf ih =>
    intro pre p he hl hh hp hs
    have hx := hs x List.mem_cons_self
    have hl2 : pre.length < 1000000000000 := by rw [List.length_append, List.length_cons] at hl; omega
    have e0 : ((pre.length + 1 : Nat) : Int) = ((pre ++ [p]).length : Int) := by simp
    have e3 : pre ++ p :: x :: suf = (pre ++ [p]) ++ x :: suf := by simp
    have r1 : rd_T34 (pre ++ p :: x :: suf) ((pre.length + 1 : Nat) : Int) = x := by rw [e0, e3]; exact rdMach_mid (pre ++ [p]) suf x
    have r2 : rd_T34 (pre ++ p :: x :: suf) (pre.length : Int) = p := rdMach_mid pre (x :: suf) p
    have h2 := ih (pre ++ [p]) x (by rw [← e3]; exact he) (by rw [← e3]; exact hl) hh hx (fun y hy => hs y (List.mem_cons_of_mem _ hy))
    have e5 : (((pre ++ [p]).length + 1 : Nat) : Int) = ((pre.length + 1 : Nat) : Int) + 1 := by rw [List.length_append]; rfl
    rw [← e3, e5] at h2
    have hn : ((pre.length + 1 : Nat) : Int) < ((pre ++ p :: x :: suf).length : Int) := by simp; omega
    rw [impl_ChainFollows.l0v_eq, if_pos hn, if_pos (by omega), w64 (x := ((pre.length + 1 : Nat) : Int) - 1) (by omega) (by omega), show ((pre.length + 1 : Nat) : Int) - 1 = (pre.length : Int) by omega, if_pos (by omega), if_pos (by omega), r1, r2, implFol_v x p hx hp, Option.bind_some, w64 (by omega) (by omega), h2]
    simp only [chainT]
    cases follows x p <;> simp
theorem chain_v (l : List Mach) (hl : l.length ≤ 1000000000000) (hs : ∀ x ∈ l, okM x) : impl_ChainFollows.fv l = some (chainF l) := by
  rw [impl_ChainFollows.fv_eq]
  cases l with
  | nil =>
    rw [impl_ChainFollows.l0v_eq, if_neg (by simp), if_neg (by simp)]
    rfl
  | cons p l => exact chain_l0 p l l [] p rfl (by simpa using hl) (hs p List.mem_cons_self) (hs p List.mem_cons_self) (fun x hx => hs x (List.mem_cons_of_mem _ hx))
theorem lines_j2 (c : List Int) (hc : c.length ≤ 1000000000000) : laws_FnLines.j2v c false = some true := by
  rw [laws_FnLines.j2v_eq, if_neg (by decide)]
  obtain ⟨l, q, e, hl, hs, hq⟩ := drawNext_ex c hc
  rw [e, Option.bind_some, implNx_v l q (by omega) hs hq, Option.bind_some]
  cases hn : nextOnly l q with
  | false => simp
  | true => rw [if_pos rfl, chain_v l (by omega) hs, Option.bind_some, nextOnly_chain hn]; rfl
theorem lines_j1 (c : List Int) (hc : c.length ≤ 1000000000000) : laws_FnLines.j1v c = some true := by
  have h2 := lines_j2 c hc
  rw [laws_FnLines.j1v_eq]
  obtain ⟨l, i, k, e, hl, hs⟩ := drawFar_ex c hc
  rw [e, Option.bind_some]
  dsimp only
  rw [chain_v l (by omega) hs, Option.bind_some]
  cases hch : chainF l with
  | false => rw [if_neg (by decide)]; exact h2
  | true =>
    rw [if_pos rfl, implFar_v l i k hs, Option.bind_some, far_chain hch]
    by_cases h0 : i ≥ 0
    · rw [if_pos h0]
      by_cases h1 : i ≤ k
      · rw [if_pos h1, inR_true.2 ⟨h0, h1⟩, Bool.true_and, bne_self_eq_false]
        exact h2
      · have hf : inR 0 k i = false := by
          cases hb : inR 0 k i with
          | false => rfl
          | true => exact absurd (inR_true.1 hb).2 h1
        rw [if_neg h1, hf, Bool.false_and, bne_self_eq_false]
        exact h2
    · have hf : inR 0 k i = false := by
        cases hb : inR 0 k i with
        | false => rfl
        | true => exact absurd (inR_true.1 hb).1 h0
      rw [if_neg h0, hf, Bool.false_and, bne_self_eq_false]
      exact h2
theorem lines_j0 (c : List Int) (hc : c.length ≤ 1000000000000) (l : List Mach) (b : Mach) (hl : l.length ≤ 20) (hs : ∀ x ∈ l, okM x) : laws_FnLines.j0v c l (works b 0 l) false = some true := by
  have h1 := lines_j1 c hc
  rw [laws_FnLines.j0v_eq, if_neg (by decide), chain_v l (by omega) hs, Option.bind_some]
  cases hch : chainF l with
  | false => rw [if_neg (by decide)]; exact h1
  | true =>
    rw [if_pos rfl, implBr_v l (by omega) hs, Option.bind_some, breaksAt_chain hch, if_pos rfl]
    by_cases hw : ((works b 0 l).length : Int) > 0
    · have h3 := works_line b hch (by omega)
      have h4 := works_len b l 0
      have h5 : 0 ≤ rd (works b 0 l) 0 := by omega
      rw [if_pos hw, if_pos hw, w64 (by omega) (by omega), if_pos h3]
      exact h1
    · rw [if_neg hw]
      exact h1
theorem FnLines : laws_FnLines.Pure := by
  intro c _ _ _
  refine ends (g := fun k => laws_FnLines.f k c) ?_
  show laws_FnLines.fv c = some true
  rw [laws_FnLines.fv_eq]
  unfold laws_big.f
  simp only [Option.bind_some, decide_eq_true_eq]
  split
  · rfl
  · have hc : c.length ≤ 1000000000000 := by omega
    obtain ⟨l, s, d, m, e, hl, hs, hb⟩ := drawWorks_ex c hc
    have h0 := lines_j0 c hc l ⟨s, d, m⟩ hl hs
    have h4 := works_len ⟨s, d, m⟩ l 0
    have hn := lastOr_none (works ⟨s, d, m⟩ 0 l) (works_ge _ l 0)
    have e1 := implWorks_v l ⟨s, d, m⟩ (by omega) hs hb
    have e2 := implLatest_v l ⟨s, d, m⟩ (by omega) hs hb
    rw [e, Option.bind_some]
    dsimp only at e1 e2 ⊢
    rw [e1, Option.bind_some, e2, Option.bind_some]
    by_cases hz : (works ⟨s, d, m⟩ 0 l).length = 0
    · have hz2 := hn.2 hz
      rw [hz2, if_pos rfl, if_pos (by omega), if_neg (by decide)]
      exact h0
    · have hz2 : ¬ lastOr (works ⟨s, d, m⟩ 0 l) = -1 := fun h => hz (hn.1 h)
      have hge := works_ge _ l 0 _ (lastOr_mem hz)
      rw [if_neg hz2, if_neg (by omega), if_pos hge, w64 (by omega) (by omega), if_pos (by omega), if_pos (by omega)]
      have he : lastOr (works ⟨s, d, m⟩ 0 l) = rd (works ⟨s, d, m⟩ 0 l) (((works ⟨s, d, m⟩ 0 l).length : Int) - 1) := by
        unfold lastOr
        rw [if_neg hz]
      rw [← he, bne_self_eq_false]
      exact h0
end Go.Proofs.Ytldcchjbaglppaa.Pure
