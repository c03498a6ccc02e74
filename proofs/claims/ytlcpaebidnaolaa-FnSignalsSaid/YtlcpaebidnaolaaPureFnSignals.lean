/- FnSignals: whatever the bytes that the law draws from, nothing goes on unless enough went well, and hidden fallbacks count. No condition. -/
import Derived.Test.YtlcpaebidnaolaaLimsFnSignals
import Derived.Test.YtlcpaebidnaolaaPrint1
import Derived.Test.YtlcpaebidnaolaaPrint2
import Derived.Test.YtlcpaebidnaolaaPrint0
import Derived.Test.YtlcpaebidnaolaaPrint8
import Derived.Test.YtlcpaebidnaolaaPrint10
import Derived.Test.YtlcpaebidnaolaaPrint11
import Derived.Laws.Bits64b
/- Lists read by a whole number's index, and whole numbers that fit. No condition. -/
set_option linter.unusedSimpArgs false
set_option linter.unusedVariables false
namespace Go.Proofs.Ytlcpaebidnaolaa.Plain
open Go.RowKit Go.Proofs.YtlcpaebidnaolaaW.PrintWords

theorem w64 {x : Int} (h0 : -9223372036854775808 ≤ x) (h1 : x ≤ 9223372036854775807) : wrap64 x = x := by
  unfold wrap64
  omega
theorem rd_mid (pre suf : List Int) (x : Int) : rd (pre ++ x :: suf) (pre.length : Int) = x := by simp [rd]
theorem lt_mid {α : Type} (pre suf : List α) (x : α) : (pre.length : Int) < ((pre ++ x :: suf).length : Int) := by
  simp
  omega
theorem nlt_end {α : Type} (pre : List α) : ¬ (pre.length : Int) < ((pre ++ []).length : Int) := by simp
theorem up_mid {α : Type} (pre : List α) (x : α) {n : Nat} (h : pre.length < n) (hn : n ≤ 1000000000000) : wrap64 ((pre.length : Int) + 1) = ((pre ++ [x]).length : Int) := by
  rw [w64 (by omega) (by omega)]
  simp
theorem set_mid {α : Type} (pre suf : List α) (x y : α) : (pre ++ x :: suf).set (pre.length : Int).toNat y = (pre ++ [y]) ++ suf := by
  rw [Int.toNat_natCast, List.set_append_right _ _ (Nat.le_refl _), Nat.sub_self]
  simp
theorem mid_snoc {α : Type} (pre suf : List α) (x : α) : pre ++ x :: suf = (pre ++ [x]) ++ suf := by simp
theorem beq_ints (a b : List Int) : (a == b) = decide (a = b) := by
  by_cases h : a = b <;> simp [h]
end Go.Proofs.Ytlcpaebidnaolaa.Plain

/- Ranges, of the program and of the reference. No condition. -/
set_option linter.unusedSimpArgs false
set_option linter.unusedVariables false
namespace Go.Proofs.Ytlcpaebidnaolaa.Plain
open Go.RowKit Go.Proofs.YtlcpaebidnaolaaW.PrintWords Go.Proofs.Ytlcpaebidnaolaa.Base Go.Proofs.Ytlcpaebidnaolaa.Print

/-- lo ≤ n ≤ hi -/
def inR (lo hi n : Int) : Bool := decide (lo ≤ n) && decide (n ≤ hi)
theorem inR_true {lo hi n : Int} : inR lo hi n = true ↔ lo ≤ n ∧ n ≤ hi := by simp [inR]
theorem inR_false {lo hi n : Int} : inR lo hi n = false ↔ n < lo ∨ hi < n := by
  simp only [inR, Bool.and_eq_false_iff, decide_eq_false_iff_not]
  omega
theorem inRange_f (n lo hi : Int) : impl_InRange.f n lo hi = some (inR lo hi n) := by
  unfold impl_InRange.f inR
  by_cases h : lo ≤ n <;> simp [h]
theorem l1In_f (n lo hi : Int) : spec_l1In.f n lo hi = some (inR lo hi n) := by
  unfold spec_l1In.f inR
  by_cases h : lo ≤ n <;> simp [h]
end Go.Proofs.Ytlcpaebidnaolaa.Plain

/- Lists of numbers in a range. Condition: the slice has at most 10 to the 12 numbers. -/
set_option linter.unusedSimpArgs false
set_option linter.unusedVariables false
namespace Go.Proofs.Ytlcpaebidnaolaa.Plain
open Go.RowKit Go.Proofs.YtlcpaebidnaolaaW.PrintWords Go.Proofs.Ytlcpaebidnaolaa.Base Go.Proofs.Ytlcpaebidnaolaa.Print

theorem areNumbers_l0 (lo hi : Int) (suf : List Int) : ∀ (pre : List Int), (pre ++ suf).length ≤ 1000000000000 →
    ∃ r, slices_IndexFunc_int_int_with_impl_areNumbers_1.l0v (pre ++ suf) ((pre ++ suf).length : Int) (pre.length : Int) lo hi = some r ∧ decide (r ≥ 0) = !(suf.all (inR lo hi)) := by
  induction suf with
  | nil =>
    intro pre _
    refine ⟨-1, ?_, by simp⟩
    rw [slices_IndexFunc_int_int_with_impl_areNumbers_1.l0v_eq, if_neg (nlt_end pre)]
  | cons x suf ih =>
    intro pre hl
    have hn : pre.length < (pre ++ x :: suf).length := by simp
    rw [slices_IndexFunc_int_int_with_impl_areNumbers_1.l0v_eq, if_pos (lt_mid pre suf x), if_pos (by omega), if_pos (lt_mid pre suf x), rd_mid]
    unfold impl_areNumbers_1.f
    rw [inRange_f]
    simp only [Option.bind_some]
    cases hx : inR lo hi x with
    | false =>
      refine ⟨(pre.length : Int), by simp, ?_⟩
      simp [hx]
    | true =>
      rw [up_mid pre x hn hl]
      simp only [Bool.not_true, Bool.false_eq_true, if_false]
      rw [mid_snoc pre suf x] at hl ⊢
      obtain ⟨r, h1, h2⟩ := ih (pre ++ [x]) hl
      exact ⟨r, h1, by rw [h2]; simp [hx]⟩

theorem areNumbers_v (l : List Int) (lo hi : Int) (hl : l.length ≤ 1000000000000) : impl_areNumbers.fv l lo hi = some (l.all (inR lo hi)) := by
  obtain ⟨r, h1, h2⟩ := areNumbers_l0 lo hi l [] (by simpa using hl)
  rw [impl_areNumbers.fv_eq, slices_ContainsFunc_int_int_with_impl_areNumbers_1.fv_eq, slices_IndexFunc_int_int_with_impl_areNumbers_1.fv_eq]
  simp only [List.nil_append, List.length_nil, Int.natCast_zero] at h1
  rw [h1]
  simp [h2]
end Go.Proofs.Ytlcpaebidnaolaa.Plain

/- SignalOf, SignalName and MostBad, of the program. No condition. -/
set_option linter.unusedSimpArgs false
set_option linter.unusedVariables false
namespace Go.Proofs.Ytlcpaebidnaolaa.Plain
open Go.RowKit Go.Proofs.YtlcpaebidnaolaaW.PrintWords Go.Proofs.Ytlcpaebidnaolaa.Base Go.Proofs.Ytlcpaebidnaolaa.Print

/-- The signal of counts that can be counts. -/
def sigIn (x0 x1 x2 x3 : Int) : Int :=
  if wrap64 (100 * x1) > wrap64 (x3 * x2) ∧ wrap64 (100 * x1) > wrap64 (x3 * wrap64 (x0 + x1)) then 2
  else if wrap64 (x0 + x1) < x2 then 0
  else if wrap64 (100 * x1) ≤ wrap64 (x3 * wrap64 (x0 + x1)) then 1 else 2
/-- The signal, of whatever numbers. -/
def sigOf (x0 x1 x2 x3 : Int) : Int := if inR 0 10000 x0 && (inR 0 10000 x1 && (inR 1 10000 x2 && inR 0 100 x3)) then sigIn x0 x1 x2 x3 else 0

theorem sig_j0 (x0 x1 x2 x3 : Int) (b : Bool) : impl_SignalOf.j0v x0 x1 x2 x3 b = some (if b then 0 else sigIn x0 x1 x2 x3) := by
  rw [impl_SignalOf.j0v_eq]
  cases b with
  | true => rfl
  | false =>
    rw [if_neg (by simp)]
    simp only [impl_SignalOf.j1v_eq, sigIn]
    by_cases h1 : wrap64 (100 * x1) > wrap64 (x3 * x2)
    · by_cases h2 : wrap64 (100 * x1) > wrap64 (x3 * wrap64 (x0 + x1))
      · simp [h1, h2]
      · simp only [h1, h2, if_true, decide_false, Bool.false_eq_true, if_false, true_and, and_false]
        by_cases h3 : wrap64 (x0 + x1) < x2
        · simp [h3]
        · by_cases h4 : wrap64 (100 * x1) ≤ wrap64 (x3 * wrap64 (x0 + x1)) <;> simp [h3, h4]
    · simp only [h1, if_false, Bool.false_eq_true, false_and]
      by_cases h3 : wrap64 (x0 + x1) < x2
      · simp [h3]
      · by_cases h4 : wrap64 (100 * x1) ≤ wrap64 (x3 * wrap64 (x0 + x1)) <;> simp [h3, h4]
theorem implSig_v (x0 x1 x2 x3 : Int) : impl_SignalOf.fv x0 x1 x2 x3 = some (sigOf x0 x1 x2 x3) := by
  have h : inR 1 10000 x2 = (inR 0 10000 x2 && !decide (x2 = 0)) := by
    rw [Bool.eq_iff_iff]
    simp only [inR, Bool.and_eq_true, decide_eq_true_eq, Bool.not_eq_true', decide_eq_false_iff_not]
    omega
  rw [impl_SignalOf.fv_eq]
  simp only [areNumbers_v [x0, x1, x2] 0 10000 (by simp), inRange_f, Option.bind_some, sig_j0, sigOf, h, List.all_cons, List.all_nil, Bool.and_true]
  cases inR 0 10000 x0 with
  | false => simp
  | true =>
    cases inR 0 10000 x1 with
    | false => simp
    | true =>
      cases inR 0 10000 x2 with
      | false => simp
      | true => by_cases h0 : x2 = 0 <;> cases inR 0 100 x3 <;> simp [h0]

/-- What a signal says of the counts. -/
theorem sig_cases (x0 x1 x2 x3 : Int) : sigOf x0 x1 x2 x3 = 0 ∨ (sigOf x0 x1 x2 x3 = 1 ∧ ¬ wrap64 (x0 + x1) < x2 ∧ wrap64 (100 * x1) ≤ wrap64 (x3 * wrap64 (x0 + x1))) ∨ (sigOf x0 x1 x2 x3 = 2 ∧ ¬ wrap64 (100 * x1) ≤ wrap64 (x3 * wrap64 (x0 + x1))) := by
  unfold sigOf
  split
  · unfold sigIn
    split
    · rename_i h
      exact .inr (.inr ⟨rfl, by omega⟩)
    · split
      · exact .inl rfl
      · rename_i h
        split
        · rename_i h2
          exact .inr (.inl ⟨rfl, h, h2⟩)
        · rename_i h2
          exact .inr (.inr ⟨rfl, h2⟩)
  · exact .inl rfl
theorem name_ne (s : Int) (h : s = 0 ∨ s = 1 ∨ s = 2) : ∃ b : ByteArray, impl_SignalName.f s = some b ∧ b.toList ≠ [] := by
  unfold impl_SignalName.f
  rw [inRange_f]
  rcases h with rfl | rfl | rfl
  · exact ⟨_, rfl, by rw [ByteArray.toList_eq]; simp⟩
  · exact ⟨_, rfl, by rw [ByteArray.toList_eq]; simp⟩
  · exact ⟨_, rfl, by rw [ByteArray.toList_eq]; simp⟩
/-- The fewest that are too many. -/
def most (n p : Int) : Int := if inR 1 10000 n && inR 0 100 p then p * n / 100 + 1 else 0
theorem mul_in {n p : Int} (hn : 0 ≤ n) (hn2 : n ≤ 10000) (hp : 0 ≤ p) (hp2 : p ≤ 100) : 0 ≤ p * n ∧ p * n ≤ 1000000 := by
  have b0 : 0 ≤ p * n := Int.mul_nonneg hp hn
  have b1 : p * n ≤ 100 * 10000 := Int.mul_le_mul hp2 hn2 hn (by omega)
  omega
theorem implMost_v (n p : Int) : impl_MostBad.f n p = some (most n p) := by
  unfold impl_MostBad.f most
  rw [inRange_f, inRange_f]
  simp only [Option.bind_some]
  rcases Bool.eq_false_or_eq_true (inR 1 10000 n) with h1 | h1
  · rcases Bool.eq_false_or_eq_true (inR 0 100 p) with h2 | h2
    · have a := inR_true.mp h1
      have b := inR_true.mp h2
      have c := mul_in (n := n) (p := p) (by omega) a.2 b.1 b.2
      rw [h1, h2, if_pos rfl, if_pos rfl, if_pos (by rfl), w64 (x := p * n) (by omega) (by omega), Int.tdiv_eq_ediv_of_nonneg c.1, w64 (x := p * n / 100) (by omega) (by omega), w64 (by omega) (by omega)]
    · simp [h1, h2]
  · simp [h1]
theorem sig_most (n p g : Int) (h0 : most n p > 0) (h1 : most n p ≤ n) (hg : g = 0 ∨ g = n - most n p) : sigOf g (most n p) n p = 2 := by
  have hin : (inR 1 10000 n && inR 0 100 p) = true := by
    rcases Bool.eq_false_or_eq_true (inR 1 10000 n && inR 0 100 p) with h | h
    · exact h
    · unfold most at h0
      rw [h] at h0
      simp at h0
  have e : most n p = p * n / 100 + 1 := by
    unfold most
    rw [if_pos hin]
  rw [Bool.and_eq_true, inR_true, inR_true] at hin
  have c := mul_in (n := n) (p := p) (by omega) hin.1.2 hin.2.1 hin.2.2
  generalize most n p = m at h0 h1 hg e ⊢
  have hp : p ≤ 99 := by
    rcases Int.lt_or_le p 100 with hp | hp
    · omega
    · obtain rfl : p = 100 := by omega
      omega
  have c2 := mul_in (n := m) (p := p) (by omega) (by omega) hin.2.1 hin.2.2
  have c3 : p * m ≤ 99 * m := Int.mul_le_mul_of_nonneg_right hp (by omega)
  have k1 : 100 * m > p * n := by omega
  have k2 : 100 * m > p * (g + m) := by
    rcases hg with rfl | rfl
    · rw [Int.zero_add]
      omega
    · rw [Int.sub_add_cancel]
      exact k1
  have c4 : 0 ≤ p * (g + m) := Int.mul_nonneg hin.2.1 (by omega)
  have i1 : inR 0 10000 g = true := inR_true.mpr (by omega)
  have i2 : inR 0 10000 m = true := inR_true.mpr (by omega)
  have i3 : inR 1 10000 n = true := inR_true.mpr (by omega)
  have i4 : inR 0 100 p = true := inR_true.mpr (by omega)
  unfold sigOf sigIn
  rw [i1, i2, i3, i4, if_pos (by rfl), w64 (x := g + m) (by omega) (by omega), w64 (x := 100 * m) (by omega) (by omega), w64 (x := p * n) (by omega) (by omega), w64 (x := p * (g + m)) (by omega) (by omega), if_pos ⟨k1, k2⟩]
end Go.Proofs.Ytlcpaebidnaolaa.Plain

/- Lists of versions: ascending, from 1 to 9; membership; what two lists share. No program. No condition. -/
set_option linter.unusedSimpArgs false
set_option linter.unusedVariables false
namespace Go.Proofs.Ytlcpaebidnaolaa.Plain
open Go.RowKit Go.Proofs.YtlcpaebidnaolaaW.PrintWords Go.Proofs.Ytlcpaebidnaolaa.Base Go.Proofs.Ytlcpaebidnaolaa.Print

/-- Versions that grow, all above p. -/
def vers : Int → List Int → Bool
  | _, [] => true
  | p, x :: l => inR 1 9 x && (decide (p < x) && vers x l)
/-- A list of versions, and not empty. -/
def areV (l : List Int) : Bool := vers 0 l && decide (0 < l.length)
/-- Is x in the list? -/
def mem (l : List Int) (x : Int) : Bool := decide (x ∈ l)
/-- What two lists share. -/
def com (a b : List Int) : List Int := a.filter (mem b)
/-- The best version that two lists share. -/
def best (a b : List Int) : Int := if areV a && areV b then (com a b).getLastD 0 else 0
theorem mem_cons (x y : Int) (l : List Int) : mem (y :: l) x = (decide (y = x) || mem l x) := by
  by_cases h : y = x
  · simp [mem, h]
  · have h' : ¬ x = y := fun e => h e.symm
    simp [mem, h, h']
theorem mem_nil (x : Int) : mem [] x = false := by simp [mem]
theorem vers_le {p q : Int} {l : List Int} (h : vers p l = true) (hq : q ≤ p) : vers q l = true := by
  cases l with
  | nil => rfl
  | cons x l =>
    simp only [vers, Bool.and_eq_true, decide_eq_true_eq] at h ⊢
    exact ⟨h.1, by omega, h.2.2⟩
theorem vers_filter (f : Int → Bool) {l : List Int} : ∀ {p : Int}, vers p l = true → vers p (l.filter f) = true := by
  induction l with
  | nil =>
    intro p h
    rfl
  | cons x l ih =>
    intro p h
    simp only [vers, Bool.and_eq_true, decide_eq_true_eq] at h
    cases hf : f x with
    | true =>
      rw [List.filter_cons_of_pos hf]
      simp only [vers, Bool.and_eq_true, decide_eq_true_eq]
      exact ⟨h.1, h.2.1, ih h.2.2⟩
    | false =>
      rw [List.filter_cons_of_neg (by simp [hf])]
      exact vers_le (ih h.2.2) (by omega)
theorem vers_len {l : List Int} : ∀ {p : Int}, vers p l = true → p ≤ 9 → (l.length : Int) ≤ 9 - p := by
  induction l with
  | nil =>
    intro p _ hp
    simp
    omega
  | cons x l ih =>
    intro p h hp
    simp only [vers, Bool.and_eq_true, decide_eq_true_eq, inR_true] at h
    have := ih h.2.2 (by omega)
    simp only [List.length_cons]
    omega
theorem areV_len {l : List Int} (h : areV l = true) : l.length ≤ 9 := by
  simp only [areV, Bool.and_eq_true] at h
  have := vers_len h.1 (by omega)
  omega
theorem vers_mem {l : List Int} : ∀ {p : Int}, vers p l = true → ∀ x ∈ l, 1 ≤ x ∧ x ≤ 9 ∧ p < x := by
  induction l with
  | nil =>
    intro p _ x hx
    cases hx
  | cons y l ih =>
    intro p h x hx
    simp only [vers, Bool.and_eq_true, decide_eq_true_eq, inR_true] at h
    cases hx with
    | head => omega
    | tail _ hx =>
      have := ih h.2.2 x hx
      omega
theorem areV_mem {l : List Int} (h : areV l = true) : ∀ x ∈ l, 1 ≤ x ∧ x ≤ 9 := by
  simp only [areV, Bool.and_eq_true] at h
  intro x hx
  have := vers_mem h.1 x hx
  omega
theorem com_len (a b : List Int) : (com a b).length ≤ a.length := List.length_filter_le _ _
theorem lastD_cons (x : Int) (l : List Int) (d : Int) : (x :: l).getLastD d = l.getLastD x := by
  cases l <;> rfl
theorem rd_lastD (pre suf : List Int) (h : pre ≠ []) : rd (pre ++ suf) ((pre.length : Int) - 1) = pre.getLastD 0 := by
  have hl : 0 < pre.length := List.length_pos_iff.mpr h
  have e : ((pre.length : Int) - 1).toNat = pre.length - 1 := by omega
  have h1 : pre.length - 1 < pre.length := by omega
  simp [rd, e, List.getD_eq_getElem?_getD, List.getElem?_append_left h1, List.getLastD_eq_getLast?, List.getLast?_eq_getElem?]
theorem lastD_mem (l : List Int) (h : l ≠ []) (d : Int) : l.getLastD d ∈ l := by
  cases l with
  | nil => exact absurd rfl h
  | cons x l => exact List.getLast_mem _
end Go.Proofs.Ytlcpaebidnaolaa.Plain

/- How many dials went well and how many badly. No program. No condition. -/
set_option linter.unusedSimpArgs false
set_option linter.unusedVariables false
namespace Go.Proofs.Ytlcpaebidnaolaa.Plain
open Go.RowKit Go.Proofs.YtlcpaebidnaolaaW.PrintWords Go.Proofs.Ytlcpaebidnaolaa.Base Go.Proofs.Ytlcpaebidnaolaa.Print

def badD (v : Int) (d : S50) : Bool := !d.f0.f0 || (decide (d.f0.f1 < v) && mem d.f2 v)
def masks (v : Int) : Int → Int → List S50 → Int × Int
  | g, b, [] => (g, b)
  | g, b, d :: l => if badD v d then masks v g (wrap64 (b + 1)) l else if d.f0.f1 ≥ v then masks v (wrap64 (g + 1)) b l else masks v g b l
end Go.Proofs.Ytlcpaebidnaolaa.Plain

/- A row of dials, read. No program. No condition. -/
set_option linter.unusedSimpArgs false
set_option linter.unusedVariables false
namespace Go.Proofs.Ytlcpaebidnaolaa.Plain
open Go.RowKit Go.Proofs.YtlcpaebidnaolaaW.PrintWords Go.Proofs.Ytlcpaebidnaolaa.Base Go.Proofs.Ytlcpaebidnaolaa.Print

theorem rdDial_mid (pre suf : List S50) (x : S50) : rd_T50 (pre ++ x :: suf) (pre.length : Int) = x := by simp [rd_T50]
/-- Its rows are not too long. -/
def okD (d : S50) : Prop := d.f0.f2.length ≤ 1000000000000 ∧ d.f2.length ≤ 1000000000000
end Go.Proofs.Ytlcpaebidnaolaa.Plain

/- How many dials are counted, and how many hidden ones. No program. No condition. -/
set_option linter.unusedSimpArgs false
set_option linter.unusedVariables false
namespace Go.Proofs.Ytlcpaebidnaolaa.Plain
open Go.RowKit Go.Proofs.YtlcpaebidnaolaaW.PrintWords Go.Proofs.Ytlcpaebidnaolaa.Base Go.Proofs.Ytlcpaebidnaolaa.Print

/-- How many went well by way of something less, with the version given up. -/
def hid (v : Int) : List S50 → Int
  | [] => 0
  | d :: l => (if d.f0.f0 = true ∧ d.f0.f1 < v ∧ mem d.f2 v = true then 1 else 0) + hid v l
theorem masks_in (v : Int) (l : List S50) : ∀ g b : Int, 0 ≤ g → 0 ≤ b → g + b + l.length ≤ 1000000 → 0 ≤ (masks v g b l).1 ∧ 0 ≤ (masks v g b l).2 ∧ (masks v g b l).1 + (masks v g b l).2 ≤ g + b + l.length ∧ b + hid v l ≤ (masks v g b l).2 := by
  induction l with
  | nil =>
    intro g b h0 h1 h
    simp only [masks, hid, List.length_nil]
    omega
  | cons d l ih =>
    intro g b h0 h1 h
    simp only [List.length_cons] at h ⊢
    simp only [masks, hid]
    have hb : badD v d = false → ¬ (d.f0.f0 = true ∧ d.f0.f1 < v ∧ mem d.f2 v = true) := by
      intro hb hc
      unfold badD at hb
      rw [hc.1, hc.2.2] at hb
      simp at hb
      omega
    have hc : (if d.f0.f0 = true ∧ d.f0.f1 < v ∧ mem d.f2 v = true then (1 : Int) else 0) ≤ 1 := by
      split <;> omega
    rcases Bool.eq_false_or_eq_true (badD v d) with h3 | h3
    · rw [if_pos h3, w64 (by omega) (by omega)]
      have := ih g (b + 1) h0 (by omega) (by omega)
      omega
    · rw [if_neg (by simp [h3]), if_neg (hb h3)]
      split
      · rw [w64 (by omega) (by omega)]
        have := ih (g + 1) b (by omega) h1 (by omega)
        omega
      · have := ih g b h0 h1 (by omega)
        omega
theorem hid_le (v : Int) (l : List S50) : 0 ≤ hid v l ∧ hid v l ≤ l.length := by
  induction l with
  | nil => simp [hid]
  | cons d l ih =>
    simp only [hid, List.length_cons]
    split <;> omega
end Go.Proofs.Ytlcpaebidnaolaa.Plain

/- slices.Contains on whole numbers. Condition: at most 10 to the 12 numbers. -/
set_option linter.unusedSimpArgs false
set_option linter.unusedVariables false
namespace Go.Proofs.Ytlcpaebidnaolaa.Plain
open Go.RowKit Go.Proofs.YtlcpaebidnaolaaW.PrintWords Go.Proofs.Ytlcpaebidnaolaa.Base Go.Proofs.Ytlcpaebidnaolaa.Print

theorem slIndex_l0 (x : Int) (suf : List Int) : ∀ (pre : List Int), (pre ++ suf).length ≤ 1000000000000 →
    ∃ r, slices_Index_int_int.l0v (pre ++ suf) x ((pre ++ suf).length : Int) (pre.length : Int) = some r ∧ decide (r ≥ 0) = mem suf x := by
  induction suf with
  | nil =>
    intro pre _
    refine ⟨-1, ?_, by simp [mem]⟩
    rw [slices_Index_int_int.l0v_eq, if_neg (nlt_end pre)]
  | cons y suf ih =>
    intro pre hl
    have hn : pre.length < (pre ++ y :: suf).length := by simp
    rw [slices_Index_int_int.l0v_eq, if_pos (lt_mid pre suf y), if_pos (by omega), if_pos (lt_mid pre suf y), rd_mid]
    by_cases hxy : x = y
    · rw [if_pos hxy]
      refine ⟨(pre.length : Int), rfl, ?_⟩
      rw [mem_cons, hxy]
      simp
    · rw [if_neg hxy, up_mid pre y hn hl]
      rw [mid_snoc pre suf y] at hl ⊢
      obtain ⟨r, h1, h2⟩ := ih (pre ++ [y]) hl
      refine ⟨r, h1, ?_⟩
      rw [h2, mem_cons]
      simp [show ¬ y = x from fun e => hxy e.symm]
theorem slHas_v (l : List Int) (x : Int) (hl : l.length ≤ 1000000000000) : slices_Contains_int_int.fv l x = some (mem l x) := by
  obtain ⟨r, h1, h2⟩ := slIndex_l0 x l [] (by simpa using hl)
  rw [slices_Contains_int_int.fv_eq, slices_Index_int_int.fv_eq]
  simp only [List.nil_append, List.length_nil, Int.natCast_zero] at h1
  rw [h1]
  simp [h2]
end Go.Proofs.Ytlcpaebidnaolaa.Plain

/- MaskedBy, of the program. Condition: at most 10 to the 12 of each. -/
set_option linter.unusedSimpArgs false
set_option linter.unusedVariables false
namespace Go.Proofs.Ytlcpaebidnaolaa.Plain
open Go.RowKit Go.Proofs.YtlcpaebidnaolaaW.PrintWords Go.Proofs.Ytlcpaebidnaolaa.Base Go.Proofs.Ytlcpaebidnaolaa.Print

theorem implBad_v (v : Int) (d : S50) (h : okD d) : impl_isBad.fv d.f0.f0 d.f0.f1 d.f0.f2 d.f1 d.f2 v = some (badD v d) := by
  rw [impl_isBad.fv_eq, slHas_v _ _ h.2]
  simp only [Option.bind_some, badD]
  generalize mem d.f2 v = x
  by_cases h1 : d.f0.f1 < v <;> cases d.f0.f0 <;> simp [h1]
theorem implMasked_l0 (v : Int) (suf : List S50) : ∀ (pre : List S50) (g b : Int), (pre ++ suf).length ≤ 1000000000000 → (∀ x ∈ suf, okD x) →
    impl_MaskedBy.l0v v g b (pre ++ suf) ((pre ++ suf).length : Int) (pre.length : Int) = some (masks v g b suf) := by
  induction suf with
  | nil =>
    intro pre g b _ _
    rw [impl_MaskedBy.l0v_eq, if_neg (nlt_end pre)]
    rfl
  | cons x suf ih =>
    intro pre g b hl hs
    have hn : pre.length < (pre ++ x :: suf).length := by simp
    rw [impl_MaskedBy.l0v_eq, if_pos (lt_mid pre suf x), if_pos (by omega), if_pos (lt_mid pre suf x), rdDial_mid, implBad_v v x (hs x List.mem_cons_self), up_mid pre x hn hl]
    simp only [Option.bind_some, masks]
    rw [mid_snoc pre suf x] at hl ⊢
    have hs' : ∀ y ∈ suf, okD y := fun y hy => hs y (List.mem_cons_of_mem _ hy)
    by_cases h1 : badD v x = true
    · rw [if_pos h1, if_pos h1]
      exact ih (pre ++ [x]) _ _ hl hs'
    · rw [if_neg h1, if_neg h1]
      by_cases h2 : x.f0.f1 ≥ v
      · rw [if_pos h2, if_pos h2]
        exact ih (pre ++ [x]) _ _ hl hs'
      · rw [if_neg h2, if_neg h2]
        exact ih (pre ++ [x]) _ _ hl hs'
theorem implMasked_v (l : List S50) (v : Int) (hl : l.length ≤ 1000000000000) (hs : ∀ x ∈ l, okD x) : impl_MaskedBy.fv l v = some (masks v 0 0 l) := by
  rw [impl_MaskedBy.fv_eq]
  simpa using implMasked_l0 v l [] 0 0 (by simpa using hl) hs
end Go.Proofs.Ytlcpaebidnaolaa.Plain

/- Extensions and hellos in form. No program. No condition. -/
set_option linter.unusedSimpArgs false
set_option linter.unusedVariables false
namespace Go.Proofs.Ytlcpaebidnaolaa.Plain
open Go.RowKit Go.Proofs.YtlcpaebidnaolaaW.PrintWords Go.Proofs.Ytlcpaebidnaolaa.Base Go.Proofs.Ytlcpaebidnaolaa.Print

theorem rdExt_mid (pre suf : List S113) (x : S113) : rd_T113 (pre ++ x :: suf) (pre.length : Int) = x := by simp [rd_T113]
def hasT (l : List S113) (t : Int) : Bool := l.any (fun y => decide (y.f0 = t))
/-- Are these extensions in form, behind others? -/
def areX : List S113 → List S113 → Bool
  | _, [] => true
  | pre, x :: l => inR 0 255 x.f0 && (!hasT pre x.f0 && (decide (x.f1.length ≤ 4) && (x.f1.all (inR 0 255) && areX (pre ++ [x]) l)))
def isX (l : List S113) : Bool := areX [] l && decide (l.length ≤ 6)
def isH (v : List Int) (l : List S113) : Bool := areV v && isX l
/-- Its bodies are not too long. -/
def okXs (l : List S113) : Prop := ∀ x ∈ l, x.f1.length ≤ 1000000000000
theorem areX_body {l : List S113} : ∀ {pre}, areX pre l = true → ∀ x ∈ l, x.f1.length ≤ 4 := by
  induction l with
  | nil =>
    intro pre _ x hx
    cases hx
  | cons y l ih =>
    intro pre h x hx
    simp only [areX, Bool.and_eq_true, decide_eq_true_eq] at h
    cases hx with
    | head => exact h.2.2.1
    | tail _ hx => exact ih h.2.2.2.2 x hx
end Go.Proofs.Ytlcpaebidnaolaa.Plain

/- When two boxes, and two paths, are the same. No program. No condition. -/
set_option linter.unusedSimpArgs false
set_option linter.unusedVariables false
namespace Go.Proofs.Ytlcpaebidnaolaa.Plain
open Go.RowKit Go.Proofs.YtlcpaebidnaolaaW.PrintWords Go.Proofs.Ytlcpaebidnaolaa.Base Go.Proofs.Ytlcpaebidnaolaa.Print

theorem rdBox_mid (pre suf : List S89) (x : S89) : rd_T89 (pre ++ x :: suf) (pre.length : Int) = x := by simp [rd_T89]
/-- Its rows are not too long. -/
def okB (b : S89) : Prop := b.f1.length ≤ 1000000000000 ∧ b.f2.length ≤ 1000000000000
def eqB (a b : S89) : Bool := decide (a.f0 = b.f0) && (decide (a.f1 = b.f1) && (decide (a.f2 = b.f2) && (a.f3 == b.f3)))
def eqBs : List S89 → List S89 → Bool
  | [], [] => true
  | a :: l, b :: m => eqB a b && eqBs l m
  | _, _ => false
theorem eqBs_len {l m : List S89} : l.length ≠ m.length → eqBs l m = false := by
  induction l generalizing m with
  | nil =>
    intro h
    cases m with
    | nil => exact absurd rfl h
    | cons b m => rfl
  | cons a l ih =>
    intro h
    cases m with
    | nil => rfl
    | cons b m =>
      simp only [eqBs]
      rw [ih (by simpa using h), Bool.and_false]
end Go.Proofs.Ytlcpaebidnaolaa.Plain

/- When a box, a list of tags and an endpoint are in form. No program. No condition. -/
set_option linter.unusedSimpArgs false
set_option linter.unusedVariables false
namespace Go.Proofs.Ytlcpaebidnaolaa.Plain
open Go.RowKit Go.Proofs.YtlcpaebidnaolaaW.PrintWords Go.Proofs.Ytlcpaebidnaolaa.Base Go.Proofs.Ytlcpaebidnaolaa.Print

def isB (b : S89) : Bool := inR 0 9 b.f0 && (decide (b.f1.length ≤ 6) && (decide (b.f2.length ≤ 6) && (b.f1.all (inR 0 255) && b.f2.all (inR 0 255))))
/-- Is a tag one of those that mean nothing? -/
def res (x : Int) : Bool := inR 0 255 x && (Int.tmod x 16 == 10)
/-- Is x above the one before it? -/
def above : Option Int → Int → Bool
  | none, _ => true
  | some p, x => decide (p < x)
def asc : Option Int → List Int → Bool
  | _, [] => true
  | o, x :: l => above o x && asc (some x) l
/-- The same with all that the reference asks of a tag. -/
def tagsS : Option Int → List Int → Bool
  | _, [] => true
  | o, x :: l => inR 0 255 x && (!res x && (above o x && tagsS (some x) l))
theorem tagsS_eq (l : List Int) : ∀ o, tagsS o l = ((asc o l && l.all (inR 0 255)) && !(l.any res)) := by
  induction l with
  | nil =>
    intro o
    rfl
  | cons x l ih =>
    intro o
    simp only [tagsS, asc, List.all_cons, List.any_cons, ih]
    cases inR 0 255 x <;> cases res x <;> cases above o x <;> cases asc (some x) l <;> cases l.all (inR 0 255) <;> cases l.any res <;> rfl
/-- Is an endpoint in form? -/
def isE (v t : List Int) (p : List S89) (c : Int) : Bool :=
  areV v && (decide (t.length ≤ 5) && ((asc none t && t.all (inR 0 255)) && (!(t.any res) && (decide (p.length ≤ 4) && (p.all isB && inR 0 5 c)))))
theorem lastO (pre suf : List Int) (h : pre ≠ []) : pre.getLast? = some (rd (pre ++ suf) ((pre.length : Int) - 1)) := by
  rw [rd_lastD pre suf h, List.getLast?_eq_some_getLast h]
  cases pre with
  | nil => exact absurd rfl h
  | cons x l => rfl
end Go.Proofs.Ytlcpaebidnaolaa.Plain

/- What a box does to a hello. No program. No condition. -/
set_option linter.unusedSimpArgs false
set_option linter.unusedVariables false
namespace Go.Proofs.Ytlcpaebidnaolaa.Plain
open Go.RowKit Go.Proofs.YtlcpaebidnaolaaW.PrintWords Go.Proofs.Ytlcpaebidnaolaa.Base Go.Proofs.Ytlcpaebidnaolaa.Print

/-- Does a box drop what has this tag? -/
def drops (b : S89) (t : Int) : Bool := mem b.f1 t || (b.f3 && (!mem b.f2 t && !inR 1 3 t))
/-- Does a box lose a hello? -/
def lose (b : S89) (v : List Int) (l : List S113) : Bool := (!decide (b.f0 = 0) && decide (v.getLastD 0 > b.f0)) || l.any (fun x => drops b x.f0)
/-- What a box leaves of the extensions. -/
def kept (b : S89) (l : List S113) : List S113 := l.filter (fun x => !mem b.f2 x.f0)
def pass (b : S89) (v : List Int) (l : List S113) : List Int × List S113 × Bool :=
  if isB b && (isH v l && !lose b v l) then (v, kept b l, true) else ([], [], false)
end Go.Proofs.Ytlcpaebidnaolaa.Plain

/- What a path does to a hello, and what it loses. No program. No condition. -/
set_option linter.unusedSimpArgs false
set_option linter.unusedVariables false
namespace Go.Proofs.Ytlcpaebidnaolaa.Plain
open Go.RowKit Go.Proofs.YtlcpaebidnaolaaW.PrintWords Go.Proofs.Ytlcpaebidnaolaa.Base Go.Proofs.Ytlcpaebidnaolaa.Print

def goP : List S89 → Bool → List Int → List S113 → List Int × List S113 × Bool
  | [], o, v, l => (v, l, o)
  | b :: p, o, v, l => if o then goP p (pass b v l).2.2 (pass b v l).1 (pass b v l).2.1 else (v, l, o)
def passP (p : List S89) (v : List Int) (l : List S113) : List Int × List S113 × Bool := if isH v l && decide (p.length ≤ 4) then goP p true v l else ([], [], false)
def openP (p : List S89) (v : List Int) : Bool := areV v && (passP p (v.take 1) []).2.2
def eqX (a b : S113) : Bool := decide (a.f0 = b.f0) && decide (a.f1 = b.f1)
def eqXs : List S113 → List S113 → Bool
  | [], [] => true
  | a :: l, b :: m => eqX a b && eqXs l m
  | _, _ => false
def whole (v : List Int) (l : List S113) (p : List S89) : Bool := (passP p v l).2.2 && (decide ((passP p v l).1 = v) && eqXs (passP p v l).2.1 l)
/-- The tags that a path loses. -/
def lostT (p : List S89) (v : List Int) (l : List S113) : List Int := if openP p v && isX l then (l.filter (fun x => !whole (v.take 1) [x] p)).map (·.f0) else []
theorem eqXs_len {l m : List S113} : l.length ≠ m.length → eqXs l m = false := by
  induction l generalizing m with
  | nil =>
    intro h
    cases m with
    | nil => exact absurd rfl h
    | cons b m => rfl
  | cons a l ih =>
    intro h
    cases m with
    | nil => rfl
    | cons b m =>
      simp only [eqXs]
      rw [ih (by simpa using h), Bool.and_false]
theorem kept_len (b : S89) (l : List S113) : (kept b l).length ≤ l.length := List.length_filter_le _ _
theorem kept_ok {b : S89} {l : List S113} (h : okXs l) : okXs (kept b l) := fun x hx => h x (List.mem_filter.mp hx).1
theorem pass_ok (b : S89) (v : List Int) (l : List S113) (h : okXs l) : (pass b v l).1.length ≤ v.length ∧ (pass b v l).2.1.length ≤ l.length ∧ okXs (pass b v l).2.1 := by
  unfold pass
  split
  · exact ⟨Nat.le_refl _, kept_len b l, kept_ok h⟩
  · exact ⟨Nat.zero_le _, Nat.zero_le _, fun x hx => by cases hx⟩
theorem goP_ok (p : List S89) : ∀ (o : Bool) (v : List Int) (l : List S113), okXs l → (goP p o v l).1.length ≤ v.length ∧ (goP p o v l).2.1.length ≤ l.length ∧ okXs (goP p o v l).2.1 := by
  induction p with
  | nil =>
    intro o v l h
    exact ⟨Nat.le_refl _, Nat.le_refl _, h⟩
  | cons b p ih =>
    intro o v l h
    unfold goP
    split
    · obtain ⟨a1, a2, a3⟩ := pass_ok b v l h
      obtain ⟨b1, b2, b3⟩ := ih (pass b v l).2.2 (pass b v l).1 (pass b v l).2.1 a3
      exact ⟨Nat.le_trans b1 a1, Nat.le_trans b2 a2, b3⟩
    · exact ⟨Nat.le_refl _, Nat.le_refl _, h⟩
theorem passP_ok (p : List S89) (v : List Int) (l : List S113) (h : okXs l) : (passP p v l).1.length ≤ v.length ∧ (passP p v l).2.1.length ≤ l.length ∧ okXs (passP p v l).2.1 := by
  unfold passP
  split
  · exact goP_ok p true v l h
  · exact ⟨Nat.zero_le _, Nat.zero_le _, fun x hx => by cases hx⟩
end Go.Proofs.Ytlcpaebidnaolaa.Plain

/- AreVersions, of the reference. Condition: at most 10 to the 12 numbers. -/
set_option linter.unusedSimpArgs false
set_option linter.unusedVariables false
namespace Go.Proofs.Ytlcpaebidnaolaa.Plain
open Go.RowKit Go.Proofs.YtlcpaebidnaolaaW.PrintWords Go.Proofs.Ytlcpaebidnaolaa.Base Go.Proofs.Ytlcpaebidnaolaa.Print

theorem specVers_l0 (suf : List Int) : ∀ pre : List Int, (pre ++ suf).length ≤ 1000000000000 →
    spec_AreVersions.l0v (pre ++ suf) (pre.length : Int) = some (vers (pre.getLastD 0) suf && decide (0 < (pre ++ suf).length)) := by
  induction suf with
  | nil =>
    intro pre hl
    rw [spec_AreVersions.l0v_eq, if_neg (nlt_end pre)]
    by_cases h : 0 < pre.length <;> simp [vers, h]
  | cons x suf ih =>
    intro pre hl
    have hn : pre.length < (pre ++ x :: suf).length := by simp
    rw [spec_AreVersions.l0v_eq, if_pos (lt_mid pre suf x), if_pos (by omega), rd_mid, l1In_f]
    simp only [Option.bind_some, vers]
    cases hx : inR 1 9 x with
    | false => simp
    | true =>
      rw [if_pos rfl, up_mid pre x hn hl]
      have h1 := ih (pre ++ [x]) (by simpa using hl)
      rw [← mid_snoc pre suf x] at h1
      rw [h1]
      have hr := inR_true.mp hx
      by_cases hp : pre = []
      · subst hp
        rw [if_neg (by simp)]
        have h0 : (0 : Int) < x := by omega
        simp [h0]
      · have hpl : 0 < pre.length := List.length_pos_iff.mpr hp
        rw [if_pos (by omega), w64 (x := (pre.length : Int) - 1) (by omega) (by omega), if_pos (by omega), if_pos (by omega), rd_lastD pre _ hp]
        by_cases hlt : pre.getLastD 0 < x
        · rw [if_neg (by omega)]
          generalize pre.getLastD 0 = q at hlt
          simp [hlt]
        · rw [if_pos (by omega)]
          generalize pre.getLastD 0 = q at hlt
          simp [hlt]
theorem specVers_v (l : List Int) (hl : l.length ≤ 1000000000000) : spec_AreVersions.fv l = some (areV l) := by
  rw [spec_AreVersions.fv_eq]
  simpa [areV] using specVers_l0 l [] (by simpa using hl)
end Go.Proofs.Ytlcpaebidnaolaa.Plain

/- Lists of bytes, of the reference. Condition: at most 10 to the 12 numbers. -/
set_option linter.unusedSimpArgs false
set_option linter.unusedVariables false
namespace Go.Proofs.Ytlcpaebidnaolaa.Plain
open Go.RowKit Go.Proofs.YtlcpaebidnaolaaW.PrintWords Go.Proofs.Ytlcpaebidnaolaa.Base Go.Proofs.Ytlcpaebidnaolaa.Print

theorem specByte_l0 (suf : List Int) : ∀ (pre : List Int), (pre ++ suf).length ≤ 1000000000000 → spec_l9Byte.l0v (pre ++ suf) (pre.length : Int) = some (suf.all (inR 0 255)) := by
  induction suf with
  | nil =>
    intro pre _
    rw [spec_l9Byte.l0v_eq, if_neg (nlt_end pre)]
    rfl
  | cons x suf ih =>
    intro pre hl
    have hn : pre.length < (pre ++ x :: suf).length := by simp
    rw [spec_l9Byte.l0v_eq, if_pos (lt_mid pre suf x), if_pos (by omega), rd_mid, l1In_f, up_mid pre x hn hl]
    simp only [Option.bind_some, List.all_cons]
    cases inR 0 255 x with
    | false => simp
    | true =>
      rw [if_pos rfl]
      rw [mid_snoc pre suf x] at hl ⊢
      rw [ih (pre ++ [x]) hl, Bool.true_and]
theorem specByte_v (l : List Int) (hl : l.length ≤ 1000000000000) : spec_l9Byte.fv l = some (l.all (inR 0 255)) := by
  rw [spec_l9Byte.fv_eq]
  simpa using specByte_l0 l [] (by simpa using hl)
end Go.Proofs.Ytlcpaebidnaolaa.Plain

/- ExtOf, AreExts and IsHello, of the reference. Condition: at most 10 to the 12 of each. -/
set_option linter.unusedSimpArgs false
set_option linter.unusedVariables false
namespace Go.Proofs.Ytlcpaebidnaolaa.Plain
open Go.RowKit Go.Proofs.YtlcpaebidnaolaaW.PrintWords Go.Proofs.Ytlcpaebidnaolaa.Base Go.Proofs.Ytlcpaebidnaolaa.Print

/-- The first extension with a tag is behind these, or among them. -/
theorem specExtOf_l0 (t : Int) (n : Nat) (suf : List S113) : ∀ (pre : List S113), (pre ++ suf).length ≤ 1000000000000 → (∃ x, suf[n]? = some x ∧ x.f0 = t) →
    ∃ r, spec_ExtOf.l0v (pre ++ suf) t (pre.length : Int) = some r ∧ decide (r < ((pre.length + n : Nat) : Int)) = hasT (suf.take n) t := by
  induction n generalizing suf with
  | zero =>
    intro pre hl hx
    obtain ⟨x, hx, ht⟩ := hx
    cases suf with
    | nil => simp at hx
    | cons y suf =>
      obtain rfl : y = x := by simpa using hx
      rw [spec_ExtOf.l0v_eq, if_pos (lt_mid pre suf y), if_pos (by omega), rdExt_mid, if_pos ht]
      exact ⟨_, rfl, by simp [hasT]⟩
  | succ n ih =>
    intro pre hl hx
    cases suf with
    | nil =>
      obtain ⟨x, hx, _⟩ := hx
      simp at hx
    | cons y suf =>
      have hn : pre.length < (pre ++ y :: suf).length := by simp
      rw [spec_ExtOf.l0v_eq, if_pos (lt_mid pre suf y), if_pos (by omega), rdExt_mid]
      by_cases hy : y.f0 = t
      · rw [if_pos hy]
        refine ⟨_, rfl, ?_⟩
        simp only [List.take_succ_cons, hasT, List.any_cons, hy, decide_true, Bool.true_or, decide_eq_true_eq]
        omega
      · rw [if_neg hy, up_mid pre y hn hl]
        rw [mid_snoc pre suf y] at hl ⊢
        obtain ⟨r, h1, h2⟩ := ih suf (pre ++ [y]) hl (by simpa using hx)
        refine ⟨r, h1, ?_⟩
        simp only [List.length_append, List.length_cons, List.length_nil] at h2
        rw [show pre.length + (n + 1) = pre.length + (0 + 1) + n by omega, h2]
        simp [hasT, hy]
theorem specExtOf_ex (pre suf : List S113) (x : S113) (hl : (pre ++ x :: suf).length ≤ 1000000000000) : ∃ r, spec_ExtOf.fv (pre ++ x :: suf) x.f0 = some r ∧ decide (r < (pre.length : Int)) = hasT pre x.f0 := by
  obtain ⟨r, h1, h2⟩ := specExtOf_l0 x.f0 pre.length (pre ++ x :: suf) [] (by simpa using hl) ⟨x, by simp, rfl⟩
  refine ⟨r, ?_, ?_⟩
  · rw [spec_ExtOf.fv_eq]
    simpa using h1
  · simpa using h2
theorem specExts_l0 (suf : List S113) : ∀ (pre : List S113), (pre ++ suf).length ≤ 1000000000000 → okXs suf →
    spec_AreExts.l0v (pre ++ suf) (pre.length : Int) = some (areX pre suf && decide ((pre ++ suf).length ≤ 6)) := by
  induction suf with
  | nil =>
    intro pre _ _
    rw [spec_AreExts.l0v_eq, if_neg (nlt_end pre)]
    simp only [areX, Bool.true_and, show (((pre ++ []).length : Int) ≤ 6) ↔ ((pre ++ []).length ≤ 6) from by omega]
  | cons x suf ih =>
    intro pre hl hs
    have hn : pre.length < (pre ++ x :: suf).length := by simp
    obtain ⟨r, e1, e2⟩ := specExtOf_ex pre suf x hl
    have h1 := ih (pre ++ [x]) (by simpa using hl) (fun y hy => hs y (List.mem_cons_of_mem _ hy))
    rw [← mid_snoc pre suf x] at h1
    rw [spec_AreExts.l0v_eq, if_pos (lt_mid pre suf x), if_pos (by omega), rdExt_mid, l1In_f, e1, specByte_v _ (hs x List.mem_cons_self), up_mid pre x hn hl, h1]
    simp only [Option.bind_some, areX]
    rw [← e2]
    generalize areX (pre ++ [x]) suf = z
    generalize decide ((pre ++ x :: suf).length ≤ 6) = q
    generalize x.f1.all (inR 0 255) = y
    cases inR 0 255 x.f0 with
    | false => simp
    | true =>
      rw [if_pos rfl]
      by_cases h3 : x.f1.length ≤ 4
      · rw [if_neg (by omega)]
        by_cases h2 : r < (pre.length : Int) <;> cases y <;> simp [h2, h3]
      · rw [if_pos (by omega)]
        simp [h3]
theorem specExts_v (l : List S113) (hl : l.length ≤ 1000000000000) (hs : okXs l) : spec_AreExts.fv l = some (isX l) := by
  rw [spec_AreExts.fv_eq]
  simpa [isX] using specExts_l0 l [] (by simpa using hl) hs
theorem specHello_v (v : List Int) (l : List S113) (hv : v.length ≤ 1000000000000) (hl : l.length ≤ 1000000000000) (hs : okXs l) : spec_IsHello.fv v l = some (isH v l) := by
  rw [spec_IsHello.fv_eq, specVers_v v hv, specExts_v l hl hs]
  simp only [Option.bind_some, isH]
  cases areV v <;> simp
end Go.Proofs.Ytlcpaebidnaolaa.Plain

/- IsBox, of the reference. Condition: at most 10 to the 12 of each. -/
set_option linter.unusedSimpArgs false
set_option linter.unusedVariables false
namespace Go.Proofs.Ytlcpaebidnaolaa.Plain
open Go.RowKit Go.Proofs.YtlcpaebidnaolaaW.PrintWords Go.Proofs.Ytlcpaebidnaolaa.Base Go.Proofs.Ytlcpaebidnaolaa.Print

theorem specIsB_v (b : S89) (h : okB b) : spec_IsBox.fv b.f0 b.f1 b.f2 b.f3 = some (isB b) := by
  rw [spec_IsBox.fv_eq, l1In_f, specByte_v _ h.1, specByte_v _ h.2]
  simp only [Option.bind_some, isB]
  simp only [show ((b.f1.length : Int) ≤ 6) ↔ (b.f1.length ≤ 6) from by omega, show ((b.f2.length : Int) ≤ 6) ↔ (b.f2.length ≤ 6) from by omega]
  generalize inR 0 9 b.f0 = x
  generalize b.f1.all (inR 0 255) = y
  generalize b.f2.all (inR 0 255) = z
  by_cases h1 : b.f1.length ≤ 6 <;> by_cases h2 : b.f2.length ≤ 6 <;> cases x <;> cases y <;> cases z <;> simp [h1, h2]
end Go.Proofs.Ytlcpaebidnaolaa.Plain

/- Membership, of the reference. Condition: at most 10 to the 12 numbers. -/
set_option linter.unusedSimpArgs false
set_option linter.unusedVariables false
namespace Go.Proofs.Ytlcpaebidnaolaa.Plain
open Go.RowKit Go.Proofs.YtlcpaebidnaolaaW.PrintWords Go.Proofs.Ytlcpaebidnaolaa.Base Go.Proofs.Ytlcpaebidnaolaa.Print

theorem l9Has_l0 (x : Int) (suf : List Int) : ∀ (pre : List Int), (pre ++ suf).length ≤ 1000000000000 →
    spec_l9Has.l0v (pre ++ suf) x (pre.length : Int) = some (mem suf x) := by
  induction suf with
  | nil =>
    intro pre _
    rw [spec_l9Has.l0v_eq, if_neg (nlt_end pre)]
    simp [mem]
  | cons y suf ih =>
    intro pre hl
    have hn : pre.length < (pre ++ y :: suf).length := by simp
    rw [spec_l9Has.l0v_eq, if_pos (lt_mid pre suf y), if_pos (by omega), rd_mid, mem_cons]
    by_cases hxy : y = x
    · rw [if_pos hxy]
      simp [hxy]
    · rw [if_neg hxy, up_mid pre y hn hl]
      rw [mid_snoc pre suf y] at hl ⊢
      rw [ih (pre ++ [y]) hl]
      simp [hxy]
theorem l9Has_v (l : List Int) (x : Int) (hl : l.length ≤ 1000000000000) : spec_l9Has.fv l x = some (mem l x) := by
  rw [spec_l9Has.fv_eq]
  simpa using l9Has_l0 x l [] (by simpa using hl)
end Go.Proofs.Ytlcpaebidnaolaa.Plain

/- PassBox, of the reference. Condition: at most 10 to the 12 of each. -/
set_option linter.unusedSimpArgs false
set_option linter.unusedVariables false
namespace Go.Proofs.Ytlcpaebidnaolaa.Plain
open Go.RowKit Go.Proofs.YtlcpaebidnaolaaW.PrintWords Go.Proofs.Ytlcpaebidnaolaa.Base Go.Proofs.Ytlcpaebidnaolaa.Print

theorem specPass_l0 (b : S89) (v v' : List Int) (h : okB b) (suf : List S113) : ∀ (pre out : List S113), (pre ++ suf).length ≤ 1000000000000 → out.length ≤ pre.length → okXs suf →
    spec_PassBox.l0v (pre.length : Int) b.f0 b.f1 b.f2 b.f3 v (pre ++ suf) v' out = some (if suf.any (fun x => drops b x.f0) then ([], [], false) else (v', out ++ kept b suf, true)) := by
  induction suf with
  | nil =>
    intro pre out _ _ _
    rw [spec_PassBox.l0v_eq, if_neg (nlt_end pre)]
    simp [kept]
  | cons x suf ih =>
    intro pre out hl ho hs
    have hn : pre.length < (pre ++ x :: suf).length := by simp
    have hp : pre.length < 1000000000000 := by omega
    have hx := hs x List.mem_cons_self
    have hs' : okXs suf := fun y hy => hs y (List.mem_cons_of_mem _ hy)
    have hlt := lt_mid pre suf x
    rw [spec_PassBox.l0v_eq, if_pos hlt, if_pos (by omega), rdExt_mid, l9Has_v _ _ h.1, l9Has_v _ _ h.2, l1In_f]
    simp only [spec_PassBox.j2v_eq, Option.bind_some, List.nil_append, List.length_nil, Nat.zero_add, rdExt_mid]
    rw [up_mid pre x hn hl]
    have e1 := ih (pre ++ [x]) out (by simpa using hl) (by simp; omega) hs'
    have e2 := ih (pre ++ [x]) (out ++ [x]) (by simpa using hl) (by simp; omega) hs'
    rw [← mid_snoc pre suf x] at e1 e2
    have e3 : (0 : Int) ≤ (pre.length : Int) := by omega
    have e4 : x.f1.length < 17592186044416 := by omega
    have e5 : out.length < 4398046511104 := by omega
    simp only [e1, hlt, e3, e4, e5, if_true, show (⟨x.f0, x.f1⟩ : S113) = x from rfl, e2, List.any_cons]
    unfold kept
    simp only [List.filter_cons, drops]
    generalize mem b.f1 x.f0 = p
    cases mem b.f2 x.f0 <;> cases inR 1 3 x.f0 <;> rcases Bool.eq_false_or_eq_true b.f3 with h3 | h3 <;> cases p <;> simp [h3]
theorem specPass_v (b : S89) (v : List Int) (l : List S113) (h : okB b) (hv : v.length ≤ 1000000000000) (hl : l.length ≤ 1000000000000) (hs : okXs l) : spec_PassBox.fv b.f0 b.f1 b.f2 b.f3 v l = some (pass b v l) := by
  have h1 := specPass_l0 b v v h l [] [] (by simpa using hl) (by simp) hs
  simp only [List.nil_append, List.length_nil, Int.natCast_zero] at h1
  rw [spec_PassBox.fv_eq, specIsB_v b h, specHello_v v l hv hl hs]
  simp only [Option.bind_some, spec_PassBox.j0v_eq, List.nil_append, List.length_nil, Nat.zero_add, show v.length < 17592186044416 by omega, if_true, h1, pass, lose]
  cases hb : isB b with
  | false => simp
  | true =>
    cases hh : isH v l with
    | false => simp
    | true =>
      have ha : areV v = true := by
        simp only [isH, Bool.and_eq_true] at hh
        exact hh.1
      have hb0 : 0 ≤ b.f0 := by
        simp only [isB, Bool.and_eq_true, inR_true] at hb
        exact hb.1.1
      have hne : v ≠ [] := by
        intro e
        rw [e] at ha
        simp [areV] at ha
      have hp := List.length_pos_iff.mpr hne
      have hd := rd_lastD v [] hne
      rw [List.append_nil] at hd
      rw [w64 (by omega) (by omega), hd, if_pos rfl, if_pos rfl]
      by_cases h0 : b.f0 = 0
      · rw [if_neg (by omega)]
        have d0 : decide (b.f0 = 0) = true := decide_eq_true h0
        rcases Bool.eq_false_or_eq_true (l.any fun x => drops b x.f0) with hq | hq
        · simp only [hq, d0]
          simp
        · simp only [hq, d0]
          simp
      · rw [if_pos (by omega), if_pos (by omega), if_pos (by omega)]
        have d0 : decide (b.f0 = 0) = false := decide_eq_false h0
        rcases Bool.eq_false_or_eq_true (l.any fun x => drops b x.f0) with hq | hq
        · rcases Bool.eq_false_or_eq_true (decide (v.getLastD 0 > b.f0)) with hm | hm
          · simp only [hq, hm, d0]
            simp
          · simp only [hq, hm, d0]
            simp
        · rcases Bool.eq_false_or_eq_true (decide (v.getLastD 0 > b.f0)) with hm | hm
          · simp only [hq, hm, d0]
            simp
          · simp only [hq, hm, d0]
            simp
end Go.Proofs.Ytlcpaebidnaolaa.Plain

/- PassPath, IsOpenPath and LostTags, of the reference. Condition: at most 10 to the 12 of each. -/
set_option linter.unusedSimpArgs false
set_option linter.unusedVariables false
namespace Go.Proofs.Ytlcpaebidnaolaa.Plain
open Go.RowKit Go.Proofs.YtlcpaebidnaolaaW.PrintWords Go.Proofs.Ytlcpaebidnaolaa.Base Go.Proofs.Ytlcpaebidnaolaa.Print

theorem specTags_l0 (suf : List S113) : ∀ (pre : List S113) (out : List Int), (pre ++ suf).length ≤ 1000000000000 → out.length ≤ pre.length →
    spec_TagsOf.l0v (pre ++ suf) out (pre.length : Int) = some (out ++ suf.map (·.f0)) := by
  induction suf with
  | nil =>
    intro pre out _ _
    rw [spec_TagsOf.l0v_eq, if_neg (nlt_end pre)]
    simp
  | cons x suf ih =>
    intro pre out hl ho
    have hn : pre.length < (pre ++ x :: suf).length := by simp
    have hp : pre.length < 1000000000000 := by omega
    rw [spec_TagsOf.l0v_eq, if_pos (lt_mid pre suf x), if_pos (by omega), rdExt_mid, if_pos (by omega), up_mid pre x hn hl]
    rw [mid_snoc pre suf x] at hl ⊢
    rw [ih (pre ++ [x]) _ hl (by simp; omega)]
    simp
theorem specTags_v (l : List S113) (hl : l.length ≤ 1000000000000) : spec_TagsOf.fv l = some (l.map (·.f0)) := by
  rw [spec_TagsOf.fv_eq]
  simpa using specTags_l0 l [] [] (by simpa using hl) (by simp)
theorem specKnown_l0 (t : List Int) (ht : t.length ≤ 1000000000000) (suf : List S113) : ∀ (pre out : List S113), (pre ++ suf).length ≤ 1000000000000 → out.length ≤ pre.length → okXs suf →
    spec_KnownOf.l0v (pre ++ suf) t out (pre.length : Int) = some (out ++ suf.filter (fun x => mem t x.f0)) := by
  induction suf with
  | nil =>
    intro pre out _ _ _
    rw [spec_KnownOf.l0v_eq, if_neg (nlt_end pre)]
    simp
  | cons x suf ih =>
    intro pre out hl ho hs
    have hn : pre.length < (pre ++ x :: suf).length := by simp
    have hp : pre.length < 1000000000000 := by omega
    have hx := hs x List.mem_cons_self
    have hs' : okXs suf := fun y hy => hs y (List.mem_cons_of_mem _ hy)
    have hlt := lt_mid pre suf x
    rw [spec_KnownOf.l0v_eq, if_pos hlt, if_pos (by omega), rdExt_mid, l9Has_v t _ ht, up_mid pre x hn hl]
    simp only [Option.bind_some, List.nil_append, List.length_nil, Nat.zero_add, rdExt_mid]
    rw [mid_snoc pre suf x] at hl ⊢
    cases hm : mem t x.f0 with
    | true =>
      rw [if_pos rfl, if_pos (by omega), if_pos (by omega), ih (pre ++ [x]) _ hl (by simp; omega) hs']
      simp [hm]
    | false =>
      rw [if_neg (by simp), ih (pre ++ [x]) out hl (by simp; omega) hs']
      simp [hm]
theorem specKnown_v (l : List S113) (t : List Int) (ht : t.length ≤ 1000000000000) (hl : l.length ≤ 1000000000000) (hs : okXs l) : spec_KnownOf.fv l t = some (l.filter (fun x => mem t x.f0)) := by
  rw [spec_KnownOf.fv_eq]
  simpa using specKnown_l0 t ht l [] [] (by simpa using hl) (by simp) hs
theorem known_all (l : List S113) : l.filter (fun x => mem (l.map (·.f0)) x.f0) = l := by
  rw [List.filter_eq_self]
  intro x hx
  simp only [mem, decide_eq_true_eq]
  exact List.mem_map.mpr ⟨x, hx, rfl⟩
theorem specCopyH_v (v : List Int) (l : List S113) (hv : v.length ≤ 1000000000000) (hl : l.length ≤ 1000000000000) (hs : okXs l) : spec_l18Hello.fv v l = some (v, l) := by
  rw [spec_l18Hello.fv_eq, spec_l11Copy.fv_eq, specTags_v l hl]
  simp only [Option.bind_some, List.nil_append, List.length_nil, Nat.zero_add, show v.length < 17592186044416 by omega, if_true]
  rw [specKnown_v l _ (by rw [List.length_map]; exact hl) hl hs, known_all]
  simp
theorem goP_off' (p : List S89) (v : List Int) (l : List S113) : goP p false v l = (v, l, false) := by
  cases p <;> simp [goP]
theorem pass_fail {b : S89} {v : List Int} {l : List S113} (h : (pass b v l).2.2 = false) : pass b v l = ([], [], false) := by
  unfold pass at h ⊢
  split
  · rename_i hc
    rw [if_pos hc] at h
    cases h
  · rfl
theorem specGoP_l0 (suf : List S89) : ∀ (pre : List S89) (v : List Int) (l : List S113), (pre ++ suf).length ≤ 1000000000000 → (∀ x ∈ suf, okB x) → v.length ≤ 1000000000000 → l.length ≤ 1000000000000 → okXs l →
    spec_PassPath.l0v (pre ++ suf) (pre.length : Int) v l = some (goP suf true v l) := by
  induction suf with
  | nil =>
    intro pre v l _ _ _ _ _
    rw [spec_PassPath.l0v_eq, if_neg (nlt_end pre)]
    rfl
  | cons b suf ih =>
    intro pre v l hp hs hv hl hx
    have hn : pre.length < (pre ++ b :: suf).length := by simp
    obtain ⟨a1, a2, a3⟩ := pass_ok b v l hx
    rw [spec_PassPath.l0v_eq, if_pos (lt_mid pre suf b), if_pos (by omega), rdBox_mid, specPass_v b v l (hs b List.mem_cons_self) hv hl hx, up_mid pre b hn hp]
    simp only [Option.bind_some, goP, if_true]
    rw [mid_snoc pre suf b] at hp ⊢
    cases ho : (pass b v l).2.2 with
    | true =>
      rw [if_pos rfl]
      exact ih (pre ++ [b]) _ _ hp (fun y hy => hs y (List.mem_cons_of_mem _ hy)) (by omega) (by omega) a3
    | false =>
      rw [if_neg (by simp), goP_off', pass_fail ho]
theorem specPassP_v (p : List S89) (v : List Int) (l : List S113) (hp : p.length ≤ 1000000000000) (hs : ∀ x ∈ p, okB x) (hv : v.length ≤ 1000000000000) (hl : l.length ≤ 1000000000000) (hx : okXs l) : spec_PassPath.fv p v l = some (passP p v l) := by
  have h := specGoP_l0 p [] v l (by simpa using hp) hs hv hl hx
  simp only [List.nil_append, List.length_nil, Int.natCast_zero] at h
  rw [spec_PassPath.fv_eq, specHello_v v l hv hl hx]
  simp only [Option.bind_some, spec_PassPath.j0v_eq, specCopyH_v v l hv hl hx, h, passP]
  by_cases h4 : p.length ≤ 4
  · rw [if_neg (by omega)]
    cases isH v l <;> simp [h4]
  · rw [if_pos (by omega)]
    simp [h4]
theorem specPlain_f (v : List Int) (hv : v.length ≤ 1000000000000) : spec_PlainHello.f v = some (v, []) := by
  unfold spec_PlainHello.f
  simp only [Option.bind_some, List.nil_append, List.length_nil, Nat.zero_add]
  rw [if_pos (by omega)]
theorem specOpen_v (p : List S89) (v : List Int) (hp : p.length ≤ 1000000000000) (hs : ∀ x ∈ p, okB x) (hv : v.length ≤ 1000000000000) : spec_IsOpenPath.fv p v = some (openP p v) := by
  have ht : (v.take 1).length ≤ 1000000000000 := by
    rw [List.length_take]
    omega
  rw [spec_IsOpenPath.fv_eq, specVers_v v hv]
  simp only [Option.bind_some, openP]
  cases ha : areV v with
  | false => simp
  | true =>
    have h1 : 0 < v.length := by
      simp only [areV, Bool.and_eq_true, decide_eq_true_eq] at ha
      exact ha.2
    rw [if_pos rfl, if_pos (by omega), specPlain_f _ ht]
    simp only [Option.bind_some]
    rw [specPassP_v p _ [] hp hs ht (by simp) (fun x hx => by cases hx)]
    simp
end Go.Proofs.Ytlcpaebidnaolaa.Plain

/- EqualInts, of the reference, and slices.Equal. Condition: at most 10 to the 12 numbers. -/
set_option linter.unusedSimpArgs false
set_option linter.unusedVariables false
namespace Go.Proofs.Ytlcpaebidnaolaa.Plain
open Go.RowKit Go.Proofs.YtlcpaebidnaolaaW.PrintWords Go.Proofs.Ytlcpaebidnaolaa.Base Go.Proofs.Ytlcpaebidnaolaa.Print

theorem specEqualInts_l0 (sa : List Int) : ∀ (pre sb : List Int), sb.length = sa.length → (pre ++ sa).length ≤ 1000000000000 → spec_EqualInts.l0v (pre ++ sa) (pre ++ sb) (pre.length : Int) = some (decide (sa = sb)) := by
  induction sa with
  | nil =>
    intro pre sb hr _
    rw [spec_EqualInts.l0v_eq, if_neg (nlt_end pre)]
    simp at hr
    simp [hr]
  | cons x sa ih =>
    intro pre sb hr hl
    cases sb with
    | nil => simp at hr
    | cons y sb =>
      have hn : pre.length < (pre ++ x :: sa).length := by simp
      rw [spec_EqualInts.l0v_eq, if_pos (lt_mid pre sa x), if_pos (by omega), if_pos (lt_mid pre sb y), rd_mid, rd_mid, up_mid pre x hn hl]
      by_cases hxy : x = y
      · subst hxy
        rw [if_pos rfl]
        rw [mid_snoc pre sa x] at hl ⊢
        rw [mid_snoc pre sb x]
        rw [ih (pre ++ [x]) sb (by simpa using hr) hl]
        simp
      · rw [if_neg hxy]
        simp [hxy]
theorem specEqualInts_v (a b : List Int) (hl : a.length ≤ 1000000000000) : spec_EqualInts.fv a b = some (decide (a = b)) := by
  rw [spec_EqualInts.fv_eq]
  by_cases h : a.length = b.length
  · rw [if_pos (by omega)]
    have h1 := specEqualInts_l0 a [] b h.symm (by simpa using hl)
    simpa using h1
  · rw [if_neg (by omega)]
    have : a ≠ b := fun e => h (by rw [e])
    simp [this]
end Go.Proofs.Ytlcpaebidnaolaa.Plain

/- EqualExts and LostTags, of the reference. Condition: at most 10 to the 12 of each. -/
set_option linter.unusedSimpArgs false
set_option linter.unusedVariables false
namespace Go.Proofs.Ytlcpaebidnaolaa.Plain
open Go.RowKit Go.Proofs.YtlcpaebidnaolaaW.PrintWords Go.Proofs.Ytlcpaebidnaolaa.Base Go.Proofs.Ytlcpaebidnaolaa.Print

theorem specEqXs_l0 (sa : List S113) : ∀ (pre q sb : List S113), q.length = pre.length → sb.length = sa.length → (pre ++ sa).length ≤ 1000000000000 → okXs sa →
    spec_EqualExts.l0v (pre ++ sa) (q ++ sb) (pre.length : Int) = some (eqXs sa sb) := by
  induction sa with
  | nil =>
    intro pre q sb _ hr _ _
    rw [spec_EqualExts.l0v_eq, if_neg (nlt_end pre)]
    simp at hr
    simp [hr, eqXs]
  | cons x sa ih =>
    intro pre q sb hq hr hl hs
    cases sb with
    | nil => simp at hr
    | cons y sb =>
      have hn : pre.length < (pre ++ x :: sa).length := by simp
      rw [spec_EqualExts.l0v_eq, if_pos (lt_mid pre sa x), if_pos (by omega), rdExt_mid, up_mid pre x hn hl, ← hq, if_pos (lt_mid q sb y), rdExt_mid, specEqualInts_v x.f1 y.f1 (hs x List.mem_cons_self)]
      simp only [Option.bind_some, eqXs, eqX]
      by_cases h1 : x.f0 = y.f0
      · rw [if_pos h1]
        by_cases h2 : x.f1 = y.f1
        · rw [if_pos (by simp [h2]), mid_snoc q sb y]
          rw [mid_snoc pre sa x] at hl ⊢
          rw [ih (pre ++ [x]) (q ++ [y]) sb (by simp [hq]) (by simpa using hr) hl (fun y hy => hs y (List.mem_cons_of_mem _ hy))]
          simp [h1, h2]
        · rw [if_neg (by simp [h2])]
          simp [h2]
      · rw [if_neg h1]
        simp [h1]
theorem specEqXs_v (l m : List S113) (hl : l.length ≤ 1000000000000) (hs : okXs l) : spec_EqualExts.fv l m = some (eqXs l m) := by
  rw [spec_EqualExts.fv_eq]
  by_cases h : l.length = m.length
  · rw [if_pos (by omega)]
    simpa using specEqXs_l0 l [] [] m rfl h.symm (by simpa using hl) hs
  · rw [if_neg (by omega), eqXs_len h]
/-- What passes keeps its versions. -/
theorem goP_vers (p : List S89) : ∀ (o : Bool) (v : List Int) (l : List S113), (goP p o v l).2.2 = true → (goP p o v l).1 = v := by
  induction p with
  | nil =>
    intro o v l _
    rfl
  | cons b p ih =>
    intro o v l h
    unfold goP at h ⊢
    cases o with
    | false => rfl
    | true =>
      simp only [if_true] at h ⊢
      cases hp : (pass b v l).2.2 with
      | false =>
        rw [hp, goP_off'] at h
        cases h
      | true =>
        have hv : (pass b v l).1 = v := by
          unfold pass at hp ⊢
          split
          · rfl
          · rename_i hc
            rw [if_neg hc] at hp
            cases hp
        first | rw [ih _ _ _ h, hv] | (rw [hp] at h; rw [ih _ _ _ h, hv])
theorem whole_eq (v : List Int) (l : List S113) (p : List S89) : whole v l p = ((passP p v l).2.2 && eqXs (passP p v l).2.1 l) := by
  unfold whole
  cases h : (passP p v l).2.2 with
  | false => rfl
  | true =>
    have hv : (passP p v l).1 = v := by
      unfold passP at h ⊢
      split
      · rename_i hc
        rw [if_pos hc] at h
        exact goP_vers p true v l h
      · rename_i hc
        rw [if_neg hc] at h
        cases h
    simp [hv]
theorem take_one (pre suf : List S113) (x : S113) : ((pre ++ x :: suf).take ((pre ++ [x]).length)).drop pre.length = [x] := by
  rw [mid_snoc pre suf x, List.take_append_of_le_length (Nat.le_refl _), List.take_length]
  simp
theorem specLost_l0 (p : List S89) (v : List Int) (hp : p.length ≤ 1000000000000) (hs : ∀ x ∈ p, okB x) (hv : v.length ≤ 1000000000000) (h1 : 0 < v.length) (suf : List S113) : ∀ (pre : List S113) (out : List Int), (pre ++ suf).length ≤ 1000000000000 → out.length ≤ pre.length → okXs suf →
    spec_LostTags.l0v p v (pre ++ suf) out (pre.length : Int) = some (out ++ (suf.filter (fun x => !whole (v.take 1) [x] p)).map (·.f0)) := by
  induction suf with
  | nil =>
    intro pre out _ _ _
    rw [spec_LostTags.l0v_eq, if_neg (nlt_end pre)]
    simp
  | cons x suf ih =>
    intro pre out hl ho hx
    have hn : pre.length < (pre ++ x :: suf).length := by simp
    have hq : pre.length < 1000000000000 := by omega
    have hx' : okXs suf := fun y hy => hx y (List.mem_cons_of_mem _ hy)
    have ho1 : okXs [x] := fun y hy => by
      rw [List.mem_singleton.1 hy]
      exact hx x List.mem_cons_self
    have ht : (v.take 1).length ≤ 1000000000000 := by
      rw [List.length_take]
      omega
    have e1 : ((pre ++ [x]).length : Int) = (pre.length : Int) + 1 := by simp
    have e2 : (pre ++ [x]).length ≤ (pre ++ x :: suf).length := by simp
    obtain ⟨a1, a2, a3⟩ := passP_ok p (v.take 1) [x] ho1
    have hw := whole_eq (v.take 1) [x] p
    rw [spec_LostTags.l0v_eq, if_pos (lt_mid pre suf x), if_pos (by omega), specPlain_f _ ht, Option.bind_some, up_mid pre x hn hl, if_pos (by omega), if_pos (by omega), if_pos (by omega), Int.toNat_natCast, Int.toNat_natCast, take_one, Option.bind_some, specPassP_v p _ [x] hp hs ht (by simp) ho1, Option.bind_some, rdExt_mid]
    rw [mid_snoc pre suf x] at hl ⊢
    cases h2 : (passP p (v.take 1) [x]).2.2 with
    | false =>
      rw [h2, Bool.false_and] at hw
      rw [if_neg (by simp), if_pos (by omega), ih (pre ++ [x]) _ hl (by simp; omega) hx']
      simp [hw]
    | true =>
      rw [h2, Bool.true_and] at hw
      rw [if_pos rfl, specEqXs_v _ [x] (by simp at a2; omega) a3, Option.bind_some, ← hw]
      cases h3 : whole (v.take 1) [x] p with
      | true =>
        rw [if_pos rfl, ih (pre ++ [x]) out hl (by simp; omega) hx']
        simp [h3]
      | false =>
        rw [if_neg (by simp), if_pos (by omega), ih (pre ++ [x]) _ hl (by simp; omega) hx']
        simp [h3]
theorem specLost_v (p : List S89) (v : List Int) (l : List S113) (hp : p.length ≤ 1000000000000) (hs : ∀ x ∈ p, okB x) (hv : v.length ≤ 1000000000000) (hl : l.length ≤ 1000000000000) (hx : okXs l) : spec_LostTags.fv p v l = some (lostT p v l) := by
  rw [spec_LostTags.fv_eq, Option.bind_some, specExts_v l hl hx, Option.bind_some, specOpen_v p v hp hs hv, Option.bind_some, spec_LostTags.j0v_eq, spec_LostTags.j0v_eq, lostT]
  cases ho : openP p v with
  | false => simp
  | true =>
    have h1 : 0 < v.length := by
      simp only [openP, areV, Bool.and_eq_true, decide_eq_true_eq] at ho
      exact ho.1.2
    have h := specLost_l0 p v hp hs hv h1 l [] [] (by simpa using hl) (by simp) hx
    simp only [List.nil_append, List.length_nil, Int.natCast_zero] at h
    cases isX l with
    | false => simp
    | true => simp [h]
end Go.Proofs.Ytlcpaebidnaolaa.Plain

/- EqualHellos and PassesWhole, of the reference. Condition: at most 10 to the 12 of each. -/
set_option linter.unusedSimpArgs false
set_option linter.unusedVariables false
namespace Go.Proofs.Ytlcpaebidnaolaa.Plain
open Go.RowKit Go.Proofs.YtlcpaebidnaolaaW.PrintWords Go.Proofs.Ytlcpaebidnaolaa.Base Go.Proofs.Ytlcpaebidnaolaa.Print

theorem specWhole_v (v : List Int) (l : List S113) (p : List S89) (hp : p.length ≤ 1000000000000) (hs : ∀ x ∈ p, okB x) (hv : v.length ≤ 1000000000000) (hl : l.length ≤ 1000000000000) (hx : okXs l) : spec_PassesWhole.fv v l p = some (whole v l p) := by
  obtain ⟨a1, a2, a3⟩ := passP_ok p v l hx
  rw [spec_PassesWhole.fv_eq, specPassP_v p v l hp hs hv hl hx, Option.bind_some, spec_EqualHellos.fv_eq, specEqualInts_v _ _ (by omega), Option.bind_some, specEqXs_v _ _ (by omega) a3]
  simp only [Option.bind_some, whole, decide_eq_true_eq]
  cases h : (passP p v l).2.2 with
  | false => simp
  | true =>
    by_cases h1 : (passP p v l).1 = v <;> simp [h1]
end Go.Proofs.Ytlcpaebidnaolaa.Plain

/- A list without the numbers of another one. No program. No condition. -/
set_option linter.unusedSimpArgs false
set_option linter.unusedVariables false
namespace Go.Proofs.Ytlcpaebidnaolaa.Plain
open Go.RowKit Go.Proofs.YtlcpaebidnaolaaW.PrintWords Go.Proofs.Ytlcpaebidnaolaa.Base Go.Proofs.Ytlcpaebidnaolaa.Print

/-- The first without the second. -/
def wo (a b : List Int) : List Int := a.filter (fun x => !mem b x)
theorem wo_len (a b : List Int) : (wo a b).length ≤ a.length := List.length_filter_le _ _
end Go.Proofs.Ytlcpaebidnaolaa.Plain

/- The versions that a path loses. No program. No condition. -/
set_option linter.unusedSimpArgs false
set_option linter.unusedVariables false
namespace Go.Proofs.Ytlcpaebidnaolaa.Plain
open Go.RowKit Go.Proofs.YtlcpaebidnaolaaW.PrintWords Go.Proofs.Ytlcpaebidnaolaa.Base Go.Proofs.Ytlcpaebidnaolaa.Print

def lostV (p : List S89) (v : List Int) : List Int := if areV v then v.filter (fun x => !(passP p [x] []).2.2) else []
theorem lostV_len (p : List S89) (v : List Int) : (lostV p v).length ≤ v.length := by
  unfold lostV
  split
  · exact List.length_filter_le _ _
  · exact Nat.zero_le _
/-- A version is a list of versions by itself. -/
theorem areV_one {v : List Int} (h : areV v = true) {x : Int} (hx : x ∈ v) : areV [x] = true := by
  have := areV_mem h x hx
  simp only [areV, vers, Bool.and_true, Bool.and_eq_true, inR_true, decide_eq_true_eq]
  exact ⟨⟨⟨by omega, by omega⟩, by omega⟩, by simp⟩
/-- The reference asks whether the path is open for a version alone. -/
theorem openP_one {p : List S89} {x : Int} (h : areV [x] = true) : openP p [x] = (passP p [x] []).2.2 := by
  unfold openP
  rw [h]
  rfl
end Go.Proofs.Ytlcpaebidnaolaa.Plain

/- A list without the numbers of another one, of the reference. Condition: at most 10 to the 12 of each. -/
set_option linter.unusedSimpArgs false
set_option linter.unusedVariables false
namespace Go.Proofs.Ytlcpaebidnaolaa.Plain
open Go.RowKit Go.Proofs.YtlcpaebidnaolaaW.PrintWords Go.Proofs.Ytlcpaebidnaolaa.Base Go.Proofs.Ytlcpaebidnaolaa.Print

theorem specWo_l0 (b : List Int) (hb : b.length ≤ 1000000000000) (suf : List Int) : ∀ (pre out : List Int), (pre ++ suf).length ≤ 1000000000000 → out.length ≤ pre.length →
    spec_l21Left.l0v (pre ++ suf) b out (pre.length : Int) = some (out ++ wo suf b) := by
  induction suf with
  | nil =>
    intro pre out _ _
    rw [spec_l21Left.l0v_eq, if_neg (nlt_end pre)]
    simp [wo]
  | cons x suf ih =>
    intro pre out hl ho
    have hn : pre.length < (pre ++ x :: suf).length := by simp
    have hp : pre.length < 1000000000000 := by omega
    rw [spec_l21Left.l0v_eq, if_pos (lt_mid pre suf x), if_pos (by omega), rd_mid, l9Has_v b x hb, up_mid pre x hn hl]
    simp only [Option.bind_some]
    rw [mid_snoc pre suf x] at hl ⊢
    cases hx : mem b x with
    | true =>
      rw [if_pos rfl, ih (pre ++ [x]) out hl (by simp; omega)]
      simp [wo, hx]
    | false =>
      rw [if_neg (by simp), if_pos (by omega), ih (pre ++ [x]) (out ++ [x]) hl (by simp; omega)]
      simp [wo, hx]
theorem specWo_v (a b : List Int) (ha : a.length ≤ 1000000000000) (hb : b.length ≤ 1000000000000) : spec_l21Left.fv a b = some (wo a b) := by
  rw [spec_l21Left.fv_eq]
  simpa using specWo_l0 b hb a [] [] (by simpa using ha) (by simp)
end Go.Proofs.Ytlcpaebidnaolaa.Plain

/- LostVersions and what is left, of the reference. Condition: at most 10 to the 12 of each. -/
set_option linter.unusedSimpArgs false
set_option linter.unusedVariables false
namespace Go.Proofs.Ytlcpaebidnaolaa.Plain
open Go.RowKit Go.Proofs.YtlcpaebidnaolaaW.PrintWords Go.Proofs.Ytlcpaebidnaolaa.Base Go.Proofs.Ytlcpaebidnaolaa.Print

theorem take_mid (pre suf : List Int) (x : Int) : ((pre ++ x :: suf).take ((pre ++ [x]).length : Int).toNat).drop ((pre.length : Int)).toNat = [x] := by
  rw [Int.toNat_natCast, Int.toNat_natCast, mid_snoc pre suf x, List.take_append_of_le_length (Nat.le_refl _), List.take_length]
  simp
theorem specLostV_l0 (p : List S89) (hp : p.length ≤ 1000000000000) (hs : ∀ x ∈ p, okB x) (suf : List Int) : ∀ (pre out : List Int), (pre ++ suf).length ≤ 1000000000000 → out.length ≤ pre.length → areV (pre ++ suf) = true →
    spec_LostVersions.l0v p (pre ++ suf) out (pre.length : Int) = some (out ++ suf.filter (fun x => !(passP p [x] []).2.2)) := by
  induction suf with
  | nil =>
    intro pre out _ _ _
    rw [spec_LostVersions.l0v_eq, if_neg (nlt_end pre), spec_LostVersions.j1v_eq, if_neg (by simp)]
    simp
  | cons x suf ih =>
    intro pre out hl ho ha
    have hn : pre.length < (pre ++ x :: suf).length := by simp
    have hq : pre.length < 1000000000000 := by omega
    have h1 : areV [x] = true := areV_one ha (by simp)
    have e1 : ((pre ++ [x]).length : Int) = (pre.length : Int) + 1 := by simp
    have e2 : (pre ++ [x]).length ≤ (pre ++ x :: suf).length := by simp
    rw [spec_LostVersions.l0v_eq, if_pos (lt_mid pre suf x), specVers_v _ hl, ha]
    rw [Option.bind_some, spec_LostVersions.j1v_eq, if_pos rfl]
    rw [up_mid pre x hn hl, if_pos (by omega), if_pos (by omega), if_pos (by omega), take_mid, specOpen_v p [x] hp hs (by simp), openP_one h1, if_pos (lt_mid pre suf x), rd_mid]
    simp only [Option.bind_some]
    rw [mid_snoc pre suf x] at hl ha ⊢
    cases hw : (passP p [x] []).2.2 with
    | true =>
      rw [if_pos rfl, ih (pre ++ [x]) out hl (by simp; omega) ha]
      simp [hw]
    | false =>
      rw [if_neg (by simp), if_pos (by omega), ih (pre ++ [x]) _ hl (by simp; omega) ha]
      simp [hw]
theorem specLostV_v (p : List S89) (v : List Int) (hp : p.length ≤ 1000000000000) (hs : ∀ x ∈ p, okB x) (hv : v.length ≤ 1000000000000) : spec_LostVersions.fv p v = some (lostV p v) := by
  rw [spec_LostVersions.fv_eq]
  unfold lostV
  cases ha : areV v with
  | true => simpa using specLostV_l0 p hp hs v [] [] (by simpa using hv) (by simp) ha
  | false =>
    rw [spec_LostVersions.l0v_eq, specVers_v v hv, ha]
    simp only [Option.bind_some, spec_LostVersions.j1v_eq, Bool.false_eq_true, if_false, ite_self]
end Go.Proofs.Ytlcpaebidnaolaa.Plain

/- The numbers that the laws draw from bytes: each draw comes to an answer, in its range, and leaves a place in the bytes. Condition: at most 2 to the 40 bytes; the place lies in the bytes. -/

set_option linter.unusedSimpArgs false
set_option linter.unusedVariables false
namespace Go.Proofs.Ytlcpaebidnaolaa.Plain
open Go.RowKit Go.Proofs.YtlcpaebidnaolaaW.PrintWords Go.Proofs.Ytlcpaebidnaolaa.Base Go.Proofs.Ytlcpaebidnaolaa.Print

/-- A place in the bytes. -/
def St (l : List Int) (p : Int) : Prop := 0 ≤ p ∧ p ≤ l.length ∧ l.length ≤ 1000000000000
theorem and255 (x : Int) : 0 ≤ Go.bits .and .i64 x 255 ∧ Go.bits .and .i64 x 255 ≤ 255 := by
  have hle : (BitVec.ofInt 64 x &&& BitVec.ofInt 64 255).toNat ≤ 255 := by
    rw [BitVec.toNat_and]
    exact Nat.and_le_right
  have h : Go.bits .and .i64 x 255 = wrap64 ((BitVec.ofInt 64 x &&& BitVec.ofInt 64 255).toNat : Int) := by
    unfold wrap64
    exact Go.IntKind.wrap_i64 _
  rw [h, w64 (by omega) (by omega)]
  omega
theorem l1Byte_ex (l : List Int) (p r : Int) (h : St l p) : ∃ b p' r', spec_l1Byte.f l p r = some (b, p', r') ∧ St l p' ∧ 0 ≤ b ∧ b ≤ 255 := by
  obtain ⟨h0, h1, h2⟩ := h
  unfold spec_l1Byte.f
  by_cases hp : p < (l.length : Int)
  · rw [if_pos hp, if_pos h0]
    refine ⟨_, _, _, rfl, ⟨?_, ?_, h2⟩, (and255 _).1, (and255 _).2⟩
    · rw [w64 (by omega) (by omega)]
      omega
    · rw [w64 (by omega) (by omega)]
      omega
  · rw [if_neg hp]
    exact ⟨_, _, _, rfl, ⟨h0, h1, h2⟩, (and255 _).1, (and255 _).2⟩
theorem tmod_in (x n : Int) (hx : 0 ≤ x) (hn : 0 < n) : 0 ≤ Int.tmod x n ∧ Int.tmod x n < n := ⟨Int.tmod_nonneg _ hx, Int.tmod_lt_of_pos _ hn⟩
theorem l1Below_ex (l : List Int) (p r n : Int) (h : St l p) (hn : 0 < n) : ∃ b p' r', spec_l1Below.f l p r n = some (b, p', r') ∧ St l p' ∧ 0 ≤ b ∧ b < n := by
  unfold spec_l1Below.f
  rw [if_neg (by omega)]
  obtain ⟨b, p', r', e, h', b0, b1⟩ := l1Byte_ex l p r h
  rw [e]
  by_cases h256 : n ≤ 256
  · rw [if_pos h256]
    simp only [Option.bind_some]
    rw [if_neg (by omega)]
    exact ⟨_, _, _, rfl, h', tmod_in _ _ b0 hn⟩
  · rw [if_neg h256]
    simp only [Option.bind_some]
    obtain ⟨c, p2, r2, e2, h2, c0, c1⟩ := l1Byte_ex l p' r' h'
    rw [e2]
    simp only [Option.bind_some]
    obtain ⟨d, p3, r3, e3, h3, d0, d1⟩ := l1Byte_ex l p2 r2 h2
    rw [e3]
    simp only [Option.bind_some]
    rw [if_neg (by omega)]
    refine ⟨_, _, _, rfl, h3, tmod_in _ _ ?_ hn⟩
    rw [w64 (x := b * 65536) (by omega) (by omega), w64 (x := c * 256) (by omega) (by omega), w64 (x := b * 65536 + c * 256) (by omega) (by omega), w64 (by omega) (by omega)]
    omega
theorem l1Int_ex (l : List Int) (p r : Int) (xs : List Int) (h : St l p) (hx : xs ≠ []) : ∃ b p' r', spec_l1Int.f l p r xs = some (b, p', r') ∧ St l p' ∧ b ∈ xs := by
  unfold spec_l1Int.f
  have hl : 0 < xs.length := List.length_pos_iff.mpr hx
  obtain ⟨b, p', r', e, h', b0, b1⟩ := l1Below_ex l p r (xs.length : Int) h (by omega)
  rw [e]
  simp only [Option.bind_some]
  rw [if_pos b0, if_pos b1]
  refine ⟨_, _, _, rfl, h', ?_⟩
  have hb : b.toNat < xs.length := by omega
  have e1 : rd xs b = xs[b.toNat] := by simp [rd, hb]
  rw [e1]
  exact List.getElem_mem hb
theorem l1New_l0 (suf : List Int) : ∀ (pre : List Int) (s : Int), (pre ++ suf).length ≤ 1000000000000 → ∃ r, spec_l1New.l0v (pre ++ suf) s (pre.length : Int) = some (pre ++ suf, 0, r) := by
  induction suf with
  | nil =>
    intro pre s _
    rw [spec_l1New.l0v_eq, if_neg (nlt_end pre)]
    exact ⟨_, rfl⟩
  | cons x suf ih =>
    intro pre s hl
    have hn : pre.length < (pre ++ x :: suf).length := by simp
    rw [spec_l1New.l0v_eq, if_pos (lt_mid pre suf x)]
    by_cases h4 : (pre.length : Int) < 4000
    · rw [if_pos h4, if_pos (by omega), up_mid pre x hn hl]
      rw [mid_snoc pre suf x] at hl ⊢
      exact ih (pre ++ [x]) _ hl
    · rw [if_neg h4]
      exact ⟨_, rfl⟩
theorem l1New_ex (l : List Int) (hl : l.length ≤ 1000000000000) : ∃ r, spec_l1New.fv l = some (l, 0, r) ∧ St l 0 := by
  rw [spec_l1New.fv_eq]
  obtain ⟨r, h⟩ := l1New_l0 l [] (wrap64 (193017 + (l.length : Int))) (by simpa using hl)
  exact ⟨r, h, by omega, by omega, hl⟩
end Go.Proofs.Ytlcpaebidnaolaa.Plain

/- The lists of versions that the laws draw from bytes: each draw comes to an answer, and the lists are short. Condition: at most 2 to the 40 bytes; the place lies in the bytes. -/

set_option linter.unusedSimpArgs false
set_option linter.unusedVariables false
namespace Go.Proofs.Ytlcpaebidnaolaa.Plain
open Go.RowKit Go.Proofs.YtlcpaebidnaolaaW.PrintWords Go.Proofs.Ytlcpaebidnaolaa.Base Go.Proofs.Ytlcpaebidnaolaa.Print

theorem put_l0 (x : Int) (l : List Int) (hl : l.length ≤ 1000) (m : Nat) : ∀ i : Nat, i + m = l.length → ∃ r, spec_l4Put.l0v l x (i : Int) = some r ∧ l.length ≤ r.length ∧ r.length ≤ l.length + 1 := by
  induction m with
  | zero =>
    intro i hi
    rw [spec_l4Put.l0v_eq, if_neg (by omega)]
    simp only [Option.bind_some, List.nil_append, List.length_nil, Nat.zero_add, List.length_append, List.length_take, List.length_drop, List.length_cons, Int.toNat_natCast]
    rw [if_pos (by omega), if_pos (by omega), if_pos (by omega), if_pos (by omega), if_pos (by omega)]
    refine ⟨_, rfl, ?_, ?_⟩ <;> simp only [List.length_append, List.length_take, List.length_drop, List.length_cons, List.length_nil] <;> omega
  | succ m ih =>
    intro i hi
    rw [spec_l4Put.l0v_eq, if_pos (by omega), if_pos (by omega)]
    by_cases h1 : rd l (i : Int) < x
    · rw [if_pos h1, w64 (by omega) (by omega)]
      exact ih (i + 1) (by omega)
    · rw [if_neg h1]
      by_cases h2 : rd l (i : Int) = x
      · rw [if_pos h2]
        simp only [Option.bind_some, List.nil_append, List.length_nil, Nat.zero_add]
        rw [if_pos (by omega)]
        exact ⟨_, rfl, by omega, by omega⟩
      · rw [if_neg h2]
        simp only [Option.bind_some, List.nil_append, List.length_nil, Nat.zero_add, List.length_append, List.length_take, List.length_drop, List.length_cons, Int.toNat_natCast]
        rw [if_pos (by omega), if_pos (by omega), if_pos (by omega), if_pos (by omega)]
        refine ⟨_, rfl, ?_, ?_⟩ <;> simp only [List.length_append, List.length_take, List.length_drop, List.length_cons, List.length_nil] <;> omega
theorem put_ex (x : Int) (l : List Int) (hl : l.length ≤ 1000) : ∃ r, spec_l4Put.fv l x = some r ∧ l.length ≤ r.length ∧ r.length ≤ l.length + 1 := by
  rw [spec_l4Put.fv_eq]
  exact put_l0 x l hl l.length 0 (by omega)
theorem l12Draw_l0 (m : Nat) : ∀ (xs l : List Int) (p r : Int), St l p → xs.length + m ≤ 900 → 1 ≤ xs.length → ∃ ys p' r', spec_l12Draw.l0v xs (m : Int) l p r = some (ys, p', r') ∧ St l p' ∧ 1 ≤ ys.length ∧ ys.length ≤ xs.length + m := by
  induction m with
  | zero =>
    intro xs l p r h hx h1
    rw [spec_l12Draw.l0v_eq, if_neg (by omega)]
    exact ⟨_, _, _, rfl, h, h1, by omega⟩
  | succ m ih =>
    intro xs l p r h hx h1
    rw [spec_l12Draw.l0v_eq, if_pos (by omega)]
    obtain ⟨b, p', r', e, h', b0, b1⟩ := l1Below_ex l p r 6 h (by decide)
    rw [e]
    simp only [Option.bind_some]
    obtain ⟨zs, ez, z1, z2⟩ := put_ex (wrap64 (1 + b)) xs (by omega)
    rw [ez]
    simp only [Option.bind_some]
    rw [w64 (by omega) (by omega), show ((m + 1 : Nat) : Int) - 1 = (m : Int) by omega]
    obtain ⟨ys, p2, r2, e2, h2, y1, y2⟩ := ih zs l p' r' h' (by omega) (by omega)
    exact ⟨ys, p2, r2, e2, h2, y1, by omega⟩
theorem l12Draw_ex (l : List Int) (p r : Int) (h : St l p) : ∃ ys p' r', spec_l12Draw.fv l p r = some (ys, p', r') ∧ St l p' ∧ 1 ≤ ys.length ∧ ys.length ≤ 4 := by
  rw [spec_l12Draw.fv_eq]
  obtain ⟨b, p1, r1, e1, h1, b0, b1⟩ := l1Below_ex l p r 4 h (by decide)
  rw [e1]
  simp only [Option.bind_some]
  obtain ⟨c, p2, r2, e2, h2, c0, c1⟩ := l1Below_ex l p1 r1 4 h1 (by decide)
  rw [e2]
  simp only [Option.bind_some]
  obtain ⟨n, rfl⟩ : ∃ n : Nat, c = (n : Int) := ⟨c.toNat, by omega⟩
  obtain ⟨ys, p3, r3, e3, h3, y1, y2⟩ := l12Draw_l0 n [wrap64 (1 + b)] l p2 r2 h2 (by simp; omega) (by simp)
  exact ⟨ys, p3, r3, e3, h3, y1, by simp only [List.length_cons, List.length_nil] at y2; omega⟩
end Go.Proofs.Ytlcpaebidnaolaa.Plain

/- The hellos that the laws draw from bytes: each draw comes to an answer, and its rows are short. Condition: at most 10 to the 12 bytes; the place lies in the bytes. -/
set_option linter.unusedSimpArgs false
set_option linter.unusedVariables false
namespace Go.Proofs.Ytlcpaebidnaolaa.Plain
open Go.RowKit Go.Proofs.YtlcpaebidnaolaaW.PrintWords Go.Proofs.Ytlcpaebidnaolaa.Base Go.Proofs.Ytlcpaebidnaolaa.Print

theorem extOf_l0 (t : Int) (suf : List S113) : ∀ (pre : List S113), (pre ++ suf).length ≤ 1000000000000 → ∃ r, spec_ExtOf.l0v (pre ++ suf) t (pre.length : Int) = some r := by
  induction suf with
  | nil =>
    intro pre _
    rw [spec_ExtOf.l0v_eq, if_neg (nlt_end pre)]
    exact ⟨_, rfl⟩
  | cons y suf ih =>
    intro pre hl
    have hn : pre.length < (pre ++ y :: suf).length := by simp
    rw [spec_ExtOf.l0v_eq, if_pos (lt_mid pre suf y), if_pos (by omega), rdExt_mid]
    by_cases hy : y.f0 = t
    · rw [if_pos hy]
      exact ⟨_, rfl⟩
    · rw [if_neg hy, up_mid pre y hn hl]
      rw [mid_snoc pre suf y] at hl ⊢
      exact ih (pre ++ [y]) hl
theorem extOf_ex (l : List S113) (t : Int) (hl : l.length ≤ 1000000000000) : ∃ r, spec_ExtOf.fv l t = some r := by
  rw [spec_ExtOf.fv_eq]
  simpa using extOf_l0 t l [] (by simpa using hl)
/-- Few extensions with short bodies. -/
def FewX (l : List S113) : Prop := l.length ≤ 1000 ∧ ∀ x ∈ l, x.f1.length ≤ 1000
theorem fewX_ok {l : List S113} (h : FewX l) : l.length ≤ 1000000000000 ∧ okXs l := ⟨by have := h.1; omega, fun x hx => by
  have := h.2 x hx
  omega⟩
theorem fewX_snoc {l : List S113} {x : S113} (h : ∀ y ∈ l, y.f1.length ≤ 1000) (h1 : x.f1.length ≤ 1000) : ∀ y ∈ l ++ [x], y.f1.length ≤ 1000 := by
  intro y hy
  rcases List.mem_append.1 hy with hy | hy
  · exact h y hy
  · rw [List.mem_singleton.1 hy]
    exact h1
/-- What the outer loop does from n rounds before its end. -/
def L9 (n : Nat) : Prop := ∀ (xs : List S113) (l : List Int) (p r : Int), St l p → xs.length + n ≤ 900 → (∀ y ∈ xs, y.f1.length ≤ 1000) → ∃ ys p' r', spec_l9Draw.l0v xs (n : Int) l p r = some (ys, p', r') ∧ St l p' ∧ (∀ y ∈ ys, y.f1.length ≤ 1000) ∧ ys.length ≤ xs.length + n
theorem l9Draw_l1 (n : Nat) (hn : n + 1 ≤ 900) (ih : L9 n) (m : Nat) : ∀ (xs : List S113) (l : List Int) (p r t : Int) (b : List Int), St l p → xs.length + (n + 1) ≤ 900 → (∀ y ∈ xs, y.f1.length ≤ 1000) → b.length + m ≤ 900 →
    ∃ ys p' r', spec_l9Draw.l1v xs ((n + 1 : Nat) : Int) (m : Int) l p r t b = some (ys, p', r') ∧ St l p' ∧ (∀ y ∈ ys, y.f1.length ≤ 1000) ∧ ys.length ≤ xs.length + (n + 1) := by
  induction m with
  | zero =>
    intro xs l p r t b h hx hy hb
    rw [spec_l9Draw.l1v_eq, if_neg (by omega)]
    obtain ⟨q, eq⟩ := extOf_ex xs t (by omega)
    rw [eq, Option.bind_some, w64 (by omega) (by omega), show ((n + 1 : Nat) : Int) - 1 = (n : Int) by omega]
    by_cases hq : q < 0
    · rw [if_pos hq, if_pos (by omega)]
      obtain ⟨ys, p', r', e, h', y1, y2⟩ := ih (xs ++ [⟨t, b⟩]) l p r h (by simp; omega) (fewX_snoc hy (by show b.length ≤ 1000; omega))
      exact ⟨ys, p', r', e, h', y1, by simp only [List.length_append, List.length_cons, List.length_nil] at y2; omega⟩
    · rw [if_neg hq]
      obtain ⟨ys, p', r', e, h', y1, y2⟩ := ih xs l p r h (by omega) hy
      exact ⟨ys, p', r', e, h', y1, by omega⟩
  | succ m ihm =>
    intro xs l p r t b h hx hy hb
    rw [spec_l9Draw.l1v_eq, if_pos (by omega)]
    obtain ⟨c, p1, r1, e1, h1, _, _⟩ := l1Below_ex l p r 256 h (by decide)
    rw [e1, Option.bind_some, if_pos (by omega), w64 (by omega) (by omega), show ((m + 1 : Nat) : Int) - 1 = (m : Int) by omega]
    exact ihm xs l p1 r1 t (b ++ [c]) h1 hx hy (by simp; omega)
theorem l9Draw_l0 (n : Nat) : L9 n := by
  induction n with
  | zero =>
    intro xs l p r h hx hy
    rw [spec_l9Draw.l0v_eq, if_neg (by omega)]
    exact ⟨_, _, _, rfl, h, hy, by omega⟩
  | succ n ih =>
    intro xs l p r h hx hy
    rw [spec_l9Draw.l0v_eq, if_pos (by omega)]
    obtain ⟨b, p1, r1, e1, h1, _⟩ := l1Int_ex l p r [1, 2, 3, 10, 26, 40, 42, 200] h (by simp)
    rw [e1, Option.bind_some]
    obtain ⟨c, p2, r2, e2, h2, c0, c1⟩ := l1Below_ex l p1 r1 4 h1 (by decide)
    rw [e2, Option.bind_some]
    obtain ⟨m, rfl⟩ : ∃ m : Nat, c = (m : Int) := ⟨c.toNat, by omega⟩
    exact l9Draw_l1 n (by omega) ih m xs l p2 r2 b [] h2 (by omega) hy (by simp; omega)
theorem l9Draw_ex (l : List Int) (p r : Int) (h : St l p) : ∃ ys p' r', spec_l9Draw.fv l p r = some (ys, p', r') ∧ St l p' ∧ FewX ys := by
  rw [spec_l9Draw.fv_eq]
  obtain ⟨b, p1, r1, e1, h1, b0, b1⟩ := l1Below_ex l p r 6 h (by decide)
  rw [e1, Option.bind_some]
  obtain ⟨n, rfl⟩ : ∃ n : Nat, b = (n : Int) := ⟨b.toNat, by omega⟩
  obtain ⟨ys, p2, r2, e2, h2, y1, y2⟩ := l9Draw_l0 n [] l p1 r1 h1 (by simp; omega) (fun y hy => by cases hy)
  simp only [List.length_nil] at y2
  exact ⟨ys, p2, r2, e2, h2, by omega, y1⟩
theorem l17Draw_ex (l : List Int) (p r : Int) (h : St l p) : ∃ v x p' r', spec_l17Draw.fv l p r = some (v, x, p', r') ∧ St l p' ∧ v.length ≤ 4 ∧ FewX x := by
  rw [spec_l17Draw.fv_eq]
  obtain ⟨v, p1, r1, e1, h1, _, v1⟩ := l12Draw_ex l p r h
  rw [e1, Option.bind_some]
  obtain ⟨x, p2, r2, e2, h2, hx⟩ := l9Draw_ex l p1 r1 h1
  rw [e2]
  exact ⟨v, x, p2, r2, rfl, h2, v1, hx⟩
end Go.Proofs.Ytlcpaebidnaolaa.Plain

/- PartHello and GivenUp, of the reference: each comes to an answer, and its rows are short. Condition: short rows. -/
set_option linter.unusedSimpArgs false
set_option linter.unusedVariables false
namespace Go.Proofs.Ytlcpaebidnaolaa.Plain
open Go.RowKit Go.Proofs.YtlcpaebidnaolaaW.PrintWords Go.Proofs.Ytlcpaebidnaolaa.Base Go.Proofs.Ytlcpaebidnaolaa.Print

theorem part_l1 (v : List Int) (q : List Int) (hq : q.length ≤ 1000) (g : List Int) (hg : g.length ≤ 1000) (suf : List S113) : ∀ (pre out : List S113), (pre ++ suf).length ≤ 1000 → out.length ≤ pre.length → (∀ y ∈ suf, y.f1.length ≤ 1000) → (∀ y ∈ out, y.f1.length ≤ 1000) →
    ∃ v' l' ok, spec_PartHello.l1v q (pre.length : Int) v (pre ++ suf) g out = some (v', l', ok) ∧ v'.length ≤ 1000 ∧ FewX l' := by
  induction suf with
  | nil =>
    intro pre out hl ho _ hy
    rw [spec_PartHello.l1v_eq, if_neg (nlt_end pre)]
    by_cases h0 : (g.length : Int) = 0
    · rw [if_pos h0]
      exact ⟨_, _, _, rfl, by simp, by simp [FewX]⟩
    · rw [if_neg h0]
      exact ⟨_, _, _, rfl, hg, by simp at hl; omega, hy⟩
  | cons x suf ih =>
    intro pre out hl ho hs hy
    have hn : pre.length < (pre ++ x :: suf).length := by simp
    have hx := hs x List.mem_cons_self
    have hlt := lt_mid pre suf x
    have hp : pre.length < 1000 := by omega
    rw [spec_PartHello.l1v_eq, if_pos hlt, if_pos (by omega), rdExt_mid, l9Has_v q _ (by omega), Option.bind_some, up_mid pre x hn (by omega)]
    simp only [Option.bind_some, List.nil_append, List.length_nil, Nat.zero_add]
    rw [mid_snoc pre suf x] at hl ⊢
    cases hm : mem q x.f0 with
    | true =>
      rw [if_pos rfl]
      exact ih (pre ++ [x]) out hl (by simp; omega) (fun y h => hs y (List.mem_cons_of_mem _ h)) hy
    | false =>
      rw [if_neg (by simp), if_pos (by omega), if_pos (by omega)]
      exact ih (pre ++ [x]) _ hl (by simp; omega) (fun y h => hs y (List.mem_cons_of_mem _ h)) (fewX_snoc hy hx)
theorem part_l0 (a q : List Int) (ha : a.length ≤ 1000) (hq : q.length ≤ 1000) (l : List S113) (hl : FewX l) (suf : List Int) : ∀ (pre g : List Int), (pre ++ suf).length ≤ 1000 → g.length ≤ pre.length →
    ∃ v' l' ok, spec_PartHello.l0v a q (pre.length : Int) (pre ++ suf) l g = some (v', l', ok) ∧ v'.length ≤ 1000 ∧ FewX l' := by
  induction suf with
  | nil =>
    intro pre g hp hg
    rw [spec_PartHello.l0v_eq, if_neg (nlt_end pre)]
    simp at hp
    exact part_l1 _ q hq g (by omega) l [] [] (by simpa using hl.1) (by simp) hl.2 (fun y h => by cases h)
  | cons x suf ih =>
    intro pre g hp hg
    have hn : pre.length < (pre ++ x :: suf).length := by simp
    have h1 : pre.length < 1000 := by omega
    rw [spec_PartHello.l0v_eq, if_pos (lt_mid pre suf x), if_pos (by omega), rd_mid, l9Has_v a _ (by omega), Option.bind_some, up_mid pre x hn (by omega)]
    rw [mid_snoc pre suf x] at hp ⊢
    cases hm : mem a x with
    | true =>
      rw [if_pos rfl]
      exact ih (pre ++ [x]) g hp (by simp; omega)
    | false =>
      rw [if_neg (by simp), if_pos (by omega)]
      exact ih (pre ++ [x]) _ hp (by simp; omega)
theorem part_ex (v : List Int) (l : List S113) (a q : List Int) (hv : v.length ≤ 1000) (hl : FewX l) (ha : a.length ≤ 1000) (hq : q.length ≤ 1000) : ∃ v' l' ok, spec_PartHello.fv v l a q = some (v', l', ok) ∧ v'.length ≤ 1000 ∧ FewX l' := by
  have hx := fewX_ok hl
  rw [spec_PartHello.fv_eq, specHello_v v l (by omega) hx.1 hx.2, Option.bind_some]
  cases isH v l with
  | true =>
    rw [if_pos rfl]
    exact part_l0 a q ha hq l hl v [] [] (by simpa using hv) (by simp)
  | false =>
    rw [if_neg (by simp)]
    exact ⟨_, _, _, rfl, by simp, by simp [FewX]⟩
theorem given_l0 (v xv : List Int) (xl : List S113) (hx : xl.length ≤ 1000) (suf : List S113) : ∀ (pre : List S113) (out : List Int), (pre ++ suf).length ≤ 1000 → out.length ≤ 1000 + pre.length → ∃ r, spec_GivenUp.l0v out (pre.length : Int) v (pre ++ suf) xv xl = some r ∧ r.length ≤ 2000 := by
  induction suf with
  | nil =>
    intro pre out hl ho
    rw [spec_GivenUp.l0v_eq, if_neg (nlt_end pre)]
    simp at hl
    exact ⟨_, rfl, by omega⟩
  | cons x suf ih =>
    intro pre out hl ho
    have hn : pre.length < (pre ++ x :: suf).length := by simp
    have h1 : pre.length < 1000 := by omega
    obtain ⟨q, eq⟩ := extOf_ex xl x.f0 (by omega)
    rw [spec_GivenUp.l0v_eq, if_pos (lt_mid pre suf x), if_pos (by omega), rdExt_mid, eq, Option.bind_some, up_mid pre x hn (by omega), l1In_f, Option.bind_some]
    rw [mid_snoc pre suf x] at hl ⊢
    by_cases hq : q < 0
    · rw [if_pos hq]
      cases inR 0 255 x.f0 with
      | true =>
        rw [if_pos rfl, if_pos (by omega)]
        exact ih (pre ++ [x]) _ hl (by simp; omega)
      | false =>
        rw [if_neg (by simp)]
        exact ih (pre ++ [x]) _ hl (by simp; omega)
    · rw [if_neg hq]
      exact ih (pre ++ [x]) _ hl (by simp; omega)
theorem given_ex (v : List Int) (l : List S113) (xv : List Int) (xl : List S113) (hv : v.length ≤ 1000) (hl : FewX l) (hxv : xv.length ≤ 1000) (hxl : FewX xl) : ∃ r, spec_GivenUp.fv v l xv xl = some r ∧ r.length ≤ 2000 := by
  have h := wo_len v xv
  rw [spec_GivenUp.fv_eq, specWo_v v xv (by omega) (by omega), Option.bind_some]
  exact given_l0 v xv xl hxl.1 l [] _ (by simpa using hl.1) (by simp; omega)
end Go.Proofs.Ytlcpaebidnaolaa.Plain

/- The lists of tags that the laws draw from bytes: each draw comes to an answer, and the lists are short. Condition: at most 10 to the 12 bytes; the place lies in the bytes. -/
set_option linter.unusedSimpArgs false
set_option linter.unusedVariables false
namespace Go.Proofs.Ytlcpaebidnaolaa.Plain
open Go.RowKit Go.Proofs.YtlcpaebidnaolaaW.PrintWords Go.Proofs.Ytlcpaebidnaolaa.Base Go.Proofs.Ytlcpaebidnaolaa.Print

theorem l17Tags_l0 (m : Nat) : ∀ (xs l : List Int) (p r : Int), St l p → xs.length + m ≤ 900 → ∃ ys p' r', spec_l17Tags.l0v xs (m : Int) l p r = some (ys, p', r') ∧ St l p' ∧ ys.length ≤ xs.length + m := by
  induction m with
  | zero =>
    intro xs l p r h hx
    rw [spec_l17Tags.l0v_eq, if_neg (by omega)]
    exact ⟨_, _, _, rfl, h, by omega⟩
  | succ m ih =>
    intro xs l p r h hx
    rw [spec_l17Tags.l0v_eq, if_pos (by omega)]
    obtain ⟨b, p', r', e, h', _⟩ := l1Int_ex l p r [1, 2, 3, 10, 40, 200] h (by simp)
    rw [e]
    simp only [Option.bind_some]
    obtain ⟨zs, ez, z1, z2⟩ := put_ex b xs (by omega)
    rw [ez]
    simp only [Option.bind_some]
    rw [w64 (by omega) (by omega), show ((m + 1 : Nat) : Int) - 1 = (m : Int) by omega]
    obtain ⟨ys, p2, r2, e2, h2, y2⟩ := ih zs l p' r' h' (by omega)
    exact ⟨ys, p2, r2, e2, h2, by omega⟩
theorem l17Tags_ex (l : List Int) (p r : Int) (h : St l p) : ∃ ys p' r', spec_l17Tags.fv l p r = some (ys, p', r') ∧ St l p' ∧ ys.length ≤ 5 := by
  rw [spec_l17Tags.fv_eq]
  obtain ⟨b, p1, r1, e1, h1, b0, b1⟩ := l1Below_ex l p r 5 h (by decide)
  rw [e1]
  simp only [Option.bind_some]
  obtain ⟨n, rfl⟩ : ∃ n : Nat, b = (n : Int) := ⟨b.toNat, by omega⟩
  obtain ⟨ys, p3, r3, e3, h3, y2⟩ := l17Tags_l0 n [] l p1 r1 h1 (by simp; omega)
  exact ⟨ys, p3, r3, e3, h3, by simp only [List.length_nil] at y2; omega⟩
end Go.Proofs.Ytlcpaebidnaolaa.Plain

/- The boxes and paths that the laws draw from bytes: each draw comes to an answer, and its rows are short. Condition: at most 2 to the 40 bytes; the place lies in the bytes. -/
set_option linter.unusedSimpArgs false
set_option linter.unusedVariables false
namespace Go.Proofs.Ytlcpaebidnaolaa.Plain
open Go.RowKit Go.Proofs.YtlcpaebidnaolaaW.PrintWords Go.Proofs.Ytlcpaebidnaolaa.Base Go.Proofs.Ytlcpaebidnaolaa.Print

theorem l19Draw_ex (l : List Int) (p r : Int) (h : St l p) : ∃ a d s f p' r', spec_l19Draw.fv l p r = some (a, d, s, f, p', r') ∧ St l p' ∧ d.length ≤ 5 ∧ s.length ≤ 5 := by
  rw [spec_l19Draw.fv_eq]
  obtain ⟨c, p1, r1, e1, h1, c0, c1⟩ := l1Below_ex l p r 7 h (by decide)
  rw [e1]
  simp only [Option.bind_some]
  by_cases k0 : c = 0
  · rw [if_pos k0]
    obtain ⟨b, p2, r2, e2, h2, _, _⟩ := l1Below_ex l p1 r1 6 h1 (by decide)
    rw [e2]
    exact ⟨_, _, _, _, _, _, rfl, h2, by simp, by simp⟩
  · rw [if_neg k0]
    obtain ⟨ys, p2, r2, e2, h2, hy⟩ := l17Tags_ex l p1 r1 h1
    by_cases k1 : c = 1
    · rw [if_pos k1, e2]
      exact ⟨_, _, _, _, _, _, rfl, h2, hy, by simp⟩
    · rw [if_neg k1]
      by_cases k2 : c = 2
      · rw [if_pos k2, e2]
        exact ⟨_, _, _, _, _, _, rfl, h2, by simp, hy⟩
      · rw [if_neg k2]
        by_cases k3 : c = 3
        · rw [if_pos k3]
          exact ⟨_, _, _, _, _, _, rfl, h1, by simp, by simp⟩
        · rw [if_neg k3]
          exact ⟨_, _, _, _, _, _, rfl, h1, by simp, by simp⟩
/-- A short path of boxes with short rows. -/
def FewB (p : List S89) : Prop := p.length ≤ 1000 ∧ ∀ x ∈ p, x.f1.length ≤ 1000 ∧ x.f2.length ≤ 1000
theorem fewB_ok {p : List S89} (h : FewB p) : p.length ≤ 1000000000000 ∧ ∀ x ∈ p, okB x := ⟨by have := h.1; omega, fun x hx => by
  have := h.2 x hx
  exact ⟨by omega, by omega⟩⟩
theorem fewB_snoc {p : List S89} {b : S89} (h : ∀ x ∈ p, x.f1.length ≤ 1000 ∧ x.f2.length ≤ 1000) (h1 : b.f1.length ≤ 1000) (h2 : b.f2.length ≤ 1000) : ∀ x ∈ p ++ [b], x.f1.length ≤ 1000 ∧ x.f2.length ≤ 1000 := by
  intro y hy
  rcases List.mem_append.1 hy with hy | hy
  · exact h y hy
  · rw [List.mem_singleton.1 hy]
    exact ⟨h1, h2⟩
theorem l19Path_l0 (m : Nat) : ∀ (xs : List S89) (l : List Int) (p r : Int), St l p → xs.length + m ≤ 900 → (∀ x ∈ xs, x.f1.length ≤ 1000 ∧ x.f2.length ≤ 1000) → ∃ ys p' r', spec_l19Path.l0v xs (m : Int) l p r = some (ys, p', r') ∧ St l p' ∧ (∀ x ∈ ys, x.f1.length ≤ 1000 ∧ x.f2.length ≤ 1000) ∧ ys.length ≤ xs.length + m := by
  induction m with
  | zero =>
    intro xs l p r h hx hy
    rw [spec_l19Path.l0v_eq, if_neg (by omega)]
    exact ⟨_, _, _, rfl, h, hy, by omega⟩
  | succ m ih =>
    intro xs l p r h hx hy
    rw [spec_l19Path.l0v_eq, if_pos (by omega)]
    obtain ⟨a, d, s, f, p1, r1, e1, h1, hd, hs⟩ := l19Draw_ex l p r h
    rw [e1]
    simp only [Option.bind_some]
    rw [if_pos (by omega), w64 (by omega) (by omega), show ((m + 1 : Nat) : Int) - 1 = (m : Int) by omega]
    obtain ⟨ys, p2, r2, e2, h2, y1, y2⟩ := ih (xs ++ [⟨a, d, s, f⟩]) l p1 r1 h1 (by simp; omega) (fewB_snoc hy (by show d.length ≤ _; omega) (by show s.length ≤ _; omega))
    exact ⟨ys, p2, r2, e2, h2, y1, by simp only [List.length_append, List.length_cons, List.length_nil] at y2; omega⟩
theorem l19Path_ex (l : List Int) (p r : Int) (h : St l p) : ∃ ys p' r', spec_l19Path.fv l p r = some (ys, p', r') ∧ St l p' ∧ FewB ys ∧ ys.length ≤ 4 := by
  rw [spec_l19Path.fv_eq]
  obtain ⟨b, p1, r1, e1, h1, b0, b1⟩ := l1Below_ex l p r 4 h (by decide)
  rw [e1]
  simp only [Option.bind_some]
  obtain ⟨n, rfl⟩ : ∃ n : Nat, b = (n : Int) := ⟨b.toNat, by omega⟩
  obtain ⟨ys, p2, r2, e2, h2, y1, y2⟩ := l19Path_l0 n [] l p1 r1 h1 (by simp; omega) (fun x hx => by cases hx)
  simp only [List.length_nil] at y2
  exact ⟨ys, p2, r2, e2, h2, ⟨by omega, y1⟩, by omega⟩
end Go.Proofs.Ytlcpaebidnaolaa.Plain

/- FallbackHello and HelloFor, of the reference: each comes to an answer, and its rows are short. Condition: short rows. -/
set_option linter.unusedSimpArgs false
set_option linter.unusedVariables false
namespace Go.Proofs.Ytlcpaebidnaolaa.Plain
open Go.RowKit Go.Proofs.YtlcpaebidnaolaaW.PrintWords Go.Proofs.Ytlcpaebidnaolaa.Base Go.Proofs.Ytlcpaebidnaolaa.Print

theorem fall_ex (v : List Int) (l : List S113) (p : List S89) (hp : FewB p) (hv : v.length ≤ 1000) (hl : FewX l) : ∃ v' l' ok, spec_FallbackHello.fv v l p = some (v', l', ok) ∧ v'.length ≤ 1000 ∧ FewX l' := by
  have hb := fewB_ok hp
  have hx := fewX_ok hl
  have h1 := lostV_len p v
  have h2 := wo_len v (lostV p v)
  have h3 : (lostT p (wo v (lostV p v)) l).length ≤ l.length := by
    unfold lostT
    split
    · rw [List.length_map]
      exact List.length_filter_le _ _
    · exact Nat.zero_le _
  have h4 := hl.1
  obtain ⟨v', l', ok, e, b1, b2⟩ := part_ex v l (lostV p v) (lostT p (wo v (lostV p v)) l) hv hl (by omega) (by omega)
  rw [spec_FallbackHello.fv_eq, specHello_v v l (by omega) hx.1 hx.2, Option.bind_some]
  cases isH v l with
  | false =>
    rw [if_neg (by simp)]
    exact ⟨_, _, _, rfl, by simp, by simp [FewX]⟩
  | true =>
    rw [if_pos rfl, specLostV_v p v hb.1 hb.2 (by omega), Option.bind_some, specWo_v v _ (by omega) (by omega), Option.bind_some, specLost_v p _ l hb.1 hb.2 (by omega) hx.1 hx.2, Option.bind_some, e]
    exact ⟨_, _, _, rfl, b1, b2⟩
theorem for_ex (v : List Int) (l : List S113) (p : List S89) (hp : FewB p) (hv : v.length ≤ 1000) (hl : FewX l) : ∃ v' l' n ok, spec_HelloFor.fv v l p = some (v', l', n, ok) ∧ v'.length ≤ 1000 ∧ FewX l' := by
  have hb := fewB_ok hp
  have hx := fewX_ok hl
  have hno : ∀ n : Int, ∃ v' l' m ok, some (([] : List Int), ([] : List S113), n, false) = some (v', l', m, ok) ∧ v'.length ≤ 1000 ∧ FewX l' := fun n => ⟨_, _, _, _, rfl, by simp, by simp [FewX]⟩
  rw [spec_HelloFor.fv_eq, specHello_v v l (by omega) hx.1 hx.2, Option.bind_some, specWhole_v v l p hb.1 hb.2 (by omega) hx.1 hx.2, Option.bind_some, specCopyH_v v l (by omega) hx.1 hx.2, Option.bind_some]
  split
  · split
    · exact ⟨_, _, _, _, rfl, hv, hl⟩
    · obtain ⟨v', l', ok, e, b1, b2⟩ := fall_ex v l p hp hv hl
      have hx' := fewX_ok b2
      rw [e, Option.bind_some, specWhole_v v' l' p hb.1 hb.2 (by omega) hx'.1 hx'.2, Option.bind_some]
      split
      · split
        · exact ⟨_, _, _, _, rfl, b1, b2⟩
        · exact hno _
      · exact hno _
  · exact hno _
end Go.Proofs.Ytlcpaebidnaolaa.Plain

/- CommonOf and BestCommon, of the reference. Condition: at most 10 to the 12 numbers each. -/
set_option linter.unusedSimpArgs false
set_option linter.unusedVariables false
namespace Go.Proofs.Ytlcpaebidnaolaa.Plain
open Go.RowKit Go.Proofs.YtlcpaebidnaolaaW.PrintWords Go.Proofs.Ytlcpaebidnaolaa.Base Go.Proofs.Ytlcpaebidnaolaa.Print

theorem specCom_l0 (b : List Int) (hb : b.length ≤ 1000000000000) (suf : List Int) : ∀ (pre out : List Int), (pre ++ suf).length ≤ 1000000000000 → out.length ≤ pre.length →
    spec_CommonOf.l0v (pre ++ suf) b out (pre.length : Int) = some (out ++ com suf b) := by
  induction suf with
  | nil =>
    intro pre out _ _
    rw [spec_CommonOf.l0v_eq, if_neg (nlt_end pre)]
    simp [com]
  | cons x suf ih =>
    intro pre out hl ho
    have hn : pre.length < (pre ++ x :: suf).length := by simp
    have hp : pre.length < 1000000000000 := by omega
    rw [spec_CommonOf.l0v_eq, if_pos (lt_mid pre suf x), if_pos (by omega), rd_mid, l9Has_v b x hb, up_mid pre x hn hl]
    simp only [Option.bind_some]
    rw [mid_snoc pre suf x] at hl ⊢
    cases hx : mem b x with
    | true =>
      rw [if_pos rfl, if_pos (by omega), ih (pre ++ [x]) (out ++ [x]) hl (by simp; omega)]
      simp [com, hx]
    | false =>
      rw [if_neg (by simp), ih (pre ++ [x]) out hl (by simp; omega)]
      simp [com, hx]
theorem specCom_v (a b : List Int) (ha : a.length ≤ 1000000000000) (hb : b.length ≤ 1000000000000) : spec_CommonOf.fv a b = some (com a b) := by
  rw [spec_CommonOf.fv_eq]
  simpa using specCom_l0 b hb a [] [] (by simpa using ha) (by simp)
theorem specBest_v (a b : List Int) (ha : a.length ≤ 1000000000000) (hb : b.length ≤ 1000000000000) : spec_BestCommon.fv a b = some (best a b) := by
  rw [spec_BestCommon.fv_eq, specCom_v a b ha hb, specVers_v a ha, specVers_v b hb]
  simp only [Option.bind_some, best]
  cases areV a with
  | false => simp
  | true =>
    cases areV b with
    | false => simp
    | true =>
      have hc := com_len a b
      simp only [if_true, Bool.and_self]
      by_cases h : (com a b).length = 0
      · have h' : com a b = [] := List.length_eq_zero_iff.mp h
        simp [h']
      · have hp : com a b ≠ [] := fun e => h (by rw [e]; rfl)
        rw [if_neg (by omega), w64 (by omega) (by omega), if_pos (by omega), if_pos (by omega)]
        have := rd_lastD (com a b) [] hp
        rw [List.append_nil] at this
        rw [this]
end Go.Proofs.Ytlcpaebidnaolaa.Plain

/- The tags that mean nothing, of the reference. No condition. -/
set_option linter.unusedSimpArgs false
set_option linter.unusedVariables false
namespace Go.Proofs.Ytlcpaebidnaolaa.Plain
open Go.RowKit Go.Proofs.YtlcpaebidnaolaaW.PrintWords Go.Proofs.Ytlcpaebidnaolaa.Base Go.Proofs.Ytlcpaebidnaolaa.Print

theorem specRes_f (x : Int) : spec_IsReserved.f x = some (res x) := by
  unfold spec_IsReserved.f res
  rw [l1In_f]
  cases inR 0 255 x <;> simp
end Go.Proofs.Ytlcpaebidnaolaa.Plain

/- ChooseAnswer, IsAnswer and FitsHello, of the reference. Condition: at most 10 to the 12 of each. -/
set_option linter.unusedSimpArgs false
set_option linter.unusedVariables false
namespace Go.Proofs.Ytlcpaebidnaolaa.Plain
open Go.RowKit Go.Proofs.YtlcpaebidnaolaaW.PrintWords Go.Proofs.Ytlcpaebidnaolaa.Base Go.Proofs.Ytlcpaebidnaolaa.Print

theorem specStrip_l0 (suf : List S113) : ∀ (pre out : List S113), (pre ++ suf).length ≤ 1000000000000 → out.length ≤ pre.length → okXs suf → spec_StripGrease.l0v (pre ++ suf) out (pre.length : Int) = some (out ++ suf.filter (fun x => !res x.f0)) := by
  induction suf with
  | nil =>
    intro pre out _ _ _
    rw [spec_StripGrease.l0v_eq, if_neg (nlt_end pre)]
    simp
  | cons x suf ih =>
    intro pre out hl ho hs
    have hn : pre.length < (pre ++ x :: suf).length := by simp
    have hp : pre.length < 1000000000000 := by omega
    have hx := hs x List.mem_cons_self
    have hs' : okXs suf := fun y hy => hs y (List.mem_cons_of_mem _ hy)
    rw [spec_StripGrease.l0v_eq, if_pos (lt_mid pre suf x), if_pos (by omega), rdExt_mid, specRes_f, Option.bind_some, up_mid pre x hn hl]
    simp only [Option.bind_some, List.nil_append, List.length_nil, Nat.zero_add]
    rw [mid_snoc pre suf x] at hl ⊢
    cases hm : res x.f0 with
    | true =>
      rw [if_pos rfl, ih (pre ++ [x]) out hl (by simp; omega) hs']
      simp [hm]
    | false =>
      rw [if_neg (by simp), if_pos (by omega), if_pos (by omega), ih (pre ++ [x]) _ hl (by simp; omega) hs']
      simp [hm]
theorem specStrip_v (l : List S113) (hl : l.length ≤ 1000000000000) (hs : okXs l) : spec_StripGrease.fv l = some (l.filter (fun x => !res x.f0)) := by
  rw [spec_StripGrease.fv_eq]
  simpa using specStrip_l0 l [] [] (by simpa using hl) (by simp) hs
/-- What a server answers with. -/
def answer (t : List Int) (l : List S113) : List S113 := (l.filter (fun x => mem t x.f0)).filter (fun x => !res x.f0)
theorem answer_len (t : List Int) (l : List S113) : (answer t l).length ≤ l.length := Nat.le_trans (List.length_filter_le _ _) (List.length_filter_le _ _)
theorem answer_ok {l : List S113} (t : List Int) (h : okXs l) : okXs (answer t l) := fun x hx => h x (List.mem_filter.mp (List.mem_filter.mp hx).1).1
def choose (w t v : List Int) (l : List S113) : Int × List S113 × Bool := if isH v l && !decide (best w v = 0) then (best w v, answer t l, true) else (0, [], false)
theorem specChoose_v (w t v : List Int) (l : List S113) (hw : w.length ≤ 1000000000000) (ht : t.length ≤ 1000000000000) (hv : v.length ≤ 1000000000000) (hl : l.length ≤ 1000000000000) (hs : okXs l) : spec_ChooseAnswer.fv w t v l = some (choose w t v l) := by
  have hk : okXs (l.filter (fun x => mem t x.f0)) := fun x hx => hs x (List.mem_filter.mp hx).1
  have hk2 : (l.filter (fun x => mem t x.f0)).length ≤ 1000000000000 := Nat.le_trans (List.length_filter_le _ _) hl
  rw [spec_ChooseAnswer.fv_eq, specBest_v w v hw hv, Option.bind_some, specHello_v v l hv hl hs, Option.bind_some]
  simp only [spec_ChooseAnswer.j0v_eq, specKnown_v l t ht hl hs, Option.bind_some, specStrip_v _ hk2 hk, choose, answer]
  cases isH v l with
  | false => simp
  | true => by_cases hb : best w v = 0 <;> simp [hb]
def isA (v : Int) (l : List S113) : Bool := inR 1 9 v && isX l
theorem specIsA_v (v : Int) (l : List S113) (hl : l.length ≤ 1000000000000) (hs : okXs l) : spec_IsAnswer.fv v l = some (isA v l) := by
  rw [spec_IsAnswer.fv_eq, l1In_f, Option.bind_some, specExts_v l hl hs, isA]
  cases inR 1 9 v <;> simp
theorem fits_l0 (v : List Int) (l : List S113) (a : Int) (hv : v.length ≤ 1000000000000) (hl : l.length ≤ 1000000000000) (hs : okXs l) (suf : List S113) : ∀ (pre : List S113), (pre ++ suf).length ≤ 1000000000000 → okXs (pre ++ suf) → ∃ r, spec_FitsHello.l0v (pre.length : Int) v l a (pre ++ suf) = some r := by
  induction suf with
  | nil =>
    intro pre hp hx
    rw [spec_FitsHello.l0v_eq, if_neg (nlt_end pre), specHello_v v l hv hl hs, Option.bind_some, specIsA_v _ _ hp hx, Option.bind_some, l9Has_v v _ hv]
    simp only [Option.bind_some]
    split
    · split <;> exact ⟨_, rfl⟩
    · exact ⟨_, rfl⟩
  | cons x suf ih =>
    intro pre hp hx
    have hn : pre.length < (pre ++ x :: suf).length := by simp
    obtain ⟨q, eq⟩ := extOf_ex l x.f0 hl
    rw [spec_FitsHello.l0v_eq, if_pos (lt_mid pre suf x), if_pos (by omega), rdExt_mid, eq, Option.bind_some, specRes_f, Option.bind_some, up_mid pre x hn hp]
    rw [mid_snoc pre suf x] at hp hx ⊢
    split
    · exact ⟨_, rfl⟩
    · split
      · exact ⟨_, rfl⟩
      · exact ih (pre ++ [x]) hp hx
theorem fits_ex (v : List Int) (l : List S113) (a : Int) (m : List S113) (hv : v.length ≤ 1000000000000) (hl : l.length ≤ 1000000000000) (hs : okXs l) (hm : m.length ≤ 1000000000000) (hx : okXs m) : ∃ r, spec_FitsHello.fv v l a m = some r := by
  rw [spec_FitsHello.fv_eq]
  simpa using fits_l0 v l a hv hl hs m [] (by simpa using hm) (by simpa using hx)
end Go.Proofs.Ytlcpaebidnaolaa.Plain

/- A row of rows, read. No program. No condition. -/
set_option linter.unusedSimpArgs false
set_option linter.unusedVariables false
namespace Go.Proofs.Ytlcpaebidnaolaa.Plain
open Go.RowKit Go.Proofs.YtlcpaebidnaolaaW.PrintWords Go.Proofs.Ytlcpaebidnaolaa.Base Go.Proofs.Ytlcpaebidnaolaa.Print

theorem rdL1_mid (pre suf : List (List Int)) (x : List Int) : rd_L2 (pre ++ x :: suf) (pre.length : Int) = x := by simp [rd_L2]
end Go.Proofs.Ytlcpaebidnaolaa.Plain

/- Transcripts and their proofs, of the reference: each comes to an answer. Condition: short rows. -/
set_option linter.unusedSimpArgs false
set_option linter.unusedVariables false
namespace Go.Proofs.Ytlcpaebidnaolaa.Plain
open Go.RowKit Go.Proofs.YtlcpaebidnaolaaW.PrintWords Go.Proofs.Ytlcpaebidnaolaa.Base Go.Proofs.Ytlcpaebidnaolaa.Print

theorem specMod_ex (a : Int) : ∃ r, spec_Mod.f a 2147483647 = some r := by
  unfold spec_Mod.f
  rw [l1In_f, Option.bind_some]
  split
  · rw [if_neg (by decide)]
    exact ⟨_, rfl⟩
  · exact ⟨_, rfl⟩
theorem specHash_l0 (suf : List Int) : ∀ (pre : List Int) (h : Int), (pre ++ suf).length ≤ 1000000000000 → ∃ r, spec_Hash.l0v (pre ++ suf) h (pre.length : Int) = some r := by
  induction suf with
  | nil =>
    intro pre h _
    rw [spec_Hash.l0v_eq, if_neg (nlt_end pre)]
    exact ⟨_, rfl⟩
  | cons x suf ih =>
    intro pre h hl
    have hn : pre.length < (pre ++ x :: suf).length := by simp
    obtain ⟨r, e⟩ := specMod_ex x
    rw [spec_Hash.l0v_eq, if_pos (lt_mid pre suf x), if_pos (by omega), rd_mid, e, Option.bind_some, up_mid pre x hn hl]
    rw [mid_snoc pre suf x] at hl ⊢
    exact ih (pre ++ [x]) _ hl
theorem specHash_ex (l : List Int) (hl : l.length ≤ 1000000000000) : ∃ r, spec_Hash.fv l = some r := by
  rw [spec_Hash.fv_eq]
  simpa using specHash_l0 l [] 11 (by simpa using hl)
theorem specKeyed_ex (a : Int) (l : List Int) (hl : l.length ≤ 1000000) : ∃ r, spec_KeyedHash.fv a l = some r := by
  obtain ⟨r, e⟩ := specHash_ex ([a] ++ l ++ [a]) (by simp; omega)
  rw [spec_KeyedHash.fv_eq]
  simp only [Option.bind_some]
  rw [if_pos (by simp; omega), if_pos (by simp; omega), e]
  exact ⟨_, rfl⟩
theorem specIsT_l0 (suf : List (List Int)) : ∀ (pre : List (List Int)), (pre ++ suf).length ≤ 1000000 → (∀ x ∈ suf, x.length ≤ 1000000) → ∃ r, spec_IsTranscript.l0v (pre ++ suf) (pre.length : Int) = some r := by
  induction suf with
  | nil =>
    intro pre _ _
    rw [spec_IsTranscript.l0v_eq, if_neg (nlt_end pre)]
    exact ⟨_, rfl⟩
  | cons x suf ih =>
    intro pre hl hs
    have hn : pre.length < (pre ++ x :: suf).length := by simp
    have hx := hs x List.mem_cons_self
    rw [spec_IsTranscript.l0v_eq, if_pos (lt_mid pre suf x), if_pos (by omega), rdL1_mid, specByte_v x (by omega), Option.bind_some, up_mid pre x hn (by omega)]
    rw [mid_snoc pre suf x] at hl ⊢
    split
    · exact ih (pre ++ [x]) hl (fun y hy => hs y (List.mem_cons_of_mem _ hy))
    · exact ⟨_, rfl⟩
theorem specIsT_ex (l : List (List Int)) (hl : l.length ≤ 1000000) (hs : ∀ x ∈ l, x.length ≤ 1000000) : ∃ r, spec_IsTranscript.fv l = some r := by
  rw [spec_IsTranscript.fv_eq]
  simpa using specIsT_l0 l [] (by simpa using hl) hs
theorem specTrH_l0 (suf : List (List Int)) : ∀ (pre : List (List Int)) (h : Int), (pre ++ suf).length ≤ 1000000 → (∀ x ∈ suf, x.length ≤ 1000000) → ∃ r, spec_TranscriptHash.l0v (pre ++ suf) h (pre.length : Int) = some r := by
  induction suf with
  | nil =>
    intro pre h _ _
    rw [spec_TranscriptHash.l0v_eq, if_neg (nlt_end pre)]
    exact ⟨_, rfl⟩
  | cons x suf ih =>
    intro pre h hl hs
    have hn : pre.length < (pre ++ x :: suf).length := by simp
    have hx := hs x List.mem_cons_self
    obtain ⟨r, e⟩ := specHash_ex ([h, (x.length : Int)] ++ x) (by simp; omega)
    rw [spec_TranscriptHash.l0v_eq, if_pos (lt_mid pre suf x), if_pos (by omega), rdL1_mid, Option.bind_some, if_pos (by simp; omega), e, Option.bind_some, up_mid pre x hn (by omega)]
    rw [mid_snoc pre suf x] at hl ⊢
    exact ih (pre ++ [x]) _ hl (fun y hy => hs y (List.mem_cons_of_mem _ hy))
theorem specTrH_ex (l : List (List Int)) (hl : l.length ≤ 1000000) (hs : ∀ x ∈ l, x.length ≤ 1000000) : ∃ r, spec_TranscriptHash.fv l = some r := by
  obtain ⟨b, e⟩ := specIsT_ex l hl hs
  rw [spec_TranscriptHash.fv_eq, e, Option.bind_some]
  split
  · simpa using specTrH_l0 l [] 1 (by simpa using hl) hs
  · exact ⟨_, rfl⟩
theorem specFin_ex (k : Int) (l : List (List Int)) (s : Int) (hl : l.length ≤ 1000000) (hs : ∀ x ∈ l, x.length ≤ 1000000) : ∃ r, spec_FinishOf.fv k l s = some r := by
  obtain ⟨b, e⟩ := specIsT_ex l hl hs
  obtain ⟨h, e2⟩ := specTrH_ex l hl hs
  obtain ⟨q, e3⟩ := specKeyed_ex k [s, h] (by simp)
  have hj : ∀ c, ∃ r, spec_FinishOf.j0v k l s c = some r := by
    intro c
    rw [spec_FinishOf.j0v_eq, e2, Option.bind_some, e3]
    split <;> exact ⟨_, rfl⟩
  rw [spec_FinishOf.fv_eq]
  unfold spec_IsValidKey.f
  simp only [l1In_f, Option.bind_some, e]
  split
  · split <;> exact hj _
  · exact hj _
end Go.Proofs.Ytlcpaebidnaolaa.Plain

/- DialOnce and Dial, of the reference: each comes to an answer, and its rows are short. Condition: short rows. -/
set_option linter.unusedSimpArgs false
set_option linter.unusedVariables false
namespace Go.Proofs.Ytlcpaebidnaolaa.Plain
open Go.RowKit Go.Proofs.YtlcpaebidnaolaaW.PrintWords Go.Proofs.Ytlcpaebidnaolaa.Base Go.Proofs.Ytlcpaebidnaolaa.Print

theorem enc_l0 (suf : List S113) : ∀ (pre : List S113) (out : List Int), (pre ++ suf).length ≤ 1000 → out.length ≤ 1 + 6 * pre.length → (∀ x ∈ suf, x.f1.length ≤ 4) → ∃ r, spec_EncodeExts.l0v (pre ++ suf) out (pre.length : Int) = some (r, true) ∧ r.length ≤ 10000 := by
  induction suf with
  | nil =>
    intro pre out hl ho _
    rw [spec_EncodeExts.l0v_eq, if_neg (nlt_end pre)]
    simp at hl
    exact ⟨_, rfl, by omega⟩
  | cons x suf ih =>
    intro pre out hl ho hs
    have hn : pre.length < (pre ++ x :: suf).length := by simp
    have hp : pre.length < 1000 := by omega
    have hx := hs x List.mem_cons_self
    rw [spec_EncodeExts.l0v_eq, if_pos (lt_mid pre suf x), if_pos (by omega), rdExt_mid, up_mid pre x hn (by omega)]
    simp only [Option.bind_some]
    rw [if_pos (by simp; omega), if_pos (by simp; omega)]
    rw [mid_snoc pre suf x] at hl ⊢
    exact ih (pre ++ [x]) _ hl (by simp; omega) (fun y hy => hs y (List.mem_cons_of_mem _ hy))
theorem enc_ex (l : List S113) (hl : l.length ≤ 1000) (hs : okXs l) : ∃ r ok, spec_EncodeExts.fv l = some (r, ok) ∧ r.length ≤ 10000 := by
  rw [spec_EncodeExts.fv_eq, specExts_v l (by omega) hs, Option.bind_some]
  cases h : isX l with
  | true =>
    rw [if_pos rfl]
    simp only [isX, Bool.and_eq_true] at h
    obtain ⟨r, e, hr⟩ := enc_l0 l [] [(l.length : Int)] (by simpa using hl) (by simp) (areX_body h.1)
    exact ⟨r, true, by simpa using e, hr⟩
  | false =>
    rw [if_neg (by simp)]
    exact ⟨_, _, rfl, by simp⟩
theorem bytes_ex (v : List Int) (l : List S113) (hv : v.length ≤ 1000) (hl : l.length ≤ 1000) (hs : okXs l) : ∃ r, spec_HelloBytes.fv v l = some r ∧ r.length ≤ 1000000 := by
  obtain ⟨x, ok, e, hx⟩ := enc_ex l hl hs
  rw [spec_HelloBytes.fv_eq, specHello_v v l (by omega) (by omega) hs, Option.bind_some, e]
  simp only [Option.bind_some]
  split
  · rw [if_pos (by simp; omega), if_pos (by simp; omega)]
    exact ⟨_, rfl, by simp; omega⟩
  · exact ⟨_, rfl, by simp⟩
theorem abytes_ex (v : Int) (l : List S113) (hl : l.length ≤ 1000) (hs : okXs l) : ∃ r, spec_AnswerBytes.fv v l = some r ∧ r.length ≤ 1000000 := by
  obtain ⟨x, ok, e, hx⟩ := enc_ex l hl hs
  rw [spec_AnswerBytes.fv_eq, specIsA_v v l (by omega) hs, Option.bind_some, e]
  simp only [Option.bind_some]
  split
  · rw [if_pos (by simp; omega)]
    exact ⟨_, rfl, by simp; omega⟩
  · exact ⟨_, rfl, by simp⟩
theorem once_j0 (k : Int) (b : Bool) (v v' : List Int) (l l' : List S113) (a : Int) (m : List S113) (hv : v.length ≤ 1000) (hv' : v'.length ≤ 1000) (hl : l.length ≤ 1000) (hs : okXs l) (hl' : l'.length ≤ 1000) (hs' : okXs l') (hm : m.length ≤ 1000) (hx : okXs m) :
    ∃ o q t, spec_DialOnce.j0v k b v l v' l' a m = some (o, q, t) ∧ t.length ≤ 1000 := by
  obtain ⟨b1, e1, h1⟩ := bytes_ex v l hv hl hs
  obtain ⟨b2, e2, h2⟩ := abytes_ex a m hm hx
  obtain ⟨b3, e3, h3⟩ := bytes_ex v' l' hv' hl' hs'
  obtain ⟨f1, e4⟩ := specFin_ex k [b1, b2] 1 (by simp) (fun x h => by simp at h; rcases h with rfl | rfl <;> omega)
  obtain ⟨f2, e5⟩ := specFin_ex k [b3, b2] 1 (by simp) (fun x h => by simp at h; rcases h with rfl | rfl <;> omega)
  have hno : ∃ o q t, some (false, (0 : Int), ([] : List Int)) = some (o, q, t) ∧ t.length ≤ 1000 := ⟨_, _, _, rfl, by simp⟩
  rw [spec_DialOnce.j0v_eq, e1, Option.bind_some, e2, Option.bind_some, e4, Option.bind_some, e3, Option.bind_some, Option.bind_some, e5, Option.bind_some, specTags_v m (by omega), Option.bind_some]
  split
  · exact hno
  · split
    · exact hno
    · split
      · exact ⟨_, _, _, rfl, by simpa using hm⟩
      · exact hno
theorem once_ex (v : List Int) (l : List S113) (p : List S89) (w t : List Int) (k : Int) (hp : FewB p) (hv : v.length ≤ 1000) (hl : FewX l) (hw : w.length ≤ 1000) (ht : t.length ≤ 1000) : ∃ o q u, spec_DialOnce.fv v l p w t k = some (o, q, u) ∧ u.length ≤ 1000 := by
  have hb := fewB_ok hp
  have hx := fewX_ok hl
  have hl1 := hl.1
  have hno : ∃ o q t, some (false, (0 : Int), ([] : List Int)) = some (o, q, t) ∧ t.length ≤ 1000 := ⟨_, _, _, rfl, by simp⟩
  obtain ⟨a1, a2, a3⟩ := passP_ok p v l hx.2
  rw [spec_DialOnce.fv_eq, specPassP_v p v l hb.1 hb.2 (by omega) hx.1 hx.2, Option.bind_some, specChoose_v w t _ _ (by omega) (by omega) (by omega) (by omega) a3, Option.bind_some]
  have c1 : (choose w t (passP p v l).1 (passP p v l).2.1).2.1.length ≤ 1000 := by
    have := answer_len t (passP p v l).2.1
    unfold choose
    split
    · show (answer t (passP p v l).2.1).length ≤ 1000
      omega
    · simp
  have c2 : okXs (choose w t (passP p v l).1 (passP p v l).2.1).2.1 := by
    unfold choose
    split
    · exact answer_ok t a3
    · exact fun x h => by cases h
  obtain ⟨f, ef⟩ := fits_ex v l (choose w t (passP p v l).1 (passP p v l).2.1).1 (choose w t (passP p v l).1 (passP p v l).2.1).2.1 (by omega) hx.1 hx.2 (by omega) c2
  rw [ef, Option.bind_some]
  have hj := fun b => once_j0 k b v (passP p v l).1 l (passP p v l).2.1 (choose w t (passP p v l).1 (passP p v l).2.1).1 (choose w t (passP p v l).1 (passP p v l).2.1).2.1 hv (by omega) hl1 hx.2 (by omega) a3 c1 c2
  split
  · split
    · exact hj _
    · exact hj _
  · exact hno
theorem dial_ex (v : List Int) (l : List S113) (p : List S89) (w t : List Int) (k : Int) (hp : FewB p) (hv : v.length ≤ 1000) (hl : FewX l) (hw : w.length ≤ 1000) (ht : t.length ≤ 1000) : ∃ o q u n g, spec_Dial.fv v l p w t k = some (o, q, u, n, g) ∧ u.length ≤ 1000 ∧ g.length ≤ 2000 := by
  obtain ⟨v', l', n, ok, e1, h1, h2⟩ := for_ex v l p hp hv hl
  obtain ⟨o, q, u, e2, h3⟩ := once_ex v' l' p w t k hp h1 h2 hw ht
  obtain ⟨g, e3, h4⟩ := given_ex v l v' l' hv hl h1 h2
  rw [spec_Dial.fv_eq, e1, Option.bind_some, e2, Option.bind_some, e3, Option.bind_some]
  split
  · exact ⟨_, _, _, _, _, rfl, h3, h4⟩
  · exact ⟨_, _, _, _, _, rfl, by simp, by simp⟩
end Go.Proofs.Ytlcpaebidnaolaa.Plain

/- The dials that the laws draw from bytes: each draw comes to an answer, and its rows are short. Condition: at most 10 to the 12 bytes; the place lies in the bytes. -/
set_option linter.unusedSimpArgs false
set_option linter.unusedVariables false
namespace Go.Proofs.Ytlcpaebidnaolaa.Plain
open Go.RowKit Go.Proofs.YtlcpaebidnaolaaW.PrintWords Go.Proofs.Ytlcpaebidnaolaa.Base Go.Proofs.Ytlcpaebidnaolaa.Print

/-- Dials with short rows. -/
def FewD (l : List S50) : Prop := ∀ x ∈ l, x.f0.f2.length ≤ 1000 ∧ x.f2.length ≤ 2000
theorem fewD_ok {l : List S50} (h : FewD l) : ∀ x ∈ l, okD x := fun x hx => by
  have := h x hx
  exact ⟨by omega, by omega⟩
theorem masked_l0 (m : Nat) : ∀ (xs : List S50) (l : List Int) (p r : Int), St l p → xs.length + m ≤ 900 → FewD xs → ∃ ys v, spec_DrawMaskedBy.l0v xs (m : Int) l p r = some (ys, v) ∧ FewD ys ∧ ys.length ≤ 900 := by
  induction m with
  | zero =>
    intro xs l p r h hx hy
    rw [spec_DrawMaskedBy.l0v_eq, if_neg (by omega)]
    obtain ⟨b, p1, r1, e1, h1, _, _⟩ := l1Below_ex l p r 6 h (by decide)
    rw [e1]
    exact ⟨_, _, rfl, hy, by omega⟩
  | succ m ih =>
    intro xs l p r h hx hy
    rw [spec_DrawMaskedBy.l0v_eq, if_pos (by omega)]
    obtain ⟨v, x, p1, r1, e1, h1, hv, hxx⟩ := l17Draw_ex l p r h
    rw [e1, Option.bind_some]
    obtain ⟨q, p2, r2, e2, h2, hq, _⟩ := l19Path_ex l p1 r1 h1
    rw [e2, Option.bind_some]
    obtain ⟨w, p3, r3, e3, h3, _, hw⟩ := l12Draw_ex l p2 r2 h2
    rw [e3, Option.bind_some]
    obtain ⟨o, a, u, n, g, e4, h4, h5⟩ := dial_ex v x q w [] 5 hq (by omega) hxx (by omega) (by simp)
    rw [e4, Option.bind_some, if_pos (by omega), w64 (by omega) (by omega), show ((m + 1 : Nat) : Int) - 1 = (m : Int) by omega]
    refine ih _ l p3 r3 h3 (by simp; omega) fun y hy' => ?_
    rcases List.mem_append.1 hy' with hy' | hy'
    · exact hy y hy'
    · rw [List.mem_singleton.1 hy']
      exact ⟨h4, h5⟩
theorem drawMasked_ex (l : List Int) (hl : l.length ≤ 1000000000000) : ∃ ys v, spec_DrawMaskedBy.fv l = some (ys, v) ∧ FewD ys ∧ ys.length ≤ 900 := by
  rw [spec_DrawMaskedBy.fv_eq]
  obtain ⟨r, en, hn⟩ := l1New_ex l hl
  obtain ⟨b, p1, r1, e1, h1, b0, b1⟩ := l1Below_ex l 0 r 5 hn (by decide)
  rw [en, Option.bind_some, e1, Option.bind_some]
  obtain ⟨n, rfl⟩ : ∃ n : Nat, b = (n : Int) := ⟨b.toNat, by omega⟩
  exact masked_l0 n [] l p1 r1 h1 (by simp; omega) (fun y hy => by cases hy)
end Go.Proofs.Ytlcpaebidnaolaa.Plain

/- FnSignals: whatever the bytes that the law draws from, nothing goes on unless enough went well, and hidden fallbacks count. No condition. -/
set_option linter.unusedSimpArgs false
set_option linter.unusedVariables false
namespace Go.Proofs.Ytlcpaebidnaolaa.Pure
open Go.RowKit Go.Proofs.YtlcpaebidnaolaaW.PrintWords Go.Proofs.Ytlcpaebidnaolaa.Base Go.Proofs.Ytlcpaebidnaolaa.Print Go.Proofs.Ytlcpaebidnaolaa.Plain

theorem has_l0 (x : Int) (suf : List Int) : ∀ (pre : List Int), (pre ++ suf).length ≤ 1000000000000 → laws_contains.l0v (pre ++ suf) x (pre.length : Int) = some (mem suf x) := by
  induction suf with
  | nil =>
    intro pre _
    rw [laws_contains.l0v_eq, if_neg (nlt_end pre)]
    simp [mem]
  | cons y suf ih =>
    intro pre hl
    have hn : pre.length < (pre ++ y :: suf).length := by simp
    rw [laws_contains.l0v_eq, if_pos (lt_mid pre suf y), if_pos (by omega), rd_mid, mem_cons]
    by_cases hxy : y = x
    · rw [if_pos hxy]
      simp [hxy]
    · rw [if_neg hxy, up_mid pre y hn hl]
      rw [mid_snoc pre suf y] at hl ⊢
      rw [ih (pre ++ [y]) hl]
      simp [hxy]
theorem has_v (l : List Int) (x : Int) (hl : l.length ≤ 1000000000000) : laws_contains.fv l x = some (mem l x) := by
  rw [laws_contains.fv_eq]
  simpa using has_l0 x l [] (by simpa using hl)
theorem hid_l0 (v x y : Int) (suf : List S50) : ∀ (pre : List S50) (h : Int), (pre ++ suf).length ≤ 1000000 → (∀ z ∈ suf, okD z) → 0 ≤ h → h ≤ pre.length →
    laws_FnSignals.l0v (pre ++ suf) v x y h (pre.length : Int) = some (if wrap64 (x + y) ≤ ((pre ++ suf).length : Int) then decide (y ≥ h + hid v suf) else false) := by
  induction suf with
  | nil =>
    intro pre h hl _ h0 h1
    rw [laws_FnSignals.l0v_eq, if_neg (nlt_end pre)]
    simp only [hid, Int.add_zero]
    split <;> rfl
  | cons d suf ih =>
    intro pre h hl hs h0 h1
    have hn : pre.length < (pre ++ d :: suf).length := by simp
    have hp : pre.length < 1000000 := by omega
    have hd := hs d List.mem_cons_self
    have i1 := ih (pre ++ [d]) h (by simpa using hl) (fun z hz => hs z (List.mem_cons_of_mem _ hz)) h0 (by simp; omega)
    have i2 := ih (pre ++ [d]) (h + 1) (by simpa using hl) (fun z hz => hs z (List.mem_cons_of_mem _ hz)) (by omega) (by simp; omega)
    rw [← mid_snoc pre suf d] at i1 i2
    rw [laws_FnSignals.l0v_eq, if_pos (lt_mid pre suf d), if_pos (by omega), rdDial_mid, has_v _ _ hd.2, Option.bind_some, up_mid pre d hn (by omega), w64 (x := h + 1) (by omega) (by omega), i1, i2]
    have e : hid v (d :: suf) = (if d.f0.f0 = true ∧ d.f0.f1 < v ∧ mem d.f2 v = true then 1 else 0) + hid v suf := rfl
    by_cases c1 : d.f0.f0 = true
    · by_cases c2 : d.f0.f1 < v
      · by_cases c3 : mem d.f2 v = true
        · rw [if_pos (⟨c1, c2, c3⟩ : d.f0.f0 = true ∧ d.f0.f1 < v ∧ mem d.f2 v = true)] at e
          rw [if_pos c1, if_pos c2, if_pos c3, show h + hid v (d :: suf) = h + 1 + hid v suf by omega]
        · rw [if_neg (show ¬ (d.f0.f0 = true ∧ d.f0.f1 < v ∧ mem d.f2 v = true) from fun h => c3 h.2.2)] at e
          rw [if_pos c1, if_pos c2, if_neg c3, show h + hid v (d :: suf) = h + hid v suf by omega]
      · rw [if_neg (show ¬ (d.f0.f0 = true ∧ d.f0.f1 < v ∧ mem d.f2 v = true) from fun h => c2 h.2.1)] at e
        rw [if_pos c1, if_neg c2, show h + hid v (d :: suf) = h + hid v suf by omega]
    · rw [if_neg (show ¬ (d.f0.f0 = true ∧ d.f0.f1 < v ∧ mem d.f2 v = true) from fun h => c1 h.1)] at e
      rw [if_neg c1, show h + hid v (d :: suf) = h + hid v suf by omega]
section
variable (l : List Int) (hl : l.length ≤ 1000000000000)
include hl
theorem s_j1 : laws_FnSignals.j1v l false = some true := by
  obtain ⟨ys, v, e, h1, h2⟩ := drawMasked_ex l hl
  have hk := fewD_ok h1
  have hm := masks_in v ys 0 0 (by decide) (by decide) (by omega)
  have h := hid_l0 v (masks v 0 0 ys).1 (masks v 0 0 ys).2 ys [] 0 (by simp; omega) hk (by decide) (by simp)
  simp only [List.nil_append, List.length_nil, Int.natCast_zero] at h
  rw [laws_FnSignals.j1v_eq, if_neg (by simp), e, Option.bind_some, implMasked_v ys v (by omega) hk, Option.bind_some, h, w64 (by omega) (by omega), if_pos (by omega), decide_eq_true (by omega)]
theorem drawS : ∃ a b c d, spec_DrawSignalOf.fv l = some (a, b, c, d) := by
  obtain ⟨r, en, hn⟩ := l1New_ex l hl
  obtain ⟨a, p1, r1, e1, h1, _⟩ := l1Int_ex l 0 r [0, 3, 5, 10, 20, 10000, 10001, (-1)] hn (by simp)
  obtain ⟨b, p2, r2, e2, h2, _⟩ := l1Int_ex l p1 r1 [0, 1, 2, 3, 10, 10000, 10001] h1 (by simp)
  obtain ⟨c, p3, r3, e3, h3, _⟩ := l1Int_ex l p2 r2 [1, 5, 10, 20, 0, 10001] h2 (by simp)
  obtain ⟨d, p4, r4, e4, h4, _⟩ := l1Int_ex l p3 r3 [0, 10, 20, 50, 100, 101, (-1)] h3 (by simp)
  refine ⟨a, b, c, d, ?_⟩
  rw [spec_DrawSignalOf.fv_eq, en, Option.bind_some, e1, Option.bind_some, e2, Option.bind_some, e3, Option.bind_some, e4, Option.bind_some]
theorem s_j0 : laws_FnSignals.j0v l false = some true := by
  obtain ⟨a, b, n, p, e⟩ := drawS l hl
  have h1 := s_j1 l hl
  rw [laws_FnSignals.j0v_eq, if_neg (by simp), spec_DrawMostBad.fv_eq, e, Option.bind_some, Option.bind_some]
  dsimp only
  rw [implMost_v, Option.bind_some]
  split
  · rename_i k1
    split
    · rename_i k2
      have hn : n ≤ 10000 ∨ most n p = 0 := by
        unfold most
        split
        · rename_i hc
          rw [Bool.and_eq_true, inR_true] at hc
          exact .inl hc.1.2
        · exact .inr rfl
      rw [w64 (x := n - most n p) (by omega) (by omega), implSig_v, Option.bind_some, sig_most n p _ k1 k2 (.inr rfl), if_pos rfl, implSig_v, Option.bind_some, sig_most n p _ k1 k2 (.inl rfl)]
      exact h1
    · exact h1
  · exact h1
end

theorem FnSignals : laws_FnSignals.Pure := by
  intro l _ _ _
  refine ends (g := fun k => laws_FnSignals.f k l) ?_
  show laws_FnSignals.fv l = some true
  rw [laws_FnSignals.fv_eq]
  unfold laws_big.f
  simp only [Option.bind_some, decide_eq_true_eq]
  split
  · rfl
  · have hl : l.length ≤ 1000000000000 := by omega
    obtain ⟨a, b, n, p, e⟩ := drawS l hl
    have h0 := s_j0 l hl
    have hc := sig_cases a b n p
    obtain ⟨nm, en, hne⟩ := name_ne (sigOf a b n p) (by omega)
    rw [e, Option.bind_some]
    dsimp only
    rw [implSig_v, Option.bind_some, en, Option.bind_some, if_neg hne]
    rcases hc with hc | ⟨hc, k1, k2⟩ | ⟨hc, k1⟩
    · rw [hc, if_neg (by decide), if_neg (by decide)]
      exact h0
    · rw [hc, if_pos rfl, if_neg k1, if_neg (by omega), if_neg (by decide)]
      exact h0
    · rw [hc, if_neg (by decide), if_pos rfl, decide_eq_false k1]
      exact h0
end Go.Proofs.Ytlcpaebidnaolaa.Pure
