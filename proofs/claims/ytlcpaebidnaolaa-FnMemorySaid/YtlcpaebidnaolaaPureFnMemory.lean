/- FnMemory: whatever the bytes that the law draws from, what is remembered is recalled for a while, and there are no more states than classes. No condition. -/
import Derived.Test.YtlcpaebidnaolaaLimsFnMemory
import Derived.Test.YtlcpaebidnaolaaPrint3
import Derived.Test.YtlcpaebidnaolaaPrint8
import Derived.Test.YtlcpaebidnaolaaPrint1
import Derived.Laws.Bits64b
/- Lists read by a whole number's index, and whole numbers that fit. No condition. -/
set_option linter.unusedSimpArgs false
set_option linter.unusedVariables false
namespace Go.Proofs.Ytlcpaebidnaolaa.Plain
open Go.RowKit Go.Proofs.YtlcpaebidnaolaaW.PrintWords

theorem w64 {x : Int} (h0 : -9223372036854775808 ≤ x) (h1 : x ≤ 9223372036854775807) : wrap64 x = x := by
  unfold wrap64
  omega
theorem rd_mid (pre suf : List Int) (x : Int) : rd (pre ++ x :: suf) (pre.length : Int) = x := by simp [rd]
theorem lt_mid {α : Type} (pre suf : List α) (x : α) : (pre.length : Int) < ((pre ++ x :: suf).length : Int) := by
  simp
  omega
theorem nlt_end {α : Type} (pre : List α) : ¬ (pre.length : Int) < ((pre ++ []).length : Int) := by simp
theorem up_mid {α : Type} (pre : List α) (x : α) {n : Nat} (h : pre.length < n) (hn : n ≤ 1000000000000) : wrap64 ((pre.length : Int) + 1) = ((pre ++ [x]).length : Int) := by
  rw [w64 (by omega) (by omega)]
  simp
theorem set_mid {α : Type} (pre suf : List α) (x y : α) : (pre ++ x :: suf).set (pre.length : Int).toNat y = (pre ++ [y]) ++ suf := by
  rw [Int.toNat_natCast, List.set_append_right _ _ (Nat.le_refl _), Nat.sub_self]
  simp
theorem mid_snoc {α : Type} (pre suf : List α) (x : α) : pre ++ x :: suf = (pre ++ [x]) ++ suf := by simp
theorem beq_ints (a b : List Int) : (a == b) = decide (a = b) := by
  by_cases h : a = b <;> simp [h]
end Go.Proofs.Ytlcpaebidnaolaa.Plain

/- Ranges, of the program and of the reference. No condition. -/
set_option linter.unusedSimpArgs false
set_option linter.unusedVariables false
namespace Go.Proofs.Ytlcpaebidnaolaa.Plain
open Go.RowKit Go.Proofs.YtlcpaebidnaolaaW.PrintWords Go.Proofs.Ytlcpaebidnaolaa.Base Go.Proofs.Ytlcpaebidnaolaa.Print

/-- lo ≤ n ≤ hi -/
def inR (lo hi n : Int) : Bool := decide (lo ≤ n) && decide (n ≤ hi)
theorem inR_true {lo hi n : Int} : inR lo hi n = true ↔ lo ≤ n ∧ n ≤ hi := by simp [inR]
theorem inR_false {lo hi n : Int} : inR lo hi n = false ↔ n < lo ∨ hi < n := by
  simp only [inR, Bool.and_eq_false_iff, decide_eq_false_iff_not]
  omega
theorem inRange_f (n lo hi : Int) : impl_InRange.f n lo hi = some (inR lo hi n) := by
  unfold impl_InRange.f inR
  by_cases h : lo ≤ n <;> simp [h]
theorem l1In_f (n lo hi : Int) : spec_l1In.f n lo hi = some (inR lo hi n) := by
  unfold spec_l1In.f inR
  by_cases h : lo ≤ n <;> simp [h]
end Go.Proofs.Ytlcpaebidnaolaa.Plain

/- Memory: what is young enough, what is recalled, what is remembered. Plain lists. No condition. -/
set_option linter.unusedSimpArgs false
set_option linter.unusedVariables false
namespace Go.Proofs.Ytlcpaebidnaolaa.Plain
open Go.RowKit Go.Proofs.YtlcpaebidnaolaaW.PrintWords Go.Proofs.Ytlcpaebidnaolaa.Base Go.Proofs.Ytlcpaebidnaolaa.Print

/-- What is young enough. -/
def forget (l : List S61) (t : Int) : List S61 := if inR 0 100000 t = true then l.filter (fun x => inR (t - 20) t x.f2) else []
def firstOf (c : Int) : List S61 → List Int
  | [] => []
  | x :: l => if x.f0 = c then x.f1 else firstOf c l
def recall (l : List S61) (c t : Int) : List Int := firstOf c (forget l t)
def goodK (c t : Int) : Bool := inR 0 5 c && decide (0 ≤ t)
def remember (l : List S61) (c : Int) (lost : List Int) (t : Int) : List S61 := if goodK c t = true then l.filter (fun x => decide (x.f0 ≠ c)) ++ [⟨c, lost, t⟩] else l
theorem forget_forget (l : List S61) (t : Int) : forget (forget l t) t = forget l t := by
  unfold forget
  by_cases h : inR 0 100000 t = true
  · simp [h]
  · simp [h]
theorem recall_forget (l : List S61) (c t : Int) : recall (forget l t) c t = recall l c t := by
  unfold recall
  rw [forget_forget]
theorem forget_len (l : List S61) (t : Int) : (forget l t).length ≤ l.length := by
  unfold forget
  split
  · exact List.length_filter_le _ _
  · simp
theorem firstOf_append (c : Int) (a b : List S61) (h : ∀ x ∈ a, x.f0 ≠ c) : firstOf c (a ++ b) = firstOf c b := by
  induction a with
  | nil => rfl
  | cons x a ih =>
    simp only [List.cons_append, firstOf]
    rw [if_neg (h x List.mem_cons_self)]
    exact ih (fun y hy => h y (List.mem_cons_of_mem _ hy))
theorem recall_remember (l : List S61) (c : Int) (lost : List Int) (t s : Int) (h : goodK c t = true) : recall (remember l c lost t) c s = if (inR 0 100000 s && inR (s - 20) s t) = true then lost else [] := by
  unfold recall remember forget
  rw [if_pos h]
  by_cases hs : inR 0 100000 s = true
  · rw [if_pos hs, List.filter_append, firstOf_append]
    · by_cases h2 : inR (s - 20) s t = true
      · simp [firstOf, hs, h2]
      · simp [firstOf, hs, h2]
    · intro x hx
      simp only [List.mem_filter, decide_eq_true_eq] at hx
      exact hx.1.2
  · simp [hs, firstOf]
theorem remember_len (l : List S61) (c : Int) (lost : List Int) (t : Int) : (remember l c lost t).length ≤ l.length + 1 := by
  unfold remember
  split
  · have := List.length_filter_le (fun x : S61 => decide (x.f0 ≠ c)) l
    simp only [List.length_append, List.length_cons, List.length_nil]
    omega
  · omega
end Go.Proofs.Ytlcpaebidnaolaa.Plain

/- The numbers that the laws draw from bytes: each draw comes to an answer, in its range, and leaves a place in the bytes. Condition: at most 2 to the 40 bytes; the place lies in the bytes. -/

set_option linter.unusedSimpArgs false
set_option linter.unusedVariables false
namespace Go.Proofs.Ytlcpaebidnaolaa.Plain
open Go.RowKit Go.Proofs.YtlcpaebidnaolaaW.PrintWords Go.Proofs.Ytlcpaebidnaolaa.Base Go.Proofs.Ytlcpaebidnaolaa.Print

/-- A place in the bytes. -/
def St (l : List Int) (p : Int) : Prop := 0 ≤ p ∧ p ≤ l.length ∧ l.length ≤ 1000000000000
theorem and255 (x : Int) : 0 ≤ Go.bits .and .i64 x 255 ∧ Go.bits .and .i64 x 255 ≤ 255 := by
  have hle : (BitVec.ofInt 64 x &&& BitVec.ofInt 64 255).toNat ≤ 255 := by
    rw [BitVec.toNat_and]
    exact Nat.and_le_right
  have h : Go.bits .and .i64 x 255 = wrap64 ((BitVec.ofInt 64 x &&& BitVec.ofInt 64 255).toNat : Int) := by
    unfold wrap64
    exact Go.IntKind.wrap_i64 _
  rw [h, w64 (by omega) (by omega)]
  omega
theorem l1Byte_ex (l : List Int) (p r : Int) (h : St l p) : ∃ b p' r', spec_l1Byte.f l p r = some (b, p', r') ∧ St l p' ∧ 0 ≤ b ∧ b ≤ 255 := by
  obtain ⟨h0, h1, h2⟩ := h
  unfold spec_l1Byte.f
  by_cases hp : p < (l.length : Int)
  · rw [if_pos hp, if_pos h0]
    refine ⟨_, _, _, rfl, ⟨?_, ?_, h2⟩, (and255 _).1, (and255 _).2⟩
    · rw [w64 (by omega) (by omega)]
      omega
    · rw [w64 (by omega) (by omega)]
      omega
  · rw [if_neg hp]
    exact ⟨_, _, _, rfl, ⟨h0, h1, h2⟩, (and255 _).1, (and255 _).2⟩
theorem tmod_in (x n : Int) (hx : 0 ≤ x) (hn : 0 < n) : 0 ≤ Int.tmod x n ∧ Int.tmod x n < n := ⟨Int.tmod_nonneg _ hx, Int.tmod_lt_of_pos _ hn⟩
theorem l1Below_ex (l : List Int) (p r n : Int) (h : St l p) (hn : 0 < n) : ∃ b p' r', spec_l1Below.f l p r n = some (b, p', r') ∧ St l p' ∧ 0 ≤ b ∧ b < n := by
  unfold spec_l1Below.f
  rw [if_neg (by omega)]
  obtain ⟨b, p', r', e, h', b0, b1⟩ := l1Byte_ex l p r h
  rw [e]
  by_cases h256 : n ≤ 256
  · rw [if_pos h256]
    simp only [Option.bind_some]
    rw [if_neg (by omega)]
    exact ⟨_, _, _, rfl, h', tmod_in _ _ b0 hn⟩
  · rw [if_neg h256]
    simp only [Option.bind_some]
    obtain ⟨c, p2, r2, e2, h2, c0, c1⟩ := l1Byte_ex l p' r' h'
    rw [e2]
    simp only [Option.bind_some]
    obtain ⟨d, p3, r3, e3, h3, d0, d1⟩ := l1Byte_ex l p2 r2 h2
    rw [e3]
    simp only [Option.bind_some]
    rw [if_neg (by omega)]
    refine ⟨_, _, _, rfl, h3, tmod_in _ _ ?_ hn⟩
    rw [w64 (x := b * 65536) (by omega) (by omega), w64 (x := c * 256) (by omega) (by omega), w64 (x := b * 65536 + c * 256) (by omega) (by omega), w64 (by omega) (by omega)]
    omega
theorem l1Int_ex (l : List Int) (p r : Int) (xs : List Int) (h : St l p) (hx : xs ≠ []) : ∃ b p' r', spec_l1Int.f l p r xs = some (b, p', r') ∧ St l p' ∧ b ∈ xs := by
  unfold spec_l1Int.f
  have hl : 0 < xs.length := List.length_pos_iff.mpr hx
  obtain ⟨b, p', r', e, h', b0, b1⟩ := l1Below_ex l p r (xs.length : Int) h (by omega)
  rw [e]
  simp only [Option.bind_some]
  rw [if_pos b0, if_pos b1]
  refine ⟨_, _, _, rfl, h', ?_⟩
  have hb : b.toNat < xs.length := by omega
  have e1 : rd xs b = xs[b.toNat] := by simp [rd, hb]
  rw [e1]
  exact List.getElem_mem hb
theorem l1New_l0 (suf : List Int) : ∀ (pre : List Int) (s : Int), (pre ++ suf).length ≤ 1000000000000 → ∃ r, spec_l1New.l0v (pre ++ suf) s (pre.length : Int) = some (pre ++ suf, 0, r) := by
  induction suf with
  | nil =>
    intro pre s _
    rw [spec_l1New.l0v_eq, if_neg (nlt_end pre)]
    exact ⟨_, rfl⟩
  | cons x suf ih =>
    intro pre s hl
    have hn : pre.length < (pre ++ x :: suf).length := by simp
    rw [spec_l1New.l0v_eq, if_pos (lt_mid pre suf x)]
    by_cases h4 : (pre.length : Int) < 4000
    · rw [if_pos h4, if_pos (by omega), up_mid pre x hn hl]
      rw [mid_snoc pre suf x] at hl ⊢
      exact ih (pre ++ [x]) _ hl
    · rw [if_neg h4]
      exact ⟨_, rfl⟩
theorem l1New_ex (l : List Int) (hl : l.length ≤ 1000000000000) : ∃ r, spec_l1New.fv l = some (l, 0, r) ∧ St l 0 := by
  rw [spec_l1New.fv_eq]
  obtain ⟨r, h⟩ := l1New_l0 l [] (wrap64 (193017 + (l.length : Int))) (by simpa using hl)
  exact ⟨r, h, by omega, by omega, hl⟩
end Go.Proofs.Ytlcpaebidnaolaa.Plain

/- The lists of versions that the laws draw from bytes: each draw comes to an answer, and the lists are short. Condition: at most 2 to the 40 bytes; the place lies in the bytes. -/

set_option linter.unusedSimpArgs false
set_option linter.unusedVariables false
namespace Go.Proofs.Ytlcpaebidnaolaa.Plain
open Go.RowKit Go.Proofs.YtlcpaebidnaolaaW.PrintWords Go.Proofs.Ytlcpaebidnaolaa.Base Go.Proofs.Ytlcpaebidnaolaa.Print

theorem put_l0 (x : Int) (l : List Int) (hl : l.length ≤ 1000) (m : Nat) : ∀ i : Nat, i + m = l.length → ∃ r, spec_l4Put.l0v l x (i : Int) = some r ∧ l.length ≤ r.length ∧ r.length ≤ l.length + 1 := by
  induction m with
  | zero =>
    intro i hi
    rw [spec_l4Put.l0v_eq, if_neg (by omega)]
    simp only [Option.bind_some, List.nil_append, List.length_nil, Nat.zero_add, List.length_append, List.length_take, List.length_drop, List.length_cons, Int.toNat_natCast]
    rw [if_pos (by omega), if_pos (by omega), if_pos (by omega), if_pos (by omega), if_pos (by omega)]
    refine ⟨_, rfl, ?_, ?_⟩ <;> simp only [List.length_append, List.length_take, List.length_drop, List.length_cons, List.length_nil] <;> omega
  | succ m ih =>
    intro i hi
    rw [spec_l4Put.l0v_eq, if_pos (by omega), if_pos (by omega)]
    by_cases h1 : rd l (i : Int) < x
    · rw [if_pos h1, w64 (by omega) (by omega)]
      exact ih (i + 1) (by omega)
    · rw [if_neg h1]
      by_cases h2 : rd l (i : Int) = x
      · rw [if_pos h2]
        simp only [Option.bind_some, List.nil_append, List.length_nil, Nat.zero_add]
        rw [if_pos (by omega)]
        exact ⟨_, rfl, by omega, by omega⟩
      · rw [if_neg h2]
        simp only [Option.bind_some, List.nil_append, List.length_nil, Nat.zero_add, List.length_append, List.length_take, List.length_drop, List.length_cons, Int.toNat_natCast]
        rw [if_pos (by omega), if_pos (by omega), if_pos (by omega), if_pos (by omega)]
        refine ⟨_, rfl, ?_, ?_⟩ <;> simp only [List.length_append, List.length_take, List.length_drop, List.length_cons, List.length_nil] <;> omega
theorem put_ex (x : Int) (l : List Int) (hl : l.length ≤ 1000) : ∃ r, spec_l4Put.fv l x = some r ∧ l.length ≤ r.length ∧ r.length ≤ l.length + 1 := by
  rw [spec_l4Put.fv_eq]
  exact put_l0 x l hl l.length 0 (by omega)
theorem l12Draw_l0 (m : Nat) : ∀ (xs l : List Int) (p r : Int), St l p → xs.length + m ≤ 900 → 1 ≤ xs.length → ∃ ys p' r', spec_l12Draw.l0v xs (m : Int) l p r = some (ys, p', r') ∧ St l p' ∧ 1 ≤ ys.length ∧ ys.length ≤ xs.length + m := by
  induction m with
  | zero =>
    intro xs l p r h hx h1
    rw [spec_l12Draw.l0v_eq, if_neg (by omega)]
    exact ⟨_, _, _, rfl, h, h1, by omega⟩
  | succ m ih =>
    intro xs l p r h hx h1
    rw [spec_l12Draw.l0v_eq, if_pos (by omega)]
    obtain ⟨b, p', r', e, h', b0, b1⟩ := l1Below_ex l p r 6 h (by decide)
    rw [e]
    simp only [Option.bind_some]
    obtain ⟨zs, ez, z1, z2⟩ := put_ex (wrap64 (1 + b)) xs (by omega)
    rw [ez]
    simp only [Option.bind_some]
    rw [w64 (by omega) (by omega), show ((m + 1 : Nat) : Int) - 1 = (m : Int) by omega]
    obtain ⟨ys, p2, r2, e2, h2, y1, y2⟩ := ih zs l p' r' h' (by omega) (by omega)
    exact ⟨ys, p2, r2, e2, h2, y1, by omega⟩
theorem l12Draw_ex (l : List Int) (p r : Int) (h : St l p) : ∃ ys p' r', spec_l12Draw.fv l p r = some (ys, p', r') ∧ St l p' ∧ 1 ≤ ys.length ∧ ys.length ≤ 4 := by
  rw [spec_l12Draw.fv_eq]
  obtain ⟨b, p1, r1, e1, h1, b0, b1⟩ := l1Below_ex l p r 4 h (by decide)
  rw [e1]
  simp only [Option.bind_some]
  obtain ⟨c, p2, r2, e2, h2, c0, c1⟩ := l1Below_ex l p1 r1 4 h1 (by decide)
  rw [e2]
  simp only [Option.bind_some]
  obtain ⟨n, rfl⟩ : ∃ n : Nat, c = (n : Int) := ⟨c.toNat, by omega⟩
  obtain ⟨ys, p3, r3, e3, h3, y1, y2⟩ := l12Draw_l0 n [wrap64 (1 + b)] l p2 r2 h2 (by simp; omega) (by simp)
  exact ⟨ys, p3, r3, e3, h3, y1, by simp only [List.length_cons, List.length_nil] at y2; omega⟩
end Go.Proofs.Ytlcpaebidnaolaa.Plain

/- The lists of tags that the laws draw from bytes: each draw comes to an answer, and the lists are short. Condition: at most 10 to the 12 bytes; the place lies in the bytes. -/
set_option linter.unusedSimpArgs false
set_option linter.unusedVariables false
namespace Go.Proofs.Ytlcpaebidnaolaa.Plain
open Go.RowKit Go.Proofs.YtlcpaebidnaolaaW.PrintWords Go.Proofs.Ytlcpaebidnaolaa.Base Go.Proofs.Ytlcpaebidnaolaa.Print

theorem l17Tags_l0 (m : Nat) : ∀ (xs l : List Int) (p r : Int), St l p → xs.length + m ≤ 900 → ∃ ys p' r', spec_l17Tags.l0v xs (m : Int) l p r = some (ys, p', r') ∧ St l p' ∧ ys.length ≤ xs.length + m := by
  induction m with
  | zero =>
    intro xs l p r h hx
    rw [spec_l17Tags.l0v_eq, if_neg (by omega)]
    exact ⟨_, _, _, rfl, h, by omega⟩
  | succ m ih =>
    intro xs l p r h hx
    rw [spec_l17Tags.l0v_eq, if_pos (by omega)]
    obtain ⟨b, p', r', e, h', _⟩ := l1Int_ex l p r [1, 2, 3, 10, 40, 200] h (by simp)
    rw [e]
    simp only [Option.bind_some]
    obtain ⟨zs, ez, z1, z2⟩ := put_ex b xs (by omega)
    rw [ez]
    simp only [Option.bind_some]
    rw [w64 (by omega) (by omega), show ((m + 1 : Nat) : Int) - 1 = (m : Int) by omega]
    obtain ⟨ys, p2, r2, e2, h2, y2⟩ := ih zs l p' r' h' (by omega)
    exact ⟨ys, p2, r2, e2, h2, by omega⟩
theorem l17Tags_ex (l : List Int) (p r : Int) (h : St l p) : ∃ ys p' r', spec_l17Tags.fv l p r = some (ys, p', r') ∧ St l p' ∧ ys.length ≤ 5 := by
  rw [spec_l17Tags.fv_eq]
  obtain ⟨b, p1, r1, e1, h1, b0, b1⟩ := l1Below_ex l p r 5 h (by decide)
  rw [e1]
  simp only [Option.bind_some]
  obtain ⟨n, rfl⟩ : ∃ n : Nat, b = (n : Int) := ⟨b.toNat, by omega⟩
  obtain ⟨ys, p3, r3, e3, h3, y2⟩ := l17Tags_l0 n [] l p1 r1 h1 (by simp; omega)
  exact ⟨ys, p3, r3, e3, h3, by simp only [List.length_nil] at y2; omega⟩
end Go.Proofs.Ytlcpaebidnaolaa.Plain

/- Lists of versions: ascending, from 1 to 9; membership; what two lists share. No program. No condition. -/
set_option linter.unusedSimpArgs false
set_option linter.unusedVariables false
namespace Go.Proofs.Ytlcpaebidnaolaa.Plain
open Go.RowKit Go.Proofs.YtlcpaebidnaolaaW.PrintWords Go.Proofs.Ytlcpaebidnaolaa.Base Go.Proofs.Ytlcpaebidnaolaa.Print

/-- Versions that grow, all above p. -/
def vers : Int → List Int → Bool
  | _, [] => true
  | p, x :: l => inR 1 9 x && (decide (p < x) && vers x l)
/-- A list of versions, and not empty. -/
def areV (l : List Int) : Bool := vers 0 l && decide (0 < l.length)
/-- Is x in the list? -/
def mem (l : List Int) (x : Int) : Bool := decide (x ∈ l)
/-- What two lists share. -/
def com (a b : List Int) : List Int := a.filter (mem b)
/-- The best version that two lists share. -/
def best (a b : List Int) : Int := if areV a && areV b then (com a b).getLastD 0 else 0
theorem mem_cons (x y : Int) (l : List Int) : mem (y :: l) x = (decide (y = x) || mem l x) := by
  by_cases h : y = x
  · simp [mem, h]
  · have h' : ¬ x = y := fun e => h e.symm
    simp [mem, h, h']
theorem mem_nil (x : Int) : mem [] x = false := by simp [mem]
theorem vers_le {p q : Int} {l : List Int} (h : vers p l = true) (hq : q ≤ p) : vers q l = true := by
  cases l with
  | nil => rfl
  | cons x l =>
    simp only [vers, Bool.and_eq_true, decide_eq_true_eq] at h ⊢
    exact ⟨h.1, by omega, h.2.2⟩
theorem vers_filter (f : Int → Bool) {l : List Int} : ∀ {p : Int}, vers p l = true → vers p (l.filter f) = true := by
  induction l with
  | nil =>
    intro p h
    rfl
  | cons x l ih =>
    intro p h
    simp only [vers, Bool.and_eq_true, decide_eq_true_eq] at h
    cases hf : f x with
    | true =>
      rw [List.filter_cons_of_pos hf]
      simp only [vers, Bool.and_eq_true, decide_eq_true_eq]
      exact ⟨h.1, h.2.1, ih h.2.2⟩
    | false =>
      rw [List.filter_cons_of_neg (by simp [hf])]
      exact vers_le (ih h.2.2) (by omega)
theorem vers_len {l : List Int} : ∀ {p : Int}, vers p l = true → p ≤ 9 → (l.length : Int) ≤ 9 - p := by
  induction l with
  | nil =>
    intro p _ hp
    simp
    omega
  | cons x l ih =>
    intro p h hp
    simp only [vers, Bool.and_eq_true, decide_eq_true_eq, inR_true] at h
    have := ih h.2.2 (by omega)
    simp only [List.length_cons]
    omega
theorem areV_len {l : List Int} (h : areV l = true) : l.length ≤ 9 := by
  simp only [areV, Bool.and_eq_true] at h
  have := vers_len h.1 (by omega)
  omega
theorem vers_mem {l : List Int} : ∀ {p : Int}, vers p l = true → ∀ x ∈ l, 1 ≤ x ∧ x ≤ 9 ∧ p < x := by
  induction l with
  | nil =>
    intro p _ x hx
    cases hx
  | cons y l ih =>
    intro p h x hx
    simp only [vers, Bool.and_eq_true, decide_eq_true_eq, inR_true] at h
    cases hx with
    | head => omega
    | tail _ hx =>
      have := ih h.2.2 x hx
      omega
theorem areV_mem {l : List Int} (h : areV l = true) : ∀ x ∈ l, 1 ≤ x ∧ x ≤ 9 := by
  simp only [areV, Bool.and_eq_true] at h
  intro x hx
  have := vers_mem h.1 x hx
  omega
theorem com_len (a b : List Int) : (com a b).length ≤ a.length := List.length_filter_le _ _
theorem lastD_cons (x : Int) (l : List Int) (d : Int) : (x :: l).getLastD d = l.getLastD x := by
  cases l <;> rfl
theorem rd_lastD (pre suf : List Int) (h : pre ≠ []) : rd (pre ++ suf) ((pre.length : Int) - 1) = pre.getLastD 0 := by
  have hl : 0 < pre.length := List.length_pos_iff.mpr h
  have e : ((pre.length : Int) - 1).toNat = pre.length - 1 := by omega
  have h1 : pre.length - 1 < pre.length := by omega
  simp [rd, e, List.getD_eq_getElem?_getD, List.getElem?_append_left h1, List.getLastD_eq_getLast?, List.getLast?_eq_getElem?]
theorem lastD_mem (l : List Int) (h : l ≠ []) (d : Int) : l.getLastD d ∈ l := by
  cases l with
  | nil => exact absurd rfl h
  | cons x l => exact List.getLast_mem _
end Go.Proofs.Ytlcpaebidnaolaa.Plain

/- Extensions and hellos in form. No program. No condition. -/
set_option linter.unusedSimpArgs false
set_option linter.unusedVariables false
namespace Go.Proofs.Ytlcpaebidnaolaa.Plain
open Go.RowKit Go.Proofs.YtlcpaebidnaolaaW.PrintWords Go.Proofs.Ytlcpaebidnaolaa.Base Go.Proofs.Ytlcpaebidnaolaa.Print

theorem rdExt_mid (pre suf : List S113) (x : S113) : rd_T113 (pre ++ x :: suf) (pre.length : Int) = x := by simp [rd_T113]
def hasT (l : List S113) (t : Int) : Bool := l.any (fun y => decide (y.f0 = t))
/-- Are these extensions in form, behind others? -/
def areX : List S113 → List S113 → Bool
  | _, [] => true
  | pre, x :: l => inR 0 255 x.f0 && (!hasT pre x.f0 && (decide (x.f1.length ≤ 4) && (x.f1.all (inR 0 255) && areX (pre ++ [x]) l)))
def isX (l : List S113) : Bool := areX [] l && decide (l.length ≤ 6)
def isH (v : List Int) (l : List S113) : Bool := areV v && isX l
/-- Its bodies are not too long. -/
def okXs (l : List S113) : Prop := ∀ x ∈ l, x.f1.length ≤ 1000000000000
theorem areX_body {l : List S113} : ∀ {pre}, areX pre l = true → ∀ x ∈ l, x.f1.length ≤ 4 := by
  induction l with
  | nil =>
    intro pre _ x hx
    cases hx
  | cons y l ih =>
    intro pre h x hx
    simp only [areX, Bool.and_eq_true, decide_eq_true_eq] at h
    cases hx with
    | head => exact h.2.2.1
    | tail _ hx => exact ih h.2.2.2.2 x hx
end Go.Proofs.Ytlcpaebidnaolaa.Plain

/- The hellos that the laws draw from bytes: each draw comes to an answer, and its rows are short. Condition: at most 10 to the 12 bytes; the place lies in the bytes. -/
set_option linter.unusedSimpArgs false
set_option linter.unusedVariables false
namespace Go.Proofs.Ytlcpaebidnaolaa.Plain
open Go.RowKit Go.Proofs.YtlcpaebidnaolaaW.PrintWords Go.Proofs.Ytlcpaebidnaolaa.Base Go.Proofs.Ytlcpaebidnaolaa.Print

theorem extOf_l0 (t : Int) (suf : List S113) : ∀ (pre : List S113), (pre ++ suf).length ≤ 1000000000000 → ∃ r, spec_ExtOf.l0v (pre ++ suf) t (pre.length : Int) = some r := by
  induction suf with
  | nil =>
    intro pre _
    rw [spec_ExtOf.l0v_eq, if_neg (nlt_end pre)]
    exact ⟨_, rfl⟩
  | cons y suf ih =>
    intro pre hl
    have hn : pre.length < (pre ++ y :: suf).length := by simp
    rw [spec_ExtOf.l0v_eq, if_pos (lt_mid pre suf y), if_pos (by omega), rdExt_mid]
    by_cases hy : y.f0 = t
    · rw [if_pos hy]
      exact ⟨_, rfl⟩
    · rw [if_neg hy, up_mid pre y hn hl]
      rw [mid_snoc pre suf y] at hl ⊢
      exact ih (pre ++ [y]) hl
theorem extOf_ex (l : List S113) (t : Int) (hl : l.length ≤ 1000000000000) : ∃ r, spec_ExtOf.fv l t = some r := by
  rw [spec_ExtOf.fv_eq]
  simpa using extOf_l0 t l [] (by simpa using hl)
/-- Few extensions with short bodies. -/
def FewX (l : List S113) : Prop := l.length ≤ 1000 ∧ ∀ x ∈ l, x.f1.length ≤ 1000
theorem fewX_ok {l : List S113} (h : FewX l) : l.length ≤ 1000000000000 ∧ okXs l := ⟨by have := h.1; omega, fun x hx => by
  have := h.2 x hx
  omega⟩
theorem fewX_snoc {l : List S113} {x : S113} (h : ∀ y ∈ l, y.f1.length ≤ 1000) (h1 : x.f1.length ≤ 1000) : ∀ y ∈ l ++ [x], y.f1.length ≤ 1000 := by
  intro y hy
  rcases List.mem_append.1 hy with hy | hy
  · exact h y hy
  · rw [List.mem_singleton.1 hy]
    exact h1
/-- What the outer loop does from n rounds before its end. -/
def L9 (n : Nat) : Prop := ∀ (xs : List S113) (l : List Int) (p r : Int), St l p → xs.length + n ≤ 900 → (∀ y ∈ xs, y.f1.length ≤ 1000) → ∃ ys p' r', spec_l9Draw.l0v xs (n : Int) l p r = some (ys, p', r') ∧ St l p' ∧ (∀ y ∈ ys, y.f1.length ≤ 1000) ∧ ys.length ≤ xs.length + n
theorem l9Draw_l1 (n : Nat) (hn : n + 1 ≤ 900) (ih : L9 n) (m : Nat) : ∀ (xs : List S113) (l : List Int) (p r t : Int) (b : List Int), St l p → xs.length + (n + 1) ≤ 900 → (∀ y ∈ xs, y.f1.length ≤ 1000) → b.length + m ≤ 900 →
    ∃ ys p' r', spec_l9Draw.l1v xs ((n + 1 : Nat) : Int) (m : Int) l p r t b = some (ys, p', r') ∧ St l p' ∧ (∀ y ∈ ys, y.f1.length ≤ 1000) ∧ ys.length ≤ xs.length + (n + 1) := by
  induction m with
  | zero =>
    intro xs l p r t b h hx hy hb
    rw [spec_l9Draw.l1v_eq, if_neg (by omega)]
    obtain ⟨q, eq⟩ := extOf_ex xs t (by omega)
    rw [eq, Option.bind_some, w64 (by omega) (by omega), show ((n + 1 : Nat) : Int) - 1 = (n : Int) by omega]
    by_cases hq : q < 0
    · rw [if_pos hq, if_pos (by omega)]
      obtain ⟨ys, p', r', e, h', y1, y2⟩ := ih (xs ++ [⟨t, b⟩]) l p r h (by simp; omega) (fewX_snoc hy (by show b.length ≤ 1000; omega))
      exact ⟨ys, p', r', e, h', y1, by simp only [List.length_append, List.length_cons, List.length_nil] at y2; omega⟩
    · rw [if_neg hq]
      obtain ⟨ys, p', r', e, h', y1, y2⟩ := ih xs l p r h (by omega) hy
      exact ⟨ys, p', r', e, h', y1, by omega⟩
  | succ m ihm =>
    intro xs l p r t b h hx hy hb
    rw [spec_l9Draw.l1v_eq, if_pos (by omega)]
    obtain ⟨c, p1, r1, e1, h1, _, _⟩ := l1Below_ex l p r 256 h (by decide)
    rw [e1, Option.bind_some, if_pos (by omega), w64 (by omega) (by omega), show ((m + 1 : Nat) : Int) - 1 = (m : Int) by omega]
    exact ihm xs l p1 r1 t (b ++ [c]) h1 hx hy (by simp; omega)
theorem l9Draw_l0 (n : Nat) : L9 n := by
  induction n with
  | zero =>
    intro xs l p r h hx hy
    rw [spec_l9Draw.l0v_eq, if_neg (by omega)]
    exact ⟨_, _, _, rfl, h, hy, by omega⟩
  | succ n ih =>
    intro xs l p r h hx hy
    rw [spec_l9Draw.l0v_eq, if_pos (by omega)]
    obtain ⟨b, p1, r1, e1, h1, _⟩ := l1Int_ex l p r [1, 2, 3, 10, 26, 40, 42, 200] h (by simp)
    rw [e1, Option.bind_some]
    obtain ⟨c, p2, r2, e2, h2, c0, c1⟩ := l1Below_ex l p1 r1 4 h1 (by decide)
    rw [e2, Option.bind_some]
    obtain ⟨m, rfl⟩ : ∃ m : Nat, c = (m : Int) := ⟨c.toNat, by omega⟩
    exact l9Draw_l1 n (by omega) ih m xs l p2 r2 b [] h2 (by omega) hy (by simp; omega)
theorem l9Draw_ex (l : List Int) (p r : Int) (h : St l p) : ∃ ys p' r', spec_l9Draw.fv l p r = some (ys, p', r') ∧ St l p' ∧ FewX ys := by
  rw [spec_l9Draw.fv_eq]
  obtain ⟨b, p1, r1, e1, h1, b0, b1⟩ := l1Below_ex l p r 6 h (by decide)
  rw [e1, Option.bind_some]
  obtain ⟨n, rfl⟩ : ∃ n : Nat, b = (n : Int) := ⟨b.toNat, by omega⟩
  obtain ⟨ys, p2, r2, e2, h2, y1, y2⟩ := l9Draw_l0 n [] l p1 r1 h1 (by simp; omega) (fun y hy => by cases hy)
  simp only [List.length_nil] at y2
  exact ⟨ys, p2, r2, e2, h2, by omega, y1⟩
theorem l17Draw_ex (l : List Int) (p r : Int) (h : St l p) : ∃ v x p' r', spec_l17Draw.fv l p r = some (v, x, p', r') ∧ St l p' ∧ v.length ≤ 4 ∧ FewX x := by
  rw [spec_l17Draw.fv_eq]
  obtain ⟨v, p1, r1, e1, h1, _, v1⟩ := l12Draw_ex l p r h
  rw [e1, Option.bind_some]
  obtain ⟨x, p2, r2, e2, h2, hx⟩ := l9Draw_ex l p1 r1 h1
  rw [e2]
  exact ⟨v, x, p2, r2, rfl, h2, v1, hx⟩
end Go.Proofs.Ytlcpaebidnaolaa.Plain

/- AreVersions, of the reference. Condition: at most 10 to the 12 numbers. -/
set_option linter.unusedSimpArgs false
set_option linter.unusedVariables false
namespace Go.Proofs.Ytlcpaebidnaolaa.Plain
open Go.RowKit Go.Proofs.YtlcpaebidnaolaaW.PrintWords Go.Proofs.Ytlcpaebidnaolaa.Base Go.Proofs.Ytlcpaebidnaolaa.Print

theorem specVers_l0 (suf : List Int) : ∀ pre : List Int, (pre ++ suf).length ≤ 1000000000000 →
    spec_AreVersions.l0v (pre ++ suf) (pre.length : Int) = some (vers (pre.getLastD 0) suf && decide (0 < (pre ++ suf).length)) := by
  induction suf with
  | nil =>
    intro pre hl
    rw [spec_AreVersions.l0v_eq, if_neg (nlt_end pre)]
    by_cases h : 0 < pre.length <;> simp [vers, h]
  | cons x suf ih =>
    intro pre hl
    have hn : pre.length < (pre ++ x :: suf).length := by simp
    rw [spec_AreVersions.l0v_eq, if_pos (lt_mid pre suf x), if_pos (by omega), rd_mid, l1In_f]
    simp only [Option.bind_some, vers]
    cases hx : inR 1 9 x with
    | false => simp
    | true =>
      rw [if_pos rfl, up_mid pre x hn hl]
      have h1 := ih (pre ++ [x]) (by simpa using hl)
      rw [← mid_snoc pre suf x] at h1
      rw [h1]
      have hr := inR_true.mp hx
      by_cases hp : pre = []
      · subst hp
        rw [if_neg (by simp)]
        have h0 : (0 : Int) < x := by omega
        simp [h0]
      · have hpl : 0 < pre.length := List.length_pos_iff.mpr hp
        rw [if_pos (by omega), w64 (x := (pre.length : Int) - 1) (by omega) (by omega), if_pos (by omega), if_pos (by omega), rd_lastD pre _ hp]
        by_cases hlt : pre.getLastD 0 < x
        · rw [if_neg (by omega)]
          generalize pre.getLastD 0 = q at hlt
          simp [hlt]
        · rw [if_pos (by omega)]
          generalize pre.getLastD 0 = q at hlt
          simp [hlt]
theorem specVers_v (l : List Int) (hl : l.length ≤ 1000000000000) : spec_AreVersions.fv l = some (areV l) := by
  rw [spec_AreVersions.fv_eq]
  simpa [areV] using specVers_l0 l [] (by simpa using hl)
end Go.Proofs.Ytlcpaebidnaolaa.Plain

/- Lists of bytes, of the reference. Condition: at most 10 to the 12 numbers. -/
set_option linter.unusedSimpArgs false
set_option linter.unusedVariables false
namespace Go.Proofs.Ytlcpaebidnaolaa.Plain
open Go.RowKit Go.Proofs.YtlcpaebidnaolaaW.PrintWords Go.Proofs.Ytlcpaebidnaolaa.Base Go.Proofs.Ytlcpaebidnaolaa.Print

theorem specByte_l0 (suf : List Int) : ∀ (pre : List Int), (pre ++ suf).length ≤ 1000000000000 → spec_l9Byte.l0v (pre ++ suf) (pre.length : Int) = some (suf.all (inR 0 255)) := by
  induction suf with
  | nil =>
    intro pre _
    rw [spec_l9Byte.l0v_eq, if_neg (nlt_end pre)]
    rfl
  | cons x suf ih =>
    intro pre hl
    have hn : pre.length < (pre ++ x :: suf).length := by simp
    rw [spec_l9Byte.l0v_eq, if_pos (lt_mid pre suf x), if_pos (by omega), rd_mid, l1In_f, up_mid pre x hn hl]
    simp only [Option.bind_some, List.all_cons]
    cases inR 0 255 x with
    | false => simp
    | true =>
      rw [if_pos rfl]
      rw [mid_snoc pre suf x] at hl ⊢
      rw [ih (pre ++ [x]) hl, Bool.true_and]
theorem specByte_v (l : List Int) (hl : l.length ≤ 1000000000000) : spec_l9Byte.fv l = some (l.all (inR 0 255)) := by
  rw [spec_l9Byte.fv_eq]
  simpa using specByte_l0 l [] (by simpa using hl)
end Go.Proofs.Ytlcpaebidnaolaa.Plain

/- ExtOf, AreExts and IsHello, of the reference. Condition: at most 10 to the 12 of each. -/
set_option linter.unusedSimpArgs false
set_option linter.unusedVariables false
namespace Go.Proofs.Ytlcpaebidnaolaa.Plain
open Go.RowKit Go.Proofs.YtlcpaebidnaolaaW.PrintWords Go.Proofs.Ytlcpaebidnaolaa.Base Go.Proofs.Ytlcpaebidnaolaa.Print

/-- The first extension with a tag is behind these, or among them. -/
theorem specExtOf_l0 (t : Int) (n : Nat) (suf : List S113) : ∀ (pre : List S113), (pre ++ suf).length ≤ 1000000000000 → (∃ x, suf[n]? = some x ∧ x.f0 = t) →
    ∃ r, spec_ExtOf.l0v (pre ++ suf) t (pre.length : Int) = some r ∧ decide (r < ((pre.length + n : Nat) : Int)) = hasT (suf.take n) t := by
  induction n generalizing suf with
  | zero =>
    intro pre hl hx
    obtain ⟨x, hx, ht⟩ := hx
    cases suf with
    | nil => simp at hx
    | cons y suf =>
      obtain rfl : y = x := by simpa using hx
      rw [spec_ExtOf.l0v_eq, if_pos (lt_mid pre suf y), if_pos (by omega), rdExt_mid, if_pos ht]
      exact ⟨_, rfl, by simp [hasT]⟩
  | succ n ih =>
    intro pre hl hx
    cases suf with
    | nil =>
      obtain ⟨x, hx, _⟩ := hx
      simp at hx
    | cons y suf =>
      have hn : pre.length < (pre ++ y :: suf).length := by simp
      rw [spec_ExtOf.l0v_eq, if_pos (lt_mid pre suf y), if_pos (by omega), rdExt_mid]
      by_cases hy : y.f0 = t
      · rw [if_pos hy]
        refine ⟨_, rfl, ?_⟩
        simp only [List.take_succ_cons, hasT, List.any_cons, hy, decide_true, Bool.true_or, decide_eq_true_eq]
        omega
      · rw [if_neg hy, up_mid pre y hn hl]
        rw [mid_snoc pre suf y] at hl ⊢
        obtain ⟨r, h1, h2⟩ := ih suf (pre ++ [y]) hl (by simpa using hx)
        refine ⟨r, h1, ?_⟩
        simp only [List.length_append, List.length_cons, List.length_nil] at h2
        rw [show pre.length + (n + 1) = pre.length + (0 + 1) + n by omega, h2]
        simp [hasT, hy]
theorem specExtOf_ex (pre suf : List S113) (x : S113) (hl : (pre ++ x :: suf).length ≤ 1000000000000) : ∃ r, spec_ExtOf.fv (pre ++ x :: suf) x.f0 = some r ∧ decide (r < (pre.length : Int)) = hasT pre x.f0 := by
  obtain ⟨r, h1, h2⟩ := specExtOf_l0 x.f0 pre.length (pre ++ x :: suf) [] (by simpa using hl) ⟨x, by simp, rfl⟩
  refine ⟨r, ?_, ?_⟩
  · rw [spec_ExtOf.fv_eq]
    simpa using h1
  · simpa using h2
theorem specExts_l0 (suf : List S113) : ∀ (pre : List S113), (pre ++ suf).length ≤ 1000000000000 → okXs suf →
    spec_AreExts.l0v (pre ++ suf) (pre.length : Int) = some (areX pre suf && decide ((pre ++ suf).length ≤ 6)) := by
  induction suf with
  | nil =>
    intro pre _ _
    rw [spec_AreExts.l0v_eq, if_neg (nlt_end pre)]
    simp only [areX, Bool.true_and, show (((pre ++ []).length : Int) ≤ 6) ↔ ((pre ++ []).length ≤ 6) from by omega]
  | cons x suf ih =>
    intro pre hl hs
    have hn : pre.length < (pre ++ x :: suf).length := by simp
    obtain ⟨r, e1, e2⟩ := specExtOf_ex pre suf x hl
    have h1 := ih (pre ++ [x]) (by simpa using hl) (fun y hy => hs y (List.mem_cons_of_mem _ hy))
    rw [← mid_snoc pre suf x] at h1
    rw [spec_AreExts.l0v_eq, if_pos (lt_mid pre suf x), if_pos (by omega), rdExt_mid, l1In_f, e1, specByte_v _ (hs x List.mem_cons_self), up_mid pre x hn hl, h1]
    simp only [Option.bind_some, areX]
    rw [← e2]
    generalize areX (pre ++ [x]) suf = z
    generalize decide ((pre ++ x :: suf).length ≤ 6) = q
    generalize x.f1.all (inR 0 255) = y
    cases inR 0 255 x.f0 with
    | false => simp
    | true =>
      rw [if_pos rfl]
      by_cases h3 : x.f1.length ≤ 4
      · rw [if_neg (by omega)]
        by_cases h2 : r < (pre.length : Int) <;> cases y <;> simp [h2, h3]
      · rw [if_pos (by omega)]
        simp [h3]
theorem specExts_v (l : List S113) (hl : l.length ≤ 1000000000000) (hs : okXs l) : spec_AreExts.fv l = some (isX l) := by
  rw [spec_AreExts.fv_eq]
  simpa [isX] using specExts_l0 l [] (by simpa using hl) hs
theorem specHello_v (v : List Int) (l : List S113) (hv : v.length ≤ 1000000000000) (hl : l.length ≤ 1000000000000) (hs : okXs l) : spec_IsHello.fv v l = some (isH v l) := by
  rw [spec_IsHello.fv_eq, specVers_v v hv, specExts_v l hl hs]
  simp only [Option.bind_some, isH]
  cases areV v <;> simp
end Go.Proofs.Ytlcpaebidnaolaa.Plain

/- A list without the numbers of another one. No program. No condition. -/
set_option linter.unusedSimpArgs false
set_option linter.unusedVariables false
namespace Go.Proofs.Ytlcpaebidnaolaa.Plain
open Go.RowKit Go.Proofs.YtlcpaebidnaolaaW.PrintWords Go.Proofs.Ytlcpaebidnaolaa.Base Go.Proofs.Ytlcpaebidnaolaa.Print

/-- The first without the second. -/
def wo (a b : List Int) : List Int := a.filter (fun x => !mem b x)
theorem wo_len (a b : List Int) : (wo a b).length ≤ a.length := List.length_filter_le _ _
end Go.Proofs.Ytlcpaebidnaolaa.Plain

/- Membership, of the reference. Condition: at most 10 to the 12 numbers. -/
set_option linter.unusedSimpArgs false
set_option linter.unusedVariables false
namespace Go.Proofs.Ytlcpaebidnaolaa.Plain
open Go.RowKit Go.Proofs.YtlcpaebidnaolaaW.PrintWords Go.Proofs.Ytlcpaebidnaolaa.Base Go.Proofs.Ytlcpaebidnaolaa.Print

theorem l9Has_l0 (x : Int) (suf : List Int) : ∀ (pre : List Int), (pre ++ suf).length ≤ 1000000000000 →
    spec_l9Has.l0v (pre ++ suf) x (pre.length : Int) = some (mem suf x) := by
  induction suf with
  | nil =>
    intro pre _
    rw [spec_l9Has.l0v_eq, if_neg (nlt_end pre)]
    simp [mem]
  | cons y suf ih =>
    intro pre hl
    have hn : pre.length < (pre ++ y :: suf).length := by simp
    rw [spec_l9Has.l0v_eq, if_pos (lt_mid pre suf y), if_pos (by omega), rd_mid, mem_cons]
    by_cases hxy : y = x
    · rw [if_pos hxy]
      simp [hxy]
    · rw [if_neg hxy, up_mid pre y hn hl]
      rw [mid_snoc pre suf y] at hl ⊢
      rw [ih (pre ++ [y]) hl]
      simp [hxy]
theorem l9Has_v (l : List Int) (x : Int) (hl : l.length ≤ 1000000000000) : spec_l9Has.fv l x = some (mem l x) := by
  rw [spec_l9Has.fv_eq]
  simpa using l9Has_l0 x l [] (by simpa using hl)
end Go.Proofs.Ytlcpaebidnaolaa.Plain

/- A list without the numbers of another one, of the reference. Condition: at most 10 to the 12 of each. -/
set_option linter.unusedSimpArgs false
set_option linter.unusedVariables false
namespace Go.Proofs.Ytlcpaebidnaolaa.Plain
open Go.RowKit Go.Proofs.YtlcpaebidnaolaaW.PrintWords Go.Proofs.Ytlcpaebidnaolaa.Base Go.Proofs.Ytlcpaebidnaolaa.Print

theorem specWo_l0 (b : List Int) (hb : b.length ≤ 1000000000000) (suf : List Int) : ∀ (pre out : List Int), (pre ++ suf).length ≤ 1000000000000 → out.length ≤ pre.length →
    spec_l21Left.l0v (pre ++ suf) b out (pre.length : Int) = some (out ++ wo suf b) := by
  induction suf with
  | nil =>
    intro pre out _ _
    rw [spec_l21Left.l0v_eq, if_neg (nlt_end pre)]
    simp [wo]
  | cons x suf ih =>
    intro pre out hl ho
    have hn : pre.length < (pre ++ x :: suf).length := by simp
    have hp : pre.length < 1000000000000 := by omega
    rw [spec_l21Left.l0v_eq, if_pos (lt_mid pre suf x), if_pos (by omega), rd_mid, l9Has_v b x hb, up_mid pre x hn hl]
    simp only [Option.bind_some]
    rw [mid_snoc pre suf x] at hl ⊢
    cases hx : mem b x with
    | true =>
      rw [if_pos rfl, ih (pre ++ [x]) out hl (by simp; omega)]
      simp [wo, hx]
    | false =>
      rw [if_neg (by simp), if_pos (by omega), ih (pre ++ [x]) (out ++ [x]) hl (by simp; omega)]
      simp [wo, hx]
theorem specWo_v (a b : List Int) (ha : a.length ≤ 1000000000000) (hb : b.length ≤ 1000000000000) : spec_l21Left.fv a b = some (wo a b) := by
  rw [spec_l21Left.fv_eq]
  simpa using specWo_l0 b hb a [] [] (by simpa using ha) (by simp)
end Go.Proofs.Ytlcpaebidnaolaa.Plain

/- PartHello and GivenUp, of the reference: each comes to an answer, and its rows are short. Condition: short rows. -/
set_option linter.unusedSimpArgs false
set_option linter.unusedVariables false
namespace Go.Proofs.Ytlcpaebidnaolaa.Plain
open Go.RowKit Go.Proofs.YtlcpaebidnaolaaW.PrintWords Go.Proofs.Ytlcpaebidnaolaa.Base Go.Proofs.Ytlcpaebidnaolaa.Print

theorem part_l1 (v : List Int) (q : List Int) (hq : q.length ≤ 1000) (g : List Int) (hg : g.length ≤ 1000) (suf : List S113) : ∀ (pre out : List S113), (pre ++ suf).length ≤ 1000 → out.length ≤ pre.length → (∀ y ∈ suf, y.f1.length ≤ 1000) → (∀ y ∈ out, y.f1.length ≤ 1000) →
    ∃ v' l' ok, spec_PartHello.l1v q (pre.length : Int) v (pre ++ suf) g out = some (v', l', ok) ∧ v'.length ≤ 1000 ∧ FewX l' := by
  induction suf with
  | nil =>
    intro pre out hl ho _ hy
    rw [spec_PartHello.l1v_eq, if_neg (nlt_end pre)]
    by_cases h0 : (g.length : Int) = 0
    · rw [if_pos h0]
      exact ⟨_, _, _, rfl, by simp, by simp [FewX]⟩
    · rw [if_neg h0]
      exact ⟨_, _, _, rfl, hg, by simp at hl; omega, hy⟩
  | cons x suf ih =>
    intro pre out hl ho hs hy
    have hn : pre.length < (pre ++ x :: suf).length := by simp
    have hx := hs x List.mem_cons_self
    have hlt := lt_mid pre suf x
    have hp : pre.length < 1000 := by omega
    rw [spec_PartHello.l1v_eq, if_pos hlt, if_pos (by omega), rdExt_mid, l9Has_v q _ (by omega), Option.bind_some, up_mid pre x hn (by omega)]
    simp only [Option.bind_some, List.nil_append, List.length_nil, Nat.zero_add]
    rw [mid_snoc pre suf x] at hl ⊢
    cases hm : mem q x.f0 with
    | true =>
      rw [if_pos rfl]
      exact ih (pre ++ [x]) out hl (by simp; omega) (fun y h => hs y (List.mem_cons_of_mem _ h)) hy
    | false =>
      rw [if_neg (by simp), if_pos (by omega), if_pos (by omega)]
      exact ih (pre ++ [x]) _ hl (by simp; omega) (fun y h => hs y (List.mem_cons_of_mem _ h)) (fewX_snoc hy hx)
theorem part_l0 (a q : List Int) (ha : a.length ≤ 1000) (hq : q.length ≤ 1000) (l : List S113) (hl : FewX l) (suf : List Int) : ∀ (pre g : List Int), (pre ++ suf).length ≤ 1000 → g.length ≤ pre.length →
    ∃ v' l' ok, spec_PartHello.l0v a q (pre.length : Int) (pre ++ suf) l g = some (v', l', ok) ∧ v'.length ≤ 1000 ∧ FewX l' := by
  induction suf with
  | nil =>
    intro pre g hp hg
    rw [spec_PartHello.l0v_eq, if_neg (nlt_end pre)]
    simp at hp
    exact part_l1 _ q hq g (by omega) l [] [] (by simpa using hl.1) (by simp) hl.2 (fun y h => by cases h)
  | cons x suf ih =>
    intro pre g hp hg
    have hn : pre.length < (pre ++ x :: suf).length := by simp
    have h1 : pre.length < 1000 := by omega
    rw [spec_PartHello.l0v_eq, if_pos (lt_mid pre suf x), if_pos (by omega), rd_mid, l9Has_v a _ (by omega), Option.bind_some, up_mid pre x hn (by omega)]
    rw [mid_snoc pre suf x] at hp ⊢
    cases hm : mem a x with
    | true =>
      rw [if_pos rfl]
      exact ih (pre ++ [x]) g hp (by simp; omega)
    | false =>
      rw [if_neg (by simp), if_pos (by omega)]
      exact ih (pre ++ [x]) _ hp (by simp; omega)
theorem part_ex (v : List Int) (l : List S113) (a q : List Int) (hv : v.length ≤ 1000) (hl : FewX l) (ha : a.length ≤ 1000) (hq : q.length ≤ 1000) : ∃ v' l' ok, spec_PartHello.fv v l a q = some (v', l', ok) ∧ v'.length ≤ 1000 ∧ FewX l' := by
  have hx := fewX_ok hl
  rw [spec_PartHello.fv_eq, specHello_v v l (by omega) hx.1 hx.2, Option.bind_some]
  cases isH v l with
  | true =>
    rw [if_pos rfl]
    exact part_l0 a q ha hq l hl v [] [] (by simpa using hv) (by simp)
  | false =>
    rw [if_neg (by simp)]
    exact ⟨_, _, _, rfl, by simp, by simp [FewX]⟩
theorem given_l0 (v xv : List Int) (xl : List S113) (hx : xl.length ≤ 1000) (suf : List S113) : ∀ (pre : List S113) (out : List Int), (pre ++ suf).length ≤ 1000 → out.length ≤ 1000 + pre.length → ∃ r, spec_GivenUp.l0v out (pre.length : Int) v (pre ++ suf) xv xl = some r ∧ r.length ≤ 2000 := by
  induction suf with
  | nil =>
    intro pre out hl ho
    rw [spec_GivenUp.l0v_eq, if_neg (nlt_end pre)]
    simp at hl
    exact ⟨_, rfl, by omega⟩
  | cons x suf ih =>
    intro pre out hl ho
    have hn : pre.length < (pre ++ x :: suf).length := by simp
    have h1 : pre.length < 1000 := by omega
    obtain ⟨q, eq⟩ := extOf_ex xl x.f0 (by omega)
    rw [spec_GivenUp.l0v_eq, if_pos (lt_mid pre suf x), if_pos (by omega), rdExt_mid, eq, Option.bind_some, up_mid pre x hn (by omega), l1In_f, Option.bind_some]
    rw [mid_snoc pre suf x] at hl ⊢
    by_cases hq : q < 0
    · rw [if_pos hq]
      cases inR 0 255 x.f0 with
      | true =>
        rw [if_pos rfl, if_pos (by omega)]
        exact ih (pre ++ [x]) _ hl (by simp; omega)
      | false =>
        rw [if_neg (by simp)]
        exact ih (pre ++ [x]) _ hl (by simp; omega)
    · rw [if_neg hq]
      exact ih (pre ++ [x]) _ hl (by simp; omega)
theorem given_ex (v : List Int) (l : List S113) (xv : List Int) (xl : List S113) (hv : v.length ≤ 1000) (hl : FewX l) (hxv : xv.length ≤ 1000) (hxl : FewX xl) : ∃ r, spec_GivenUp.fv v l xv xl = some r ∧ r.length ≤ 2000 := by
  have h := wo_len v xv
  rw [spec_GivenUp.fv_eq, specWo_v v xv (by omega) (by omega), Option.bind_some]
  exact given_l0 v xv xl hxl.1 l [] _ (by simpa using hl.1) (by simp; omega)
end Go.Proofs.Ytlcpaebidnaolaa.Plain

/- The memories that the laws draw from bytes: each draw comes to an answer, and its rows are short. Condition: at most 10 to the 12 bytes; the place lies in the bytes. -/
set_option linter.unusedSimpArgs false
set_option linter.unusedVariables false
namespace Go.Proofs.Ytlcpaebidnaolaa.Plain
open Go.RowKit Go.Proofs.YtlcpaebidnaolaaW.PrintWords Go.Proofs.Ytlcpaebidnaolaa.Base Go.Proofs.Ytlcpaebidnaolaa.Print

theorem rdK_mid (pre suf : List S61) (x : S61) : rd_T61 (pre ++ x :: suf) (pre.length : Int) = x := by simp [rd_T61]
/-- A short memory with short rows. -/
def FewK (l : List S61) : Prop := ∀ y ∈ l, y.f1.length ≤ 3000
theorem fewK_snoc {l : List S61} {x : S61} (h : FewK l) (h1 : x.f1.length ≤ 3000) : FewK (l ++ [x]) := by
  intro y hy
  rcases List.mem_append.1 hy with hy | hy
  · exact h y hy
  · rw [List.mem_singleton.1 hy]
    exact h1
theorem l23Copy_f (c : Int) (l : List Int) (t : Int) (hl : l.length ≤ 1000000000000) : spec_l23Copy.f c l t = some (c, l, t) := by
  unfold spec_l23Copy.f
  simp only [Option.bind_some, List.nil_append, List.length_nil, Nat.zero_add]
  rw [if_pos (by omega)]
theorem rem_l0 (c : Int) (lost : List Int) (t : Int) (g : Bool) (hlost : lost.length ≤ 3000) (suf : List S61) : ∀ (pre out : List S61), (pre ++ suf).length ≤ 1000 → out.length ≤ pre.length → FewK suf → FewK out →
    ∃ r, spec_Remember.l0v (pre ++ suf) c lost t out g (pre.length : Int) = some r ∧ FewK r ∧ r.length ≤ (pre ++ suf).length + 1 := by
  induction suf with
  | nil =>
    intro pre out hl ho _ hy
    have hl' : pre.length ≤ 1000 := by simpa using hl
    rw [spec_Remember.l0v_eq, if_neg (nlt_end pre)]
    simp only [Option.bind_some, List.nil_append, List.length_nil, Nat.zero_add]
    cases g with
    | true =>
      rw [if_pos rfl, if_pos (by omega), if_pos (by omega)]
      exact ⟨_, rfl, fewK_snoc hy hlost, by simp; omega⟩
    | false =>
      rw [if_neg (by simp)]
      exact ⟨_, rfl, hy, by simp; omega⟩
  | cons x suf ih =>
    intro pre out hl ho hs hy
    have hn : pre.length < (pre ++ x :: suf).length := by simp
    have hx := hs x List.mem_cons_self
    have hs' : FewK suf := fun y h => hs y (List.mem_cons_of_mem _ h)
    have hp : pre.length < 1000 := by omega
    rw [spec_Remember.l0v_eq, if_pos (lt_mid pre suf x), rdK_mid, up_mid pre x hn (by omega), l23Copy_f _ _ _ (by omega)]
    simp only [Option.bind_some]
    rw [mid_snoc pre suf x] at hl ⊢
    have h1 := ih (pre ++ [x]) (out ++ [⟨x.f0, x.f1, x.f2⟩]) hl (by simp; omega) hs' (fewK_snoc hy hx)
    have h2 := ih (pre ++ [x]) out hl (by simp; omega) hs' hy
    cases g with
    | true =>
      rw [if_pos rfl, if_pos (by omega)]
      by_cases hc : x.f0 = c
      · rw [if_pos hc]
        exact h2
      · rw [if_neg hc, if_pos (by omega)]
        exact h1
    | false =>
      rw [if_neg (by simp), if_pos (by omega), if_pos (by omega)]
      exact h1
theorem rem_ex (l : List S61) (c : Int) (lost : List Int) (t : Int) (hlost : lost.length ≤ 3000) (hl : l.length ≤ 1000) (hs : FewK l) : ∃ r, spec_Remember.fv l c lost t = some r ∧ FewK r ∧ r.length ≤ l.length + 1 := by
  have h := fun g => rem_l0 c lost t g hlost l [] [] (by simpa using hl) (by simp) hs (fun y hy => by cases hy)
  rw [spec_Remember.fv_eq]
  simp only [Option.bind_some, l1In_f, spec_Remember.j0v_eq]
  split
  · exact h _
  · exact h _
theorem l23Draw_l0 (m : Nat) : ∀ (xs : List S61) (l : List Int) (p r : Int), St l p → xs.length + m ≤ 900 → FewK xs → ∃ ys p' r', spec_l23Draw.l0v xs (m : Int) l p r = some (ys, p', r') ∧ St l p' ∧ FewK ys ∧ ys.length ≤ xs.length + m := by
  induction m with
  | zero =>
    intro xs l p r h hx hy
    rw [spec_l23Draw.l0v_eq, if_neg (by omega)]
    exact ⟨_, _, _, rfl, h, hy, by omega⟩
  | succ m ih =>
    intro xs l p r h hx hy
    rw [spec_l23Draw.l0v_eq, if_pos (by omega)]
    obtain ⟨v, x, p1, r1, e1, h1, hv, hxx⟩ := l17Draw_ex l p r h
    rw [e1, Option.bind_some]
    obtain ⟨a, p2, r2, e2, h2, _, ha⟩ := l12Draw_ex l p1 r1 h1
    rw [e2, Option.bind_some]
    obtain ⟨b, p3, r3, e3, h3, hb⟩ := l17Tags_ex l p2 r2 h2
    rw [e3, Option.bind_some]
    obtain ⟨v', x', ok, e4, hv', hx'⟩ := part_ex v x a b (by omega) hxx (by omega) (by omega)
    rw [e4, Option.bind_some]
    obtain ⟨c, p5, r5, e5, h5, c0, c1⟩ := l1Below_ex l p3 r3 6 h3 (by decide)
    rw [e5, Option.bind_some]
    obtain ⟨g, e6, hg⟩ := given_ex v x v' x' (by omega) hxx (by omega) hx'
    rw [e6, Option.bind_some]
    obtain ⟨d, p7, r7, e7, h7, d0, d1⟩ := l1Below_ex l p5 r5 40 h5 (by decide)
    rw [e7, Option.bind_some]
    obtain ⟨zs, e8, hz, hz1⟩ := rem_ex xs c g d (by omega) (by omega) hy
    rw [e8, Option.bind_some, w64 (by omega) (by omega), show ((m + 1 : Nat) : Int) - 1 = (m : Int) by omega]
    obtain ⟨ys, p', r', e, h', y1, y2⟩ := ih zs l p7 r7 h7 (by omega) hz
    exact ⟨ys, p', r', e, h', y1, by omega⟩
theorem l23Draw_ex (l : List Int) (p r : Int) (h : St l p) : ∃ ys p' r', spec_l23Draw.fv l p r = some (ys, p', r') ∧ St l p' ∧ FewK ys ∧ ys.length ≤ 6 := by
  rw [spec_l23Draw.fv_eq]
  obtain ⟨b, p1, r1, e1, h1, b0, b1⟩ := l1Below_ex l p r 6 h (by decide)
  rw [e1, Option.bind_some]
  obtain ⟨n, rfl⟩ : ∃ n : Nat, b = (n : Int) := ⟨b.toNat, by omega⟩
  obtain ⟨ys, p2, r2, e2, h2, y1, y2⟩ := l23Draw_l0 n [] l p1 r1 h1 (by simp; omega) (fun y hy => by cases hy)
  simp only [List.length_nil] at y2
  exact ⟨ys, p2, r2, e2, h2, y1, by omega⟩
/-- A memory that is not too long. -/
def MemOk (l : List S61) : Prop := l.length ≤ 6 ∧ ∀ y ∈ l, y.f1.length ≤ 1000000000
theorem memOk_set {l : List S61} {i : Nat} {x : S61} (h : l.length ≤ 6) (hs : FewK l) (h1 : x.f1.length ≤ 3001) : MemOk (l.set i x) := by
  refine ⟨by simpa using h, fun y hy => ?_⟩
  rcases List.mem_or_eq_of_mem_set hy with hy | rfl
  · have := hs y hy
    omega
  · omega
theorem rdK_few {l : List S61} (hs : FewK l) (i : Int) : (rd_T61 l i).f1.length ≤ 3000 := by
  unfold rd_T61
  by_cases h : i.toNat < l.length
  · have e : l.getD i.toNat z61 = l[i.toNat] := by simp [h]
    rw [e]
    exact hs _ (List.getElem_mem h)
  · have e : l.getD i.toNat z61 = z61 := by simp [List.getD, h]
    rw [e]
    simp [z61]
theorem l23Any_ex (l : List Int) (p r : Int) (h : St l p) : ∃ ys p' r', spec_l23Any.fv l p r = some (ys, p', r') ∧ St l p' ∧ MemOk ys := by
  rw [spec_l23Any.fv_eq]
  obtain ⟨xs, p1, r1, e1, h1, x1, x2⟩ := l23Draw_ex l p r h
  have hok : MemOk xs := ⟨x2, fun y hy => by have := x1 y hy; omega⟩
  rw [e1, Option.bind_some]
  by_cases h0 : (xs.length : Int) = 0
  · rw [if_pos h0]
    exact ⟨_, _, _, rfl, h1, hok⟩
  · rw [if_neg h0]
    obtain ⟨i, p2, r2, e2, h2, i0, i1⟩ := l1Below_ex l p1 r1 (xs.length : Int) h1 (by omega)
    rw [e2, Option.bind_some]
    obtain ⟨c, p3, r3, e3, h3, c0, c1⟩ := l1Below_ex l p2 r2 8 h2 (by decide)
    have hf := rdK_few x1 i
    simp only [e3, Option.bind_some, if_pos i0, if_pos i1]
    by_cases k0 : c = 0
    · rw [if_pos k0]
      obtain ⟨b, p4, r4, e4, h4, _⟩ := l1Int_ex l p3 r3 [(-1), 5, 6] h3 (by simp)
      rw [e4]
      exact ⟨_, _, _, rfl, h4, memOk_set x2 x1 (by show (rd_T61 xs i).f1.length ≤ _; omega)⟩
    · rw [if_neg k0]
      by_cases k1 : c = 1
      · rw [if_pos k1]
        obtain ⟨b, p4, r4, e4, h4, _⟩ := l1Int_ex l p3 r3 [(-1), 40, 9223372036854775807, (-9223372036854775808)] h3 (by simp)
        rw [e4]
        exact ⟨_, _, _, rfl, h4, memOk_set x2 x1 (by show (rd_T61 xs i).f1.length ≤ _; omega)⟩
      · rw [if_neg k1]
        by_cases k2 : c = 2
        · rw [if_pos k2]
          obtain ⟨b, p4, r4, e4, h4, _⟩ := l1Int_ex l p3 r3 [0, 1255, 1256] h3 (by simp)
          rw [e4, Option.bind_some, if_pos (by omega)]
          exact ⟨_, _, _, rfl, h4, memOk_set x2 x1 (by simp; omega)⟩
        · rw [if_neg k2]
          exact ⟨_, _, _, rfl, h3, hok⟩
end Go.Proofs.Ytlcpaebidnaolaa.Plain

/- Lists of numbers in a range. Condition: the slice has at most 10 to the 12 numbers. -/
set_option linter.unusedSimpArgs false
set_option linter.unusedVariables false
namespace Go.Proofs.Ytlcpaebidnaolaa.Plain
open Go.RowKit Go.Proofs.YtlcpaebidnaolaaW.PrintWords Go.Proofs.Ytlcpaebidnaolaa.Base Go.Proofs.Ytlcpaebidnaolaa.Print

theorem areNumbers_l0 (lo hi : Int) (suf : List Int) : ∀ (pre : List Int), (pre ++ suf).length ≤ 1000000000000 →
    ∃ r, slices_IndexFunc_int_int_with_impl_areNumbers_1.l0v (pre ++ suf) ((pre ++ suf).length : Int) (pre.length : Int) lo hi = some r ∧ decide (r ≥ 0) = !(suf.all (inR lo hi)) := by
  induction suf with
  | nil =>
    intro pre _
    refine ⟨-1, ?_, by simp⟩
    rw [slices_IndexFunc_int_int_with_impl_areNumbers_1.l0v_eq, if_neg (nlt_end pre)]
  | cons x suf ih =>
    intro pre hl
    have hn : pre.length < (pre ++ x :: suf).length := by simp
    rw [slices_IndexFunc_int_int_with_impl_areNumbers_1.l0v_eq, if_pos (lt_mid pre suf x), if_pos (by omega), if_pos (lt_mid pre suf x), rd_mid]
    unfold impl_areNumbers_1.f
    rw [inRange_f]
    simp only [Option.bind_some]
    cases hx : inR lo hi x with
    | false =>
      refine ⟨(pre.length : Int), by simp, ?_⟩
      simp [hx]
    | true =>
      rw [up_mid pre x hn hl]
      simp only [Bool.not_true, Bool.false_eq_true, if_false]
      rw [mid_snoc pre suf x] at hl ⊢
      obtain ⟨r, h1, h2⟩ := ih (pre ++ [x]) hl
      exact ⟨r, h1, by rw [h2]; simp [hx]⟩

theorem areNumbers_v (l : List Int) (lo hi : Int) (hl : l.length ≤ 1000000000000) : impl_areNumbers.fv l lo hi = some (l.all (inR lo hi)) := by
  obtain ⟨r, h1, h2⟩ := areNumbers_l0 lo hi l [] (by simpa using hl)
  rw [impl_areNumbers.fv_eq, slices_ContainsFunc_int_int_with_impl_areNumbers_1.fv_eq, slices_IndexFunc_int_int_with_impl_areNumbers_1.fv_eq]
  simp only [List.nil_append, List.length_nil, Int.natCast_zero] at h1
  rw [h1]
  simp [h2]
end Go.Proofs.Ytlcpaebidnaolaa.Plain

/- slices.Equal on whole numbers. Condition: at most 10 to the 12 numbers. -/
set_option linter.unusedSimpArgs false
set_option linter.unusedVariables false
namespace Go.Proofs.Ytlcpaebidnaolaa.Plain
open Go.RowKit Go.Proofs.YtlcpaebidnaolaaW.PrintWords Go.Proofs.Ytlcpaebidnaolaa.Base Go.Proofs.Ytlcpaebidnaolaa.Print

theorem slicesEqual_l0 (sa : List Int) : ∀ (pre sb : List Int), sb.length = sa.length → (pre ++ sa).length ≤ 1000000000000 → slices_Equal_int_int.l0v (pre ++ sa) (pre ++ sb) ((pre ++ sa).length : Int) (pre.length : Int) = some (decide (sa = sb)) := by
  induction sa with
  | nil =>
    intro pre sb hr _
    rw [slices_Equal_int_int.l0v_eq, if_neg (nlt_end pre)]
    simp at hr
    simp [hr]
  | cons x sa ih =>
    intro pre sb hr hl
    cases sb with
    | nil => simp at hr
    | cons y sb =>
      have hn : pre.length < (pre ++ x :: sa).length := by simp
      rw [slices_Equal_int_int.l0v_eq, if_pos (lt_mid pre sa x), if_pos (by omega), if_pos (lt_mid pre sa x), if_pos (lt_mid pre sb y), rd_mid, rd_mid, up_mid pre x hn hl]
      by_cases hxy : x = y
      · subst hxy
        rw [if_pos rfl]
        rw [mid_snoc pre sa x] at hl ⊢
        rw [mid_snoc pre sb x]
        rw [ih (pre ++ [x]) sb (by simpa using hr) hl]
        simp
      · rw [if_neg hxy]
        simp [hxy]
theorem slicesEqual_v (a b : List Int) (hl : a.length ≤ 1000000000000) : slices_Equal_int_int.fv a b = some (decide (a = b)) := by
  rw [slices_Equal_int_int.fv_eq]
  by_cases h : a.length = b.length
  · rw [if_pos (by omega)]
    have h1 := slicesEqual_l0 a [] b h.symm (by simpa using hl)
    simpa using h1
  · rw [if_neg (by omega)]
    have : a ≠ b := fun e => h (by rw [e])
    simp [this]
end Go.Proofs.Ytlcpaebidnaolaa.Plain

/- Remember, ForgetOld, Recall, IsMemory and CountStates, of the program. Condition: rows that are not too long. -/
set_option linter.unusedSimpArgs false
set_option linter.unusedVariables false
namespace Go.Proofs.Ytlcpaebidnaolaa.Plain
open Go.RowKit Go.Proofs.YtlcpaebidnaolaaW.PrintWords Go.Proofs.Ytlcpaebidnaolaa.Base Go.Proofs.Ytlcpaebidnaolaa.Print

def OkK (l : List S61) : Prop := ∀ y ∈ l, y.f1.length ≤ 1000000000
theorem memOk_ok {l : List S61} (h : MemOk l) : l.length ≤ 1000000 ∧ OkK l := ⟨by have := h.1; omega, h.2⟩
theorem keep1_l0 (suf : List S61) : ∀ (pre out : List S61), (pre ++ suf).length ≤ 1000000 → out.length ≤ pre.length → OkK suf →
    impl_keptKnown_with_impl_Remember_1.l0v out (pre ++ suf) ((pre ++ suf).length : Int) (pre.length : Int) = some (out ++ suf) := by
  induction suf with
  | nil =>
    intro pre out hl ho hs
    rw [impl_keptKnown_with_impl_Remember_1.l0v_eq, if_neg (nlt_end pre)]
    simp
  | cons x suf ih =>
    intro pre out hl ho hs
    have hn : pre.length < (pre ++ x :: suf).length := by simp
    have hx := hs x List.mem_cons_self
    rw [impl_keptKnown_with_impl_Remember_1.l0v_eq, if_pos (lt_mid pre suf x), if_pos (by omega), if_pos (lt_mid pre suf x), rdK_mid, up_mid pre x hn (by omega)]
    simp only [impl_Remember_1.f, Option.bind_some, if_true, List.nil_append, List.length_nil, Nat.zero_add]
    rw [if_pos (by omega), if_pos (by omega)]
    rw [mid_snoc pre suf x] at hl ⊢
    rw [ih (pre ++ [x]) _ hl (by simp; omega) (fun y h => hs y (List.mem_cons_of_mem _ h))]
    simp
theorem keep2_l0 (c : Int) (suf : List S61) : ∀ (pre out : List S61), (pre ++ suf).length ≤ 1000000 → out.length ≤ pre.length → OkK suf →
    impl_keptKnown_with_impl_Remember_2.l0v out (pre ++ suf) ((pre ++ suf).length : Int) (pre.length : Int) c = some (out ++ suf.filter (fun x => decide (x.f0 ≠ c))) := by
  induction suf with
  | nil =>
    intro pre out hl ho hs
    rw [impl_keptKnown_with_impl_Remember_2.l0v_eq, if_neg (nlt_end pre)]
    simp
  | cons x suf ih =>
    intro pre out hl ho hs
    have hn : pre.length < (pre ++ x :: suf).length := by simp
    have hp : pre.length < 1000000 := by omega
    have hx := hs x List.mem_cons_self
    rw [impl_keptKnown_with_impl_Remember_2.l0v_eq, if_pos (lt_mid pre suf x), if_pos (by omega), if_pos (lt_mid pre suf x), rdK_mid, up_mid pre x hn (by omega)]
    simp only [impl_Remember_2.f, Option.bind_some, List.nil_append, List.length_nil, Nat.zero_add]
    rw [mid_snoc pre suf x] at hl ⊢
    by_cases hc : x.f0 = c
    · rw [if_neg (by simp [hc]), ih (pre ++ [x]) _ hl (by simp; omega) (fun y h => hs y (List.mem_cons_of_mem _ h))]
      simp [hc]
    · rw [if_pos (by simp [hc]), if_pos (by omega), if_pos (by omega), ih (pre ++ [x]) _ hl (by simp; omega) (fun y h => hs y (List.mem_cons_of_mem _ h))]
      simp [hc]
theorem keep3_l0 (t : Int) (h0 : 0 ≤ t) (h1 : t ≤ 100000) (suf : List S61) : ∀ (pre out : List S61), (pre ++ suf).length ≤ 1000000 → out.length ≤ pre.length → OkK suf →
    impl_keptKnown_with_impl_ForgetOld_1.l0v out (pre ++ suf) ((pre ++ suf).length : Int) (pre.length : Int) t = some (out ++ suf.filter (fun x => inR (t - 20) t x.f2)) := by
  induction suf with
  | nil =>
    intro pre out hl ho hs
    rw [impl_keptKnown_with_impl_ForgetOld_1.l0v_eq, if_neg (nlt_end pre)]
    simp
  | cons x suf ih =>
    intro pre out hl ho hs
    have hn : pre.length < (pre ++ x :: suf).length := by simp
    have hp : pre.length < 1000000 := by omega
    have hx := hs x List.mem_cons_self
    rw [impl_keptKnown_with_impl_ForgetOld_1.l0v_eq, if_pos (lt_mid pre suf x), if_pos (by omega), if_pos (lt_mid pre suf x), rdK_mid, up_mid pre x hn (by omega)]
    simp only [impl_ForgetOld_1.f, inRange_f, Option.bind_some, List.nil_append, List.length_nil, Nat.zero_add]
    rw [w64 (x := t - 20) (by omega) (by omega)]
    rw [mid_snoc pre suf x] at hl ⊢
    cases hc : inR (t - 20) t x.f2 with
    | false =>
      rw [if_neg (by simp), ih (pre ++ [x]) _ hl (by simp; omega) (fun y h => hs y (List.mem_cons_of_mem _ h))]
      simp [hc]
    | true =>
      rw [if_pos rfl, if_pos (by omega), if_pos (by omega), ih (pre ++ [x]) _ hl (by simp; omega) (fun y h => hs y (List.mem_cons_of_mem _ h))]
      simp [hc]
theorem okK_filter {l : List S61} (h : OkK l) (f : S61 → Bool) : OkK (l.filter f) := fun y hy => h y (List.mem_filter.mp hy).1
theorem implRemember_v (l : List S61) (c : Int) (lost : List Int) (t : Int) (hl : l.length ≤ 100000) (hs : OkK l) (hlost : lost.length ≤ 1000000000) : impl_Remember.fv l c lost t = some (remember l c lost t) := by
  have hf := List.length_filter_le (fun x : S61 => decide (x.f0 ≠ c)) l
  have k1 := keep1_l0 l [] [] (by simp; omega) (by simp) hs
  have k2 := keep2_l0 c l [] [] (by simp; omega) (by simp) hs
  simp only [List.nil_append, List.length_nil, Int.natCast_zero] at k1 k2
  rw [impl_Remember.fv_eq, inRange_f, Option.bind_some, impl_Remember.j0v_eq, impl_Remember.j0v_eq, impl_keptKnown_with_impl_Remember_1.fv_eq, impl_keptKnown_with_impl_Remember_2.fv_eq, k1, k2]
  simp only [Option.bind_some, List.nil_append, List.length_nil, Nat.zero_add, remember, goodK]
  rw [if_pos (show lost.length < 17592186044416 by omega), if_pos (show (List.filter (fun x : S61 => decide (x.f0 ≠ c)) l).length < 3518437208883 by omega)]
  rcases Bool.eq_false_or_eq_true (inR 0 5 c) with hc | hc
  · by_cases ht : t < 0
    · have ht' : ¬ 0 ≤ t := by omega
      simp [ht, ht', hc]
    · have ht' : 0 ≤ t := by omega
      simp [ht, ht', hc]
  · simp [hc]
theorem implForget_v (l : List S61) (t : Int) (hl : l.length ≤ 1000000) (hs : OkK l) : impl_ForgetOld.fv l t = some (forget l t) := by
  rw [impl_ForgetOld.fv_eq, inRange_f, Option.bind_some, forget]
  cases ht : inR 0 100000 t with
  | false => simp
  | true =>
    have h := inR_true.mp ht
    have k3 := keep3_l0 t h.1 h.2 l [] [] (by simpa using hl) (by simp) hs
    simp only [List.nil_append, List.length_nil, Int.natCast_zero] at k3
    rw [if_pos rfl, impl_keptKnown_with_impl_ForgetOld_1.fv_eq, k3]
    simp
theorem recall_l0 (c : Int) (suf : List S61) : ∀ (pre : List S61), (pre ++ suf).length ≤ 1000000 → impl_Recall.l0v c (pre ++ suf) ((pre ++ suf).length : Int) (pre.length : Int) = some (firstOf c suf) := by
  induction suf with
  | nil =>
    intro pre hl
    rw [impl_Recall.l0v_eq, if_neg (nlt_end pre)]
    rfl
  | cons x suf ih =>
    intro pre hl
    have hn : pre.length < (pre ++ x :: suf).length := by simp
    rw [impl_Recall.l0v_eq, if_pos (lt_mid pre suf x), if_pos (by omega), if_pos (lt_mid pre suf x), rdK_mid, up_mid pre x hn (by omega)]
    simp only [firstOf]
    by_cases hc : x.f0 = c
    · rw [if_pos hc, if_pos hc]
    · rw [if_neg hc, if_neg hc]
      rw [mid_snoc pre suf x] at hl ⊢
      exact ih (pre ++ [x]) hl
theorem implRecall_v (l : List S61) (c t : Int) (hl : l.length ≤ 1000000) (hs : OkK l) : impl_Recall.fv l c t = some (recall l c t) := by
  have h := recall_l0 c (forget l t) [] (by have := forget_len l t; simp; omega)
  simp only [List.nil_append, List.length_nil, Int.natCast_zero] at h
  rw [impl_Recall.fv_eq, implForget_v l t hl hs, Option.bind_some, h, recall]
theorem firstOf_len {l : List S61} (h : OkK l) (c : Int) : (firstOf c l).length ≤ 1000000000 := by
  induction l with
  | nil => simp [firstOf]
  | cons x l ih =>
    simp only [firstOf]
    split
    · exact h x List.mem_cons_self
    · exact ih (fun y hy => h y (List.mem_cons_of_mem _ hy))
theorem okK_forget {l : List S61} (h : OkK l) (t : Int) : OkK (forget l t) := by
  unfold forget
  split
  · exact okK_filter h _
  · exact fun y hy => by cases hy
theorem recall_ok {l : List S61} (h : OkK l) (c t : Int) : (recall l c t).length ≤ 1000000000 := firstOf_len (okK_forget h t) c
theorem okK_remember {l : List S61} (h : OkK l) (c : Int) (lost : List Int) (t : Int) (hlost : lost.length ≤ 1000000000) : OkK (remember l c lost t) := by
  unfold remember
  split
  · intro y hy
    rcases List.mem_append.1 hy with hy | hy
    · exact okK_filter h _ y hy
    · rw [List.mem_singleton.1 hy]
      exact hlost
  · exact h
theorem implEqInts_v (a b : List Int) (ha : a.length ≤ 1000000000) : impl_EqualInts.fv a b = some (decide (a = b)) := by
  rw [impl_EqualInts.fv_eq, slicesEqual_v a b (by omega)]
  rfl
/-- A memory in form has at most six rows. -/
theorem seen_l0 (a b d : Int) (x : List Int) (suf : List S61) : ∀ (pre : List S61), (pre ++ suf).length ≤ 1000000 → ∃ r, slices_IndexFunc_impl_Known_impl_Known_with_impl_IsMemory_1.l0v (pre ++ suf) ((pre ++ suf).length : Int) (pre.length : Int) a x b = some r := by
  induction suf with
  | nil =>
    intro pre hl
    rw [slices_IndexFunc_impl_Known_impl_Known_with_impl_IsMemory_1.l0v_eq, if_neg (nlt_end pre)]
    exact ⟨_, rfl⟩
  | cons y suf ih =>
    intro pre hl
    have hn : pre.length < (pre ++ y :: suf).length := by simp
    rw [slices_IndexFunc_impl_Known_impl_Known_with_impl_IsMemory_1.l0v_eq, if_pos (lt_mid pre suf y), if_pos (by omega), if_pos (lt_mid pre suf y), up_mid pre y hn (by omega)]
    simp only [impl_IsMemory_1.f, Option.bind_some]
    split
    · exact ⟨_, rfl⟩
    · rw [mid_snoc pre suf y] at hl ⊢
      exact ih (pre ++ [y]) hl
theorem seen_ex (l : List S61) (a b : Int) (x : List Int) (hl : l.length ≤ 1000000) : ∃ r, slices_ContainsFunc_impl_Known_impl_Known_with_impl_IsMemory_1.fv l a x b = some r := by
  obtain ⟨r, h⟩ := seen_l0 a b 0 x l [] (by simpa using hl)
  simp only [List.nil_append, List.length_nil, Int.natCast_zero] at h
  rw [slices_ContainsFunc_impl_Known_impl_Known_with_impl_IsMemory_1.fv_eq, slices_IndexFunc_impl_Known_impl_Known_with_impl_IsMemory_1.fv_eq, h]
  exact ⟨_, rfl⟩
theorem isMem_l0 (t : Int) (suf : List S61) : ∀ (pre : List S61), (pre ++ suf).length ≤ 1000000 → OkK suf → ∃ r, impl_IsMemory.l0v (pre ++ suf) t (pre ++ suf) ((pre ++ suf).length : Int) (pre.length : Int) = some r ∧ (r = true → (pre ++ suf).length ≤ 6) := by
  induction suf with
  | nil =>
    intro pre hl hs
    rw [impl_IsMemory.l0v_eq, if_neg (nlt_end pre)]
    exact ⟨_, rfl, fun h => by simp at h ⊢; omega⟩
  | cons x suf ih =>
    intro pre hl hs
    have hn : pre.length < (pre ++ x :: suf).length := by simp
    have hx := hs x List.mem_cons_self
    rw [impl_IsMemory.l0v_eq, if_pos (lt_mid pre suf x), if_pos (by omega), if_pos (lt_mid pre suf x), rdK_mid, inRange_f]
    simp only [Option.bind_some, areNumbers_v _ _ _ (show x.f1.length ≤ 1000000000000 by omega), inRange_f, impl_IsMemory.j1v_eq, if_true]
    obtain ⟨q, hq⟩ := seen_ex ((pre ++ x :: suf).take ((pre.length : Int)).toNat) x.f0 x.f2 x.f1 (by rw [List.length_take]; omega)
    rw [if_pos (show (0 : Int) ≤ (pre.length : Int) by omega), if_pos (show (pre.length : Int) ≤ ((pre ++ x :: suf).length : Int) by omega), hq, Option.bind_some, up_mid pre x hn (by omega)]
    have hi : ∃ r, impl_IsMemory.l0v (pre ++ x :: suf) t (pre ++ x :: suf) ((pre ++ x :: suf).length : Int) ((pre ++ [x]).length : Int) = some r ∧ (r = true → (pre ++ x :: suf).length ≤ 6) := by
      rw [mid_snoc pre suf x] at hl ⊢
      exact ih (pre ++ [x]) hl (fun y h => hs y (List.mem_cons_of_mem _ h))
    have hf : ∃ r, some false = some r ∧ (r = true → (pre ++ x :: suf).length ≤ 6) := ⟨false, rfl, fun h => by cases h⟩
    split
    · split
      · exact hf
      · split
        · split
          · exact hf
          · split
            · exact hf
            · exact hi
        · exact hf
    · exact hf
theorem isMem_ex (l : List S61) (t : Int) (hl : l.length ≤ 1000000) (hs : OkK l) : ∃ r, impl_IsMemory.fv l t = some r ∧ (r = true → l.length ≤ 6) := by
  rw [impl_IsMemory.fv_eq]
  simpa using isMem_l0 t l [] (by simpa using hl) hs
theorem same_l0 (a b : Int) (x : List Int) (suf : List S61) : ∀ (pre : List S61), (pre ++ suf).length ≤ 1000000 → OkK suf → ∃ r, slices_IndexFunc_impl_Known_impl_Known_with_impl_CountStates_1.l0v (pre ++ suf) ((pre ++ suf).length : Int) (pre.length : Int) a x b = some r := by
  induction suf with
  | nil =>
    intro pre hl hs
    rw [slices_IndexFunc_impl_Known_impl_Known_with_impl_CountStates_1.l0v_eq, if_neg (nlt_end pre)]
    exact ⟨_, rfl⟩
  | cons y suf ih =>
    intro pre hl hs
    have hn : pre.length < (pre ++ y :: suf).length := by simp
    have hy := hs y List.mem_cons_self
    rw [slices_IndexFunc_impl_Known_impl_Known_with_impl_CountStates_1.l0v_eq, if_pos (lt_mid pre suf y), if_pos (by omega), if_pos (lt_mid pre suf y), rdK_mid, up_mid pre y hn (by omega), impl_CountStates_1.fv_eq, slicesEqual_v y.f1 x (by omega)]
    simp only [Option.bind_some]
    split
    · exact ⟨_, rfl⟩
    · rw [mid_snoc pre suf y] at hl ⊢
      exact ih (pre ++ [y]) hl (fun y h => hs y (List.mem_cons_of_mem _ h))
theorem same_ex (l : List S61) (a b : Int) (x : List Int) (hl : l.length ≤ 1000000) (hs : OkK l) : ∃ r, slices_ContainsFunc_impl_Known_impl_Known_with_impl_CountStates_1.fv l a x b = some r := by
  obtain ⟨r, h⟩ := same_l0 a b x l [] (by simpa using hl) hs
  simp only [List.nil_append, List.length_nil, Int.natCast_zero] at h
  rw [slices_ContainsFunc_impl_Known_impl_Known_with_impl_CountStates_1.fv_eq, slices_IndexFunc_impl_Known_impl_Known_with_impl_CountStates_1.fv_eq, h]
  exact ⟨_, rfl⟩
theorem count_l0 (suf : List S61) : ∀ (pre : List S61) (n : Int), (pre ++ suf).length ≤ 1000000 → OkK (pre ++ suf) → 0 ≤ n → n ≤ pre.length → ∃ r, impl_CountStates.l0v (pre ++ suf) n (pre ++ suf) ((pre ++ suf).length : Int) (pre.length : Int) = some r ∧ r ≤ (pre ++ suf).length := by
  induction suf with
  | nil =>
    intro pre n hl hs h0 h1
    rw [impl_CountStates.l0v_eq, if_neg (nlt_end pre)]
    exact ⟨_, rfl, by simpa using h1⟩
  | cons x suf ih =>
    intro pre n hl hs h0 h1
    have hn : pre.length < (pre ++ x :: suf).length := by simp
    rw [impl_CountStates.l0v_eq, if_pos (lt_mid pre suf x), if_pos (by omega), if_pos (lt_mid pre suf x), if_pos (by omega), up_mid pre x hn (by omega)]
    obtain ⟨q, hq⟩ := same_ex ((pre ++ x :: suf).take ((pre.length : Int)).toNat) (rd_T61 (pre ++ x :: suf) (pre.length : Int)).f0 (rd_T61 (pre ++ x :: suf) (pre.length : Int)).f2 (rd_T61 (pre ++ x :: suf) (pre.length : Int)).f1 (by rw [List.length_take]; omega) (fun y hy => hs y (List.mem_of_mem_take hy))
    rw [hq, Option.bind_some, w64 (x := n + 1) (by omega) (by omega)]
    rw [mid_snoc pre suf x] at hl hs ⊢
    split
    · exact ih (pre ++ [x]) n hl hs h0 (by simp; omega)
    · exact ih (pre ++ [x]) (n + 1) hl hs (by omega) (by simp; omega)
theorem count_ex (l : List S61) (hl : l.length ≤ 1000000) (hs : OkK l) : ∃ r, impl_CountStates.fv l = some r ∧ r ≤ l.length := by
  rw [impl_CountStates.fv_eq]
  simpa using count_l0 l [] 0 (by simpa using hl) (by simpa using hs) (by decide) (by simp)
end Go.Proofs.Ytlcpaebidnaolaa.Plain

/- FnMemory: whatever the bytes that the law draws from, what is remembered is recalled for a while, and there are no more states than classes. No condition. -/
set_option linter.unusedSimpArgs false
set_option linter.unusedVariables false
namespace Go.Proofs.Ytlcpaebidnaolaa.Pure
open Go.RowKit Go.Proofs.YtlcpaebidnaolaaW.PrintWords Go.Proofs.Ytlcpaebidnaolaa.Base Go.Proofs.Ytlcpaebidnaolaa.Print Go.Proofs.Ytlcpaebidnaolaa.Plain

section
variable (l : List Int) (hl : l.length ≤ 1000000000000)
include hl
theorem drawF : ∃ m t, spec_DrawForgetOld.fv l = some (m, t) ∧ MemOk m := by
  obtain ⟨r, en, hn⟩ := l1New_ex l hl
  obtain ⟨m, p1, r1, e1, h1, hm⟩ := l23Any_ex l 0 r hn
  obtain ⟨k, p2, r2, e2, h2, _, _⟩ := l1Below_ex l p1 r1 7 h1 (by decide)
  obtain ⟨t, p3, r3, e3, h3, _⟩ := l1Int_ex l p2 r2 [0, 20, 30, 40, 60, 100000, 100001, (-1)] h2 (by simp)
  refine ⟨m, t, ?_, hm⟩
  rw [spec_DrawForgetOld.fv_eq, spec_DrawRecall.fv_eq, en]
  simp only [Option.bind_some, e1, e2, e3]
theorem drawM : ∃ m t, spec_DrawIsMemory.fv l = some (m, t) ∧ MemOk m := by
  obtain ⟨r, en, hn⟩ := l1New_ex l hl
  obtain ⟨m, p1, r1, e1, h1, hm⟩ := l23Any_ex l 0 r hn
  obtain ⟨t, p3, r3, e3, h3, _⟩ := l1Int_ex l p1 r1 [40, 40, 60, 5, (-1)] h1 (by simp)
  refine ⟨m, t, ?_, hm⟩
  rw [spec_DrawIsMemory.fv_eq, en]
  simp only [Option.bind_some, e1, e3]
theorem drawR : ∃ m c lost t, spec_DrawRemember.fv l = some (m, c, lost, t) ∧ MemOk m ∧ lost.length ≤ 5 ∧ t ≤ 50 ∧ -1 ≤ t := by
  obtain ⟨r, en, hn⟩ := l1New_ex l hl
  obtain ⟨m, p1, r1, e1, h1, hm⟩ := l23Any_ex l 0 r hn
  obtain ⟨k, p2, r2, e2, h2, _, _⟩ := l1Below_ex l p1 r1 8 h1 (by decide)
  obtain ⟨x, p3, r3, e3, h3, hx⟩ := l17Tags_ex l p2 r2 h2
  obtain ⟨t, p4, r4, e4, h4, ht⟩ := l1Int_ex l p3 r3 [0, 5, 50, (-1)] h3 (by simp)
  have ht2 : t ≤ 50 ∧ -1 ≤ t := by
    simp only [List.mem_cons, List.not_mem_nil, or_false] at ht
    omega
  refine ⟨m, wrap64 (k - 1), x, t, ?_, hm, hx, ht2⟩
  rw [spec_DrawRemember.fv_eq, en]
  simp only [Option.bind_some, e1, e2, e3, e4]
/-- Behind the loop over the classes. -/
theorem m_l0 (m : List S61) (t : Int) (hm : MemOk m) (n : Nat) : ∀ k : Nat, k + n = 6 → laws_FnMemory.l0v l m t (forget m t) (k : Int) = some true := by
  have ho := memOk_ok hm
  have hf := forget_len m t
  induction n with
  | zero =>
    intro k hk
    obtain ⟨x, s, e, hx⟩ := drawM l hl
    have hx2 := memOk_ok hx
    obtain ⟨q, eq, hq⟩ := isMem_ex x s hx2.1 hx2.2
    obtain ⟨c, ec, hc⟩ := count_ex x hx2.1 hx2.2
    rw [laws_FnMemory.l0v_eq, if_neg (by omega), e, Option.bind_some, if_pos (by omega), eq, Option.bind_some, ec]
    cases q with
    | false => simp
    | true =>
      have := hq rfl
      rw [if_pos rfl]
      simp only [Option.bind_some, Option.some.injEq, decide_eq_true_eq]
      omega
  | succ n ih =>
    intro k hk
    rw [laws_FnMemory.l0v_eq, if_pos (by omega), implRecall_v _ _ _ (by omega) (okK_forget ho.2 t), implRecall_v _ _ _ ho.1 ho.2, recall_forget]
    simp only [Option.bind_some, implEqInts_v _ _ (recall_ok ho.2 k t), decide_true, if_true]
    rw [w64 (by omega) (by omega), show (k : Int) + 1 = ((k + 1 : Nat) : Int) by omega]
    exact ih (k + 1) (by omega)
theorem m_j1 : laws_FnMemory.j1v l = some true := by
  obtain ⟨m, t, e, hm⟩ := drawF l hl
  have ho := memOk_ok hm
  have h := m_l0 l hl m t hm 6 0 (by omega)
  rw [laws_FnMemory.j1v_eq, e, Option.bind_some, implForget_v _ _ ho.1 ho.2, Option.bind_some]
  exact h
theorem m_j0 (m : List S61) (c : Int) (lost : List Int) (t : Int) (b : Bool) (hm : MemOk m) (hx : lost.length ≤ 5) (ht : t ≤ 50) (hb : b = true → goodK c t = true) : laws_FnMemory.j0v l m c lost t (remember m c lost t) b = some true := by
  have h1 := m_j1 l hl
  cases b with
  | false => rw [laws_FnMemory.j0v_eq, if_neg (by simp), h1]
  | true =>
    have hg := hb rfl
    have ho := memOk_ok hm
    have hk : OkK (remember m c lost t) := okK_remember ho.2 c lost t (by omega)
    have hr := remember_len m c lost t
    have hm6 := hm.1
    have h0 : 0 ≤ t := by
      simp only [goodK, Bool.and_eq_true, decide_eq_true_eq] at hg
      exact hg.2
    have i1 : (inR 0 100000 t && inR (t - 20) t t) = true := by
      simp only [Bool.and_eq_true, inR_true]
      omega
    have i2 : (inR 0 100000 (t + 20) && inR (t + 20 - 20) (t + 20) t) = true := by
      simp only [Bool.and_eq_true, inR_true]
      omega
    have i3 : (inR 0 100000 (t + 20 + 1) && inR (t + 20 + 1 - 20) (t + 20 + 1) t) = false := by
      simp only [Bool.and_eq_false_iff, inR_false]
      omega
    have r1 := implRecall_v (remember m c lost t) c t (by omega) hk
    have r2 := implRecall_v (remember m c lost t) c (t + 20) (by omega) hk
    have r3 := implRecall_v (remember m c lost t) c (t + 20 + 1) (by omega) hk
    rw [recall_remember _ _ _ _ _ hg, i1, if_pos rfl] at r1
    rw [recall_remember _ _ _ _ _ hg, i2, if_pos rfl] at r2
    rw [recall_remember _ _ _ _ _ hg, i3, if_neg Bool.false_ne_true] at r3
    have q := implEqInts_v lost lost (by omega)
    rw [decide_eq_true rfl] at q
    have z : (((remember m c lost t).length : Int) > wrap64 ((m.length : Int) + 1)) = False := by
      rw [w64 (by omega) (by omega)]
      exact eq_false (by omega)
    rw [laws_FnMemory.j0v_eq, if_pos rfl, w64 (x := t + 20) (by omega) (by omega), w64 (x := t + 20 + 1) (by omega) (by omega), r1, Option.bind_some, q, Option.bind_some, if_pos rfl, r2, Option.bind_some, q, Option.bind_some, if_pos rfl, r3, Option.bind_some, if_neg (by simp), if_neg (by rw [z]; exact not_false)]
    exact h1
end

theorem FnMemory : laws_FnMemory.Pure := by
  intro l _ _ _
  refine ends (g := fun k => laws_FnMemory.f k l) ?_
  show laws_FnMemory.fv l = some true
  rw [laws_FnMemory.fv_eq]
  unfold laws_big.f
  simp only [Option.bind_some, decide_eq_true_eq]
  split
  · rfl
  · have hl : l.length ≤ 1000000000000 := by omega
    obtain ⟨m, c, lost, t, e, hm, hx, ht, ht1⟩ := drawR l hl
    have ho := memOk_ok hm
    have hm6 := hm.1
    rw [e, Option.bind_some]
    dsimp only
    rw [implRemember_v _ _ _ _ (by omega) ho.2 (by omega), Option.bind_some]
    have h := fun b hb => m_j0 l hl m c lost t b hm hx ht hb
    split
    · split
      · refine h _ fun hd => ?_
        simp only [decide_eq_true_eq] at hd
        simp only [goodK, Bool.and_eq_true, inR_true, decide_eq_true_eq]
        omega
      · exact h _ fun hd => by cases hd
    · exact h _ fun hd => by cases hd
end Go.Proofs.Ytlcpaebidnaolaa.Pure
