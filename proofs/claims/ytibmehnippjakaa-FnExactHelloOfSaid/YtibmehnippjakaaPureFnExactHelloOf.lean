/- FnExactHelloOf: whatever the endpoint and the seed, the program's HelloOf and the reference's HelloOf return the same, leave the endpoint as it was, and the result shares no memory. No condition. -/
import Derived.Test.YtibmehnippjakaaLimsFnExactHelloOf
import Derived.Test.YtibmehnippjakaaPrint1
import Derived.Test.YtibmehnippjakaaPrint5
import Derived.Test.YtibmehnippjakaaPrint7
import Derived.Test.YtibmehnippjakaaPrint2
import Derived.Test.YtibmehnippjakaaPrint0
import Derived.Test.YtibmehnippjakaaPrint10
import Derived.Test.YtibmehnippjakaaShapes
/- Lists read by a whole number's index, and whole numbers that fit. No condition. -/
set_option linter.unusedSimpArgs false
set_option linter.unusedVariables false
namespace Go.Proofs.Ytibmehnippjakaa.Plain
open Go.RowKit Go.Proofs.YtibmehnippjakaaW.PrintWords

theorem w64 {x : Int} (h0 : -9223372036854775808 ≤ x) (h1 : x ≤ 9223372036854775807) : wrap64 x = x := by
  unfold wrap64
  omega
theorem rd_mid (pre suf : List Int) (x : Int) : rd (pre ++ x :: suf) (pre.length : Int) = x := by simp [rd]
theorem lt_mid {α : Type} (pre suf : List α) (x : α) : (pre.length : Int) < ((pre ++ x :: suf).length : Int) := by
  simp
  omega
theorem nlt_end {α : Type} (pre : List α) : ¬ (pre.length : Int) < ((pre ++ []).length : Int) := by simp
theorem up_mid {α : Type} (pre : List α) (x : α) {n : Nat} (h : pre.length < n) (hn : n ≤ 1000000000000) : wrap64 ((pre.length : Int) + 1) = ((pre ++ [x]).length : Int) := by
  rw [w64 (by omega) (by omega)]
  simp
theorem set_mid {α : Type} (pre suf : List α) (x y : α) : (pre ++ x :: suf).set (pre.length : Int).toNat y = (pre ++ [y]) ++ suf := by
  rw [Int.toNat_natCast, List.set_append_right _ _ (Nat.le_refl _), Nat.sub_self]
  simp
theorem mid_snoc {α : Type} (pre suf : List α) (x : α) : pre ++ x :: suf = (pre ++ [x]) ++ suf := by simp
theorem beq_ints (a b : List Int) : (a == b) = decide (a = b) := by
  by_cases h : a = b <;> simp [h]
end Go.Proofs.Ytibmehnippjakaa.Plain

/- Ranges, of the program and of the reference. No condition. -/
set_option linter.unusedSimpArgs false
set_option linter.unusedVariables false
namespace Go.Proofs.Ytibmehnippjakaa.Plain
open Go.RowKit Go.Proofs.YtibmehnippjakaaW.PrintWords Go.Proofs.Ytibmehnippjakaa.Base Go.Proofs.Ytibmehnippjakaa.Print

/-- lo ≤ n ≤ hi -/
def inR (lo hi n : Int) : Bool := decide (lo ≤ n) && decide (n ≤ hi)
theorem inR_true {lo hi n : Int} : inR lo hi n = true ↔ lo ≤ n ∧ n ≤ hi := by simp [inR]
theorem inR_false {lo hi n : Int} : inR lo hi n = false ↔ n < lo ∨ hi < n := by
  simp only [inR, Bool.and_eq_false_iff, decide_eq_false_iff_not]
  omega
theorem inRange_f (n lo hi : Int) : impl_InRange.f n lo hi = some (inR lo hi n) := by
  unfold impl_InRange.f inR
  by_cases h : lo ≤ n <;> simp [h]
theorem l1In_f (n lo hi : Int) : spec_l1In.f n lo hi = some (inR lo hi n) := by
  unfold spec_l1In.f inR
  by_cases h : lo ≤ n <;> simp [h]
end Go.Proofs.Ytibmehnippjakaa.Plain

/- Mod, Hash, PickOf and GreaseTag: the program's and the reference's go one way. Condition: a modulus from 1 to 10 to the 12. -/
set_option linter.unusedSimpArgs false
set_option linter.unusedVariables false
namespace Go.Proofs.Ytibmehnippjakaa.Plain
open Go.RowKit Go.Proofs.YtibmehnippjakaaW.PrintWords Go.Proofs.Ytibmehnippjakaa.Base Go.Proofs.Ytibmehnippjakaa.Print

theorem modB (a m : Int) (h1 : 1 ≤ m) (h2 : m ≤ 1000000000000) : ∃ r, impl_Mod.f a m = some r ∧ spec_Mod.f a m = some r ∧ 0 ≤ r ∧ r < m := by
  unfold impl_Mod.f spec_Mod.f
  rw [inRange_f, l1In_f, inR_true.mpr ⟨h1, h2⟩]
  simp only [Option.bind_some, if_true]
  rw [if_neg (by omega)]
  have a1 := Int.tmod_lt_of_pos a (show 0 < m by omega)
  have a2 : -m < Int.tmod a m := by
    have := Int.tmod_lt_of_pos (-a) (show 0 < m by omega)
    rw [Int.neg_tmod] at this
    omega
  rw [w64 (by omega) (by omega)]
  exact ⟨_, rfl, rfl, Int.tmod_nonneg _ (by omega), Int.tmod_lt_of_pos _ (by omega)⟩
theorem hashB (suf : List Int) : ∀ (pre : List Int) (h : Int), (pre ++ suf).length ≤ 1000000000000 → ∃ r, impl_Hash.l0v h (pre ++ suf) ((pre ++ suf).length : Int) (pre.length : Int) = some r ∧ spec_Hash.l0v (pre ++ suf) h (pre.length : Int) = some r := by
  induction suf with
  | nil =>
    intro pre h _
    rw [impl_Hash.l0v_eq, if_neg (nlt_end pre), spec_Hash.l0v_eq, if_neg (nlt_end pre)]
    exact ⟨_, rfl, rfl⟩
  | cons x suf ih =>
    intro pre h hl
    have hn : pre.length < (pre ++ x :: suf).length := by simp
    obtain ⟨r, e, e2, _⟩ := modB x 2147483647 (by decide) (by decide)
    rw [impl_Hash.l0v_eq, if_pos (lt_mid pre suf x), if_pos (by omega), if_pos (lt_mid pre suf x), rd_mid, e, up_mid pre x hn hl]
    rw [spec_Hash.l0v_eq, if_pos (lt_mid pre suf x), if_pos (by omega), rd_mid, e2, up_mid pre x hn hl]
    simp only [Option.bind_some]
    rw [mid_snoc pre suf x] at hl ⊢
    exact ih (pre ++ [x]) _ hl
theorem pickB (s p n : Int) (h1 : 1 ≤ n) (h2 : n ≤ 1000000000000) : ∃ r, impl_PickOf.fv s p n = some r ∧ spec_PickOf.fv s p n = some r ∧ 0 ≤ r ∧ r < n := by
  obtain ⟨h, e, e2⟩ := hashB [s, p] [] 11 (by simp)
  obtain ⟨r, e3, e4, r0, r1⟩ := modB h n h1 h2
  simp only [List.nil_append, List.length_nil, Int.natCast_zero] at e e2
  refine ⟨r, ?_, ?_, r0, r1⟩
  · rw [impl_PickOf.fv_eq, if_neg (by omega), impl_Hash.fv_eq, e]
    simp only [Option.bind_some, e3]
  · rw [spec_PickOf.fv_eq, if_neg (by omega), spec_Hash.fv_eq, e2]
    simp only [Option.bind_some, e4]
theorem tagB (s : Int) : ∃ t, impl_GreaseTag.fv s = some t ∧ spec_GreaseTag.fv s = some t := by
  obtain ⟨r, e, e2, r0, r1⟩ := pickB s 0 16 (by decide) (by decide)
  refine ⟨wrap64 (wrap64 (16 * r) + 10), ?_, ?_⟩
  · rw [impl_GreaseTag.fv_eq, e]
    rfl
  · rw [spec_GreaseTag.fv_eq, e2]
    rfl
end Go.Proofs.Ytibmehnippjakaa.Plain

/- Lists of versions: ascending, from 1 to 9; membership; what two lists share. No program. No condition. -/
set_option linter.unusedSimpArgs false
set_option linter.unusedVariables false
namespace Go.Proofs.Ytibmehnippjakaa.Plain
open Go.RowKit Go.Proofs.YtibmehnippjakaaW.PrintWords Go.Proofs.Ytibmehnippjakaa.Base Go.Proofs.Ytibmehnippjakaa.Print

/-- Versions that grow, all above p. -/
def vers : Int → List Int → Bool
  | _, [] => true
  | p, x :: l => inR 1 9 x && (decide (p < x) && vers x l)
/-- A list of versions, and not empty. -/
def areV (l : List Int) : Bool := vers 0 l && decide (0 < l.length)
/-- Is x in the list? -/
def mem (l : List Int) (x : Int) : Bool := decide (x ∈ l)
/-- What two lists share. -/
def com (a b : List Int) : List Int := a.filter (mem b)
/-- The best version that two lists share. -/
def best (a b : List Int) : Int := if areV a && areV b then (com a b).getLastD 0 else 0
theorem mem_cons (x y : Int) (l : List Int) : mem (y :: l) x = (decide (y = x) || mem l x) := by
  by_cases h : y = x
  · simp [mem, h]
  · have h' : ¬ x = y := fun e => h e.symm
    simp [mem, h, h']
theorem mem_nil (x : Int) : mem [] x = false := by simp [mem]
theorem vers_le {p q : Int} {l : List Int} (h : vers p l = true) (hq : q ≤ p) : vers q l = true := by
  cases l with
  | nil => rfl
  | cons x l =>
    simp only [vers, Bool.and_eq_true, decide_eq_true_eq] at h ⊢
    exact ⟨h.1, by omega, h.2.2⟩
theorem vers_filter (f : Int → Bool) {l : List Int} : ∀ {p : Int}, vers p l = true → vers p (l.filter f) = true := by
  induction l with
  | nil =>
    intro p h
    rfl
  | cons x l ih =>
    intro p h
    simp only [vers, Bool.and_eq_true, decide_eq_true_eq] at h
    cases hf : f x with
    | true =>
      rw [List.filter_cons_of_pos hf]
      simp only [vers, Bool.and_eq_true, decide_eq_true_eq]
      exact ⟨h.1, h.2.1, ih h.2.2⟩
    | false =>
      rw [List.filter_cons_of_neg (by simp [hf])]
      exact vers_le (ih h.2.2) (by omega)
theorem vers_len {l : List Int} : ∀ {p : Int}, vers p l = true → p ≤ 9 → (l.length : Int) ≤ 9 - p := by
  induction l with
  | nil =>
    intro p _ hp
    simp
    omega
  | cons x l ih =>
    intro p h hp
    simp only [vers, Bool.and_eq_true, decide_eq_true_eq, inR_true] at h
    have := ih h.2.2 (by omega)
    simp only [List.length_cons]
    omega
theorem areV_len {l : List Int} (h : areV l = true) : l.length ≤ 9 := by
  simp only [areV, Bool.and_eq_true] at h
  have := vers_len h.1 (by omega)
  omega
theorem vers_mem {l : List Int} : ∀ {p : Int}, vers p l = true → ∀ x ∈ l, 1 ≤ x ∧ x ≤ 9 ∧ p < x := by
  induction l with
  | nil =>
    intro p _ x hx
    cases hx
  | cons y l ih =>
    intro p h x hx
    simp only [vers, Bool.and_eq_true, decide_eq_true_eq, inR_true] at h
    cases hx with
    | head => omega
    | tail _ hx =>
      have := ih h.2.2 x hx
      omega
theorem areV_mem {l : List Int} (h : areV l = true) : ∀ x ∈ l, 1 ≤ x ∧ x ≤ 9 := by
  simp only [areV, Bool.and_eq_true] at h
  intro x hx
  have := vers_mem h.1 x hx
  omega
theorem com_len (a b : List Int) : (com a b).length ≤ a.length := List.length_filter_le _ _
theorem lastD_cons (x : Int) (l : List Int) (d : Int) : (x :: l).getLastD d = l.getLastD x := by
  cases l <;> rfl
theorem rd_lastD (pre suf : List Int) (h : pre ≠ []) : rd (pre ++ suf) ((pre.length : Int) - 1) = pre.getLastD 0 := by
  have hl : 0 < pre.length := List.length_pos_iff.mpr h
  have e : ((pre.length : Int) - 1).toNat = pre.length - 1 := by omega
  have h1 : pre.length - 1 < pre.length := by omega
  simp [rd, e, List.getD_eq_getElem?_getD, List.getElem?_append_left h1, List.getLastD_eq_getLast?, List.getLast?_eq_getElem?]
theorem lastD_mem (l : List Int) (h : l ≠ []) (d : Int) : l.getLastD d ∈ l := by
  cases l with
  | nil => exact absurd rfl h
  | cons x l => exact List.getLast_mem _
end Go.Proofs.Ytibmehnippjakaa.Plain

/- Extensions and hellos in form. No program. No condition. -/
set_option linter.unusedSimpArgs false
set_option linter.unusedVariables false
namespace Go.Proofs.Ytibmehnippjakaa.Plain
open Go.RowKit Go.Proofs.YtibmehnippjakaaW.PrintWords Go.Proofs.Ytibmehnippjakaa.Base Go.Proofs.Ytibmehnippjakaa.Print

theorem rdExt_mid (pre suf : List S44) (x : S44) : rd_T44 (pre ++ x :: suf) (pre.length : Int) = x := by simp [rd_T44]
def hasT (l : List S44) (t : Int) : Bool := l.any (fun y => decide (y.f0 = t))
/-- Are these extensions in form, behind others? -/
def areX : List S44 → List S44 → Bool
  | _, [] => true
  | pre, x :: l => inR 0 255 x.f0 && (!hasT pre x.f0 && (decide (x.f1.length ≤ 4) && (x.f1.all (inR 0 255) && areX (pre ++ [x]) l)))
def isX (l : List S44) : Bool := areX [] l && decide (l.length ≤ 6)
def isH (v : List Int) (l : List S44) : Bool := areV v && isX l
/-- Its bodies are not too long. -/
def okXs (l : List S44) : Prop := ∀ x ∈ l, x.f1.length ≤ 1000000000000
theorem areX_body {l : List S44} : ∀ {pre}, areX pre l = true → ∀ x ∈ l, x.f1.length ≤ 4 := by
  induction l with
  | nil =>
    intro pre _ x hx
    cases hx
  | cons y l ih =>
    intro pre h x hx
    simp only [areX, Bool.and_eq_true, decide_eq_true_eq] at h
    cases hx with
    | head => exact h.2.2.1
    | tail _ hx => exact ih h.2.2.2.2 x hx
end Go.Proofs.Ytibmehnippjakaa.Plain

/- Copies of extensions, of the program and of the reference. Condition: at most 10 to the 12 of each. -/
set_option linter.unusedSimpArgs false
set_option linter.unusedVariables false
namespace Go.Proofs.Ytibmehnippjakaa.Plain
open Go.RowKit Go.Proofs.YtibmehnippjakaaW.PrintWords Go.Proofs.Ytibmehnippjakaa.Base Go.Proofs.Ytibmehnippjakaa.Print

theorem copyI_l0 (suf : List S44) : ∀ (pre : List S44), (pre ++ suf).length ≤ 1000000000000 → okXs suf →
    impl_keptExts_with_impl_copyExts_1.l0v pre (pre ++ suf) ((pre ++ suf).length : Int) (pre.length : Int) = some (pre ++ suf) := by
  induction suf with
  | nil =>
    intro pre _ _
    rw [impl_keptExts_with_impl_copyExts_1.l0v_eq, if_neg (nlt_end pre), List.append_nil]
  | cons x suf ih =>
    intro pre hl hs
    have hn : pre.length < (pre ++ x :: suf).length := by simp
    have hx := hs x List.mem_cons_self
    rw [impl_keptExts_with_impl_copyExts_1.l0v_eq, if_pos (lt_mid pre suf x), if_pos (by omega), if_pos (lt_mid pre suf x), rdExt_mid, up_mid pre x hn hl]
    unfold impl_copyExts_1.f
    simp only [Option.bind_some, if_true, List.length_nil, Nat.zero_add, List.nil_append]
    rw [if_pos (by omega), if_pos (by omega)]
    rw [mid_snoc pre suf x] at hl ⊢
    exact ih (pre ++ [x]) hl (fun y hy => hs y (List.mem_cons_of_mem _ hy))
theorem copyI_v (l : List S44) (hl : l.length ≤ 1000000000000) (hs : okXs l) : impl_copyExts.fv l = some l := by
  have h := copyI_l0 l [] (by simpa using hl) hs
  simp only [List.nil_append, List.length_nil, Int.natCast_zero] at h
  rw [impl_copyExts.fv_eq, impl_keptExts_with_impl_copyExts_1.fv_eq, h]
  rfl
theorem tagsS_l0 (suf : List S44) : ∀ (pre : List S44), (pre ++ suf).length ≤ 1000000000000 →
    spec_TagsOf.l0v (pre ++ suf) (pre.map (·.f0)) (pre.length : Int) = some ((pre ++ suf).map (·.f0)) := by
  induction suf with
  | nil =>
    intro pre _
    rw [spec_TagsOf.l0v_eq, if_neg (nlt_end pre), List.append_nil]
  | cons x suf ih =>
    intro pre hl
    have hn : pre.length < (pre ++ x :: suf).length := by simp
    have hp : (pre.map (·.f0)).length < 17592186044416 := by rw [List.length_map]; omega
    rw [spec_TagsOf.l0v_eq, if_pos (lt_mid pre suf x), if_pos (by omega), if_pos hp, rdExt_mid, up_mid pre x hn hl]
    rw [mid_snoc pre suf x] at hl ⊢
    have h := ih (pre ++ [x]) hl
    simpa using h
theorem tagsS_v (l : List S44) (hl : l.length ≤ 1000000000000) : spec_TagsOf.fv l = some (l.map (·.f0)) := by
  rw [spec_TagsOf.fv_eq]
  simpa using tagsS_l0 l [] (by simpa using hl)
theorem hasS_l0 (n : Int) (suf : List Int) : ∀ (pre : List Int), (pre ++ suf).length ≤ 1000000000000 → n ∈ suf → spec_l9Has.l0v (pre ++ suf) n (pre.length : Int) = some true := by
  induction suf with
  | nil =>
    intro pre _ h
    cases h
  | cons x suf ih =>
    intro pre hl h
    have hn : pre.length < (pre ++ x :: suf).length := by simp
    rw [spec_l9Has.l0v_eq, if_pos (lt_mid pre suf x), if_pos (by omega), rd_mid]
    by_cases hx : x = n
    · rw [if_pos hx]
    · rw [if_neg hx, up_mid pre x hn hl]
      rw [mid_snoc pre suf x] at hl ⊢
      exact ih (pre ++ [x]) hl ((List.mem_cons.1 h).resolve_left (fun e => hx e.symm))
theorem hasS_v (l : List Int) (n : Int) (hl : l.length ≤ 1000000000000) (h : n ∈ l) : spec_l9Has.fv l n = some true := by
  rw [spec_l9Has.fv_eq]
  exact hasS_l0 n l [] (by simpa using hl) h
theorem knownS_l0 (ts : List Int) (ht : ts.length ≤ 1000000000000) (suf : List S44) : ∀ (pre : List S44), (pre ++ suf).length ≤ 1000000000000 → okXs suf → (∀ x ∈ suf, x.f0 ∈ ts) →
    spec_KnownOf.l0v (pre ++ suf) ts pre (pre.length : Int) = some (pre ++ suf) := by
  induction suf with
  | nil =>
    intro pre _ _ _
    rw [spec_KnownOf.l0v_eq, if_neg (nlt_end pre), List.append_nil]
  | cons x suf ih =>
    intro pre hl hs hm
    have hn : pre.length < (pre ++ x :: suf).length := by simp
    have hx := hs x List.mem_cons_self
    rw [spec_KnownOf.l0v_eq, if_pos (lt_mid pre suf x), if_pos (by omega), rdExt_mid, up_mid pre x hn hl, hasS_v ts x.f0 ht (hm x List.mem_cons_self)]
    simp only [Option.bind_some, if_true, List.length_nil, Nat.zero_add, List.nil_append]
    rw [if_pos (by omega), if_pos (by omega)]
    rw [mid_snoc pre suf x] at hl ⊢
    exact ih (pre ++ [x]) hl (fun y hy => hs y (List.mem_cons_of_mem _ hy)) (fun y hy => hm y (List.mem_cons_of_mem _ hy))
theorem copyS_v (l : List S44) (hl : l.length ≤ 1000000000000) (hs : okXs l) : spec_l11Copy.fv l = some l := by
  have h := knownS_l0 (l.map (·.f0)) (by rw [List.length_map]; exact hl) l [] (by simpa using hl) hs (fun x hx => List.mem_map.2 ⟨x, hx, rfl⟩)
  simp only [List.nil_append, List.length_nil, Int.natCast_zero] at h
  rw [spec_l11Copy.fv_eq, tagsS_v l hl]
  simp only [Option.bind_some]
  rw [spec_KnownOf.fv_eq, h]
  rfl
end Go.Proofs.Ytibmehnippjakaa.Plain

/- When two boxes, and two paths, are the same. No program. No condition. -/
set_option linter.unusedSimpArgs false
set_option linter.unusedVariables false
namespace Go.Proofs.Ytibmehnippjakaa.Plain
open Go.RowKit Go.Proofs.YtibmehnippjakaaW.PrintWords Go.Proofs.Ytibmehnippjakaa.Base Go.Proofs.Ytibmehnippjakaa.Print

theorem rdBox_mid (pre suf : List S59) (x : S59) : rd_T59 (pre ++ x :: suf) (pre.length : Int) = x := by simp [rd_T59]
/-- Its rows are not too long. -/
def okB (b : S59) : Prop := b.f1.length ≤ 1000000000000 ∧ b.f2.length ≤ 1000000000000
def eqB (a b : S59) : Bool := decide (a.f0 = b.f0) && (decide (a.f1 = b.f1) && (decide (a.f2 = b.f2) && (a.f3 == b.f3)))
def eqBs : List S59 → List S59 → Bool
  | [], [] => true
  | a :: l, b :: m => eqB a b && eqBs l m
  | _, _ => false
theorem eqBs_len {l m : List S59} : l.length ≠ m.length → eqBs l m = false := by
  induction l generalizing m with
  | nil =>
    intro h
    cases m with
    | nil => exact absurd rfl h
    | cons b m => rfl
  | cons a l ih =>
    intro h
    cases m with
    | nil => rfl
    | cons b m =>
      simp only [eqBs]
      rw [ih (by simpa using h), Bool.and_false]
end Go.Proofs.Ytibmehnippjakaa.Plain

/- When a box, a list of tags and an endpoint are in form. No program. No condition. -/
set_option linter.unusedSimpArgs false
set_option linter.unusedVariables false
namespace Go.Proofs.Ytibmehnippjakaa.Plain
open Go.RowKit Go.Proofs.YtibmehnippjakaaW.PrintWords Go.Proofs.Ytibmehnippjakaa.Base Go.Proofs.Ytibmehnippjakaa.Print

def isB (b : S59) : Bool := inR 0 9 b.f0 && (decide (b.f1.length ≤ 6) && (decide (b.f2.length ≤ 6) && (b.f1.all (inR 0 255) && b.f2.all (inR 0 255))))
/-- Is a tag one of those that mean nothing? -/
def res (x : Int) : Bool := inR 0 255 x && (Int.tmod x 16 == 10)
/-- Is x above the one before it? -/
def above : Option Int → Int → Bool
  | none, _ => true
  | some p, x => decide (p < x)
def asc : Option Int → List Int → Bool
  | _, [] => true
  | o, x :: l => above o x && asc (some x) l
/-- The same with all that the reference asks of a tag. -/
def tagsS : Option Int → List Int → Bool
  | _, [] => true
  | o, x :: l => inR 0 255 x && (!res x && (above o x && tagsS (some x) l))
theorem tagsS_eq (l : List Int) : ∀ o, tagsS o l = ((asc o l && l.all (inR 0 255)) && !(l.any res)) := by
  induction l with
  | nil =>
    intro o
    rfl
  | cons x l ih =>
    intro o
    simp only [tagsS, asc, List.all_cons, List.any_cons, ih]
    cases inR 0 255 x <;> cases res x <;> cases above o x <;> cases asc (some x) l <;> cases l.all (inR 0 255) <;> cases l.any res <;> rfl
/-- Is an endpoint in form? -/
def isE (v t : List Int) (p : List S59) (c : Int) : Bool :=
  areV v && (decide (t.length ≤ 5) && ((asc none t && t.all (inR 0 255)) && (!(t.any res) && (decide (p.length ≤ 4) && (p.all isB && inR 0 5 c)))))
theorem lastO (pre suf : List Int) (h : pre ≠ []) : pre.getLast? = some (rd (pre ++ suf) ((pre.length : Int) - 1)) := by
  rw [rd_lastD pre suf h, List.getLast?_eq_some_getLast h]
  cases pre with
  | nil => exact absurd rfl h
  | cons x l => rfl
end Go.Proofs.Ytibmehnippjakaa.Plain

/- What a box does to a hello. No program. No condition. -/
set_option linter.unusedSimpArgs false
set_option linter.unusedVariables false
namespace Go.Proofs.Ytibmehnippjakaa.Plain
open Go.RowKit Go.Proofs.YtibmehnippjakaaW.PrintWords Go.Proofs.Ytibmehnippjakaa.Base Go.Proofs.Ytibmehnippjakaa.Print

/-- Does a box drop what has this tag? -/
def drops (b : S59) (t : Int) : Bool := mem b.f1 t || (b.f3 && (!mem b.f2 t && !inR 1 3 t))
/-- Does a box lose a hello? -/
def lose (b : S59) (v : List Int) (l : List S44) : Bool := (!decide (b.f0 = 0) && decide (v.getLastD 0 > b.f0)) || l.any (fun x => drops b x.f0)
/-- What a box leaves of the extensions. -/
def kept (b : S59) (l : List S44) : List S44 := l.filter (fun x => !mem b.f2 x.f0)
def pass (b : S59) (v : List Int) (l : List S44) : List Int × List S44 × Bool :=
  if isB b && (isH v l && !lose b v l) then (v, kept b l, true) else ([], [], false)
end Go.Proofs.Ytibmehnippjakaa.Plain

/- AreVersions, of the program. Condition: at most 10 to the 12 numbers. -/
set_option linter.unusedSimpArgs false
set_option linter.unusedVariables false
namespace Go.Proofs.Ytibmehnippjakaa.Plain
open Go.RowKit Go.Proofs.YtibmehnippjakaaW.PrintWords Go.Proofs.Ytibmehnippjakaa.Base Go.Proofs.Ytibmehnippjakaa.Print

theorem implVers_l0 (suf : List Int) : ∀ pre : List Int, (pre ++ suf).length ≤ 1000000000000 →
    impl_AreVersions.l0v (pre ++ suf) (pre ++ suf) ((pre ++ suf).length : Int) (pre.length : Int) = some (vers (pre.getLastD 0) suf && decide (0 < (pre ++ suf).length)) := by
  induction suf with
  | nil =>
    intro pre hl
    rw [impl_AreVersions.l0v_eq, if_neg (nlt_end pre)]
    by_cases h : 0 < pre.length <;> simp [vers, h]
  | cons x suf ih =>
    intro pre hl
    have hn : pre.length < (pre ++ x :: suf).length := by simp
    rw [impl_AreVersions.l0v_eq, if_pos (lt_mid pre suf x), if_pos (by omega), if_pos (lt_mid pre suf x), rd_mid, inRange_f]
    simp only [Option.bind_some, vers]
    cases hx : inR 1 9 x with
    | false => simp
    | true =>
      rw [if_pos rfl, up_mid pre x hn hl]
      have h1 := ih (pre ++ [x]) (by simpa using hl)
      rw [← mid_snoc pre suf x] at h1
      rw [h1]
      have hr := inR_true.mp hx
      by_cases hp : pre = []
      · subst hp
        rw [if_neg (by simp)]
        have h0 : (0 : Int) < x := by omega
        simp [h0]
      · have hpl : 0 < pre.length := List.length_pos_iff.mpr hp
        rw [if_pos (by omega), w64 (x := (pre.length : Int) - 1) (by omega) (by omega), if_pos (by omega), if_pos (by omega), rd_lastD pre _ hp]
        by_cases hlt : pre.getLastD 0 < x
        · rw [if_neg (by omega)]
          generalize pre.getLastD 0 = q at hlt
          simp [hlt]
        · rw [if_pos (by omega)]
          generalize pre.getLastD 0 = q at hlt
          simp [hlt]
theorem implVers_v (l : List Int) (hl : l.length ≤ 1000000000000) : impl_AreVersions.fv l = some (areV l) := by
  rw [impl_AreVersions.fv_eq]
  simpa [areV] using implVers_l0 l [] (by simpa using hl)
end Go.Proofs.Ytibmehnippjakaa.Plain

/- Lists of numbers in a range. Condition: the slice has at most 10 to the 12 numbers. -/
set_option linter.unusedSimpArgs false
set_option linter.unusedVariables false
namespace Go.Proofs.Ytibmehnippjakaa.Plain
open Go.RowKit Go.Proofs.YtibmehnippjakaaW.PrintWords Go.Proofs.Ytibmehnippjakaa.Base Go.Proofs.Ytibmehnippjakaa.Print

theorem areNumbers_l0 (lo hi : Int) (suf : List Int) : ∀ (pre : List Int), (pre ++ suf).length ≤ 1000000000000 →
    ∃ r, slices_IndexFunc_int_int_with_impl_areNumbers_1.l0v (pre ++ suf) ((pre ++ suf).length : Int) (pre.length : Int) lo hi = some r ∧ decide (r ≥ 0) = !(suf.all (inR lo hi)) := by
  induction suf with
  | nil =>
    intro pre _
    refine ⟨-1, ?_, by simp⟩
    rw [slices_IndexFunc_int_int_with_impl_areNumbers_1.l0v_eq, if_neg (nlt_end pre)]
  | cons x suf ih =>
    intro pre hl
    have hn : pre.length < (pre ++ x :: suf).length := by simp
    rw [slices_IndexFunc_int_int_with_impl_areNumbers_1.l0v_eq, if_pos (lt_mid pre suf x), if_pos (by omega), if_pos (lt_mid pre suf x), rd_mid]
    unfold impl_areNumbers_1.f
    rw [inRange_f]
    simp only [Option.bind_some]
    cases hx : inR lo hi x with
    | false =>
      refine ⟨(pre.length : Int), by simp, ?_⟩
      simp [hx]
    | true =>
      rw [up_mid pre x hn hl]
      simp only [Bool.not_true, Bool.false_eq_true, if_false]
      rw [mid_snoc pre suf x] at hl ⊢
      obtain ⟨r, h1, h2⟩ := ih (pre ++ [x]) hl
      exact ⟨r, h1, by rw [h2]; simp [hx]⟩

theorem areNumbers_v (l : List Int) (lo hi : Int) (hl : l.length ≤ 1000000000000) : impl_areNumbers.fv l lo hi = some (l.all (inR lo hi)) := by
  obtain ⟨r, h1, h2⟩ := areNumbers_l0 lo hi l [] (by simpa using hl)
  rw [impl_areNumbers.fv_eq, slices_ContainsFunc_int_int_with_impl_areNumbers_1.fv_eq, slices_IndexFunc_int_int_with_impl_areNumbers_1.fv_eq]
  simp only [List.nil_append, List.length_nil, Int.natCast_zero] at h1
  rw [h1]
  simp [h2]
end Go.Proofs.Ytibmehnippjakaa.Plain

/- ExtOf, AreExts and IsHello, of the program. Condition: at most 10 to the 12 of each. -/

set_option linter.unusedSimpArgs false
set_option linter.unusedVariables false
namespace Go.Proofs.Ytibmehnippjakaa.Plain
open Go.RowKit Go.Proofs.YtibmehnippjakaaW.PrintWords Go.Proofs.Ytibmehnippjakaa.Base Go.Proofs.Ytibmehnippjakaa.Print

theorem implExtOf_l0 (t : Int) (suf : List S44) : ∀ (pre : List S44), (pre ++ suf).length ≤ 1000000000000 →
    ∃ r, slices_IndexFunc_impl_Ext_impl_Ext_with_impl_ExtOf_1.l0v (pre ++ suf) ((pre ++ suf).length : Int) (pre.length : Int) t = some r ∧ decide (r ≥ 0) = hasT suf t := by
  induction suf with
  | nil =>
    intro pre _
    refine ⟨-1, ?_, by simp [hasT]⟩
    rw [slices_IndexFunc_impl_Ext_impl_Ext_with_impl_ExtOf_1.l0v_eq, if_neg (nlt_end pre)]
  | cons x suf ih =>
    intro pre hl
    have hn : pre.length < (pre ++ x :: suf).length := by simp
    rw [slices_IndexFunc_impl_Ext_impl_Ext_with_impl_ExtOf_1.l0v_eq, if_pos (lt_mid pre suf x), if_pos (by omega), if_pos (lt_mid pre suf x), rdExt_mid]
    unfold impl_ExtOf_1.f
    simp only [Option.bind_some, beq_iff_eq]
    by_cases hx : x.f0 = t
    · rw [if_pos hx]
      exact ⟨(pre.length : Int), rfl, by simp [hasT, hx]⟩
    · rw [if_neg hx, up_mid pre x hn hl]
      rw [mid_snoc pre suf x] at hl ⊢
      obtain ⟨r, h1, h2⟩ := ih (pre ++ [x]) hl
      exact ⟨r, h1, by rw [h2]; simp [hasT, hx]⟩
theorem implExtOf_ex (l : List S44) (t : Int) (hl : l.length ≤ 1000000000000) : ∃ r, impl_ExtOf.fv l t = some r ∧ decide (r ≥ 0) = hasT l t := by
  obtain ⟨r, h1, h2⟩ := implExtOf_l0 t l [] (by simpa using hl)
  refine ⟨r, ?_, h2⟩
  rw [impl_ExtOf.fv_eq, slices_IndexFunc_impl_Ext_impl_Ext_with_impl_ExtOf_1.fv_eq]
  simp only [List.nil_append, List.length_nil, Int.natCast_zero] at h1
  rw [h1]
  rfl
theorem implExts_l0 (suf : List S44) : ∀ (pre : List S44), (pre ++ suf).length ≤ 1000000000000 → okXs suf →
    impl_AreExts.l0v (pre ++ suf) (pre ++ suf) ((pre ++ suf).length : Int) (pre.length : Int) = some (areX pre suf && decide ((pre ++ suf).length ≤ 6)) := by
  induction suf with
  | nil =>
    intro pre _ _
    rw [impl_AreExts.l0v_eq, if_neg (nlt_end pre)]
    simp only [areX, Bool.true_and, show (((pre ++ []).length : Int) ≤ 6) ↔ ((pre ++ []).length ≤ 6) from by omega]
  | cons x suf ih =>
    intro pre hl hs
    have hn : pre.length < (pre ++ x :: suf).length := by simp
    have ht : (pre ++ x :: suf).take ((pre.length : Int)).toNat = pre := by simp
    obtain ⟨r, e1, e2⟩ := implExtOf_ex pre x.f0 (by omega)
    have h1 := ih (pre ++ [x]) (by simpa using hl) (fun y hy => hs y (List.mem_cons_of_mem _ hy))
    rw [← mid_snoc pre suf x] at h1
    rw [impl_AreExts.l0v_eq, if_pos (lt_mid pre suf x), if_pos (by omega), if_pos (lt_mid pre suf x), rdExt_mid, inRange_f, ht, e1, areNumbers_v _ _ _ (hs x List.mem_cons_self), up_mid pre x hn hl, h1]
    simp only [Option.bind_some, areX]
    rw [← e2]
    generalize areX (pre ++ [x]) suf = z
    generalize decide ((pre ++ x :: suf).length ≤ 6) = q
    generalize x.f1.all (inR 0 255) = y
    cases inR 0 255 x.f0 with
    | false => simp
    | true =>
      rw [if_pos rfl, if_pos (by omega)]
      by_cases h2 : r ≥ 0
      · simp [h2]
      · by_cases h3 : x.f1.length ≤ 4
        · rw [if_neg h2, if_neg (by omega)]
          cases y <;> simp [h2, h3]
        · rw [if_neg h2, if_pos (by omega)]
          simp [h3]
theorem implExts_v (l : List S44) (hl : l.length ≤ 1000000000000) (hs : okXs l) : impl_AreExts.fv l = some (isX l) := by
  rw [impl_AreExts.fv_eq]
  simpa [isX] using implExts_l0 l [] (by simpa using hl) hs
end Go.Proofs.Ytibmehnippjakaa.Plain

/- AreVersions, of the reference. Condition: at most 10 to the 12 numbers. -/
set_option linter.unusedSimpArgs false
set_option linter.unusedVariables false
namespace Go.Proofs.Ytibmehnippjakaa.Plain
open Go.RowKit Go.Proofs.YtibmehnippjakaaW.PrintWords Go.Proofs.Ytibmehnippjakaa.Base Go.Proofs.Ytibmehnippjakaa.Print

theorem specVers_l0 (suf : List Int) : ∀ pre : List Int, (pre ++ suf).length ≤ 1000000000000 →
    spec_AreVersions.l0v (pre ++ suf) (pre.length : Int) = some (vers (pre.getLastD 0) suf && decide (0 < (pre ++ suf).length)) := by
  induction suf with
  | nil =>
    intro pre hl
    rw [spec_AreVersions.l0v_eq, if_neg (nlt_end pre)]
    by_cases h : 0 < pre.length <;> simp [vers, h]
  | cons x suf ih =>
    intro pre hl
    have hn : pre.length < (pre ++ x :: suf).length := by simp
    rw [spec_AreVersions.l0v_eq, if_pos (lt_mid pre suf x), if_pos (by omega), rd_mid, l1In_f]
    simp only [Option.bind_some, vers]
    cases hx : inR 1 9 x with
    | false => simp
    | true =>
      rw [if_pos rfl, up_mid pre x hn hl]
      have h1 := ih (pre ++ [x]) (by simpa using hl)
      rw [← mid_snoc pre suf x] at h1
      rw [h1]
      have hr := inR_true.mp hx
      by_cases hp : pre = []
      · subst hp
        rw [if_neg (by simp)]
        have h0 : (0 : Int) < x := by omega
        simp [h0]
      · have hpl : 0 < pre.length := List.length_pos_iff.mpr hp
        rw [if_pos (by omega), w64 (x := (pre.length : Int) - 1) (by omega) (by omega), if_pos (by omega), if_pos (by omega), rd_lastD pre _ hp]
        by_cases hlt : pre.getLastD 0 < x
        · rw [if_neg (by omega)]
          generalize pre.getLastD 0 = q at hlt
          simp [hlt]
        · rw [if_pos (by omega)]
          generalize pre.getLastD 0 = q at hlt
          simp [hlt]
theorem specVers_v (l : List Int) (hl : l.length ≤ 1000000000000) : spec_AreVersions.fv l = some (areV l) := by
  rw [spec_AreVersions.fv_eq]
  simpa [areV] using specVers_l0 l [] (by simpa using hl)
end Go.Proofs.Ytibmehnippjakaa.Plain

/- Lists of bytes, of the reference. Condition: at most 10 to the 12 numbers. -/
set_option linter.unusedSimpArgs false
set_option linter.unusedVariables false
namespace Go.Proofs.Ytibmehnippjakaa.Plain
open Go.RowKit Go.Proofs.YtibmehnippjakaaW.PrintWords Go.Proofs.Ytibmehnippjakaa.Base Go.Proofs.Ytibmehnippjakaa.Print

theorem specByte_l0 (suf : List Int) : ∀ (pre : List Int), (pre ++ suf).length ≤ 1000000000000 → spec_l9Byte.l0v (pre ++ suf) (pre.length : Int) = some (suf.all (inR 0 255)) := by
  induction suf with
  | nil =>
    intro pre _
    rw [spec_l9Byte.l0v_eq, if_neg (nlt_end pre)]
    rfl
  | cons x suf ih =>
    intro pre hl
    have hn : pre.length < (pre ++ x :: suf).length := by simp
    rw [spec_l9Byte.l0v_eq, if_pos (lt_mid pre suf x), if_pos (by omega), rd_mid, l1In_f, up_mid pre x hn hl]
    simp only [Option.bind_some, List.all_cons]
    cases inR 0 255 x with
    | false => simp
    | true =>
      rw [if_pos rfl]
      rw [mid_snoc pre suf x] at hl ⊢
      rw [ih (pre ++ [x]) hl, Bool.true_and]
theorem specByte_v (l : List Int) (hl : l.length ≤ 1000000000000) : spec_l9Byte.fv l = some (l.all (inR 0 255)) := by
  rw [spec_l9Byte.fv_eq]
  simpa using specByte_l0 l [] (by simpa using hl)
end Go.Proofs.Ytibmehnippjakaa.Plain

/- ExtOf, AreExts and IsHello, of the reference. Condition: at most 10 to the 12 of each. -/

set_option linter.unusedSimpArgs false
set_option linter.unusedVariables false
namespace Go.Proofs.Ytibmehnippjakaa.Plain
open Go.RowKit Go.Proofs.YtibmehnippjakaaW.PrintWords Go.Proofs.Ytibmehnippjakaa.Base Go.Proofs.Ytibmehnippjakaa.Print

/-- The first extension with a tag is behind these, or among them. -/
theorem specExtOf_l0 (t : Int) (n : Nat) (suf : List S44) : ∀ (pre : List S44), (pre ++ suf).length ≤ 1000000000000 → (∃ x, suf[n]? = some x ∧ x.f0 = t) →
    ∃ r, spec_ExtOf.l0v (pre ++ suf) t (pre.length : Int) = some r ∧ decide (r < ((pre.length + n : Nat) : Int)) = hasT (suf.take n) t := by
  induction n generalizing suf with
  | zero =>
    intro pre hl hx
    obtain ⟨x, hx, ht⟩ := hx
    cases suf with
    | nil => simp at hx
    | cons y suf =>
      obtain rfl : y = x := by simpa using hx
      rw [spec_ExtOf.l0v_eq, if_pos (lt_mid pre suf y), if_pos (by omega), rdExt_mid, if_pos ht]
      exact ⟨_, rfl, by simp [hasT]⟩
  | succ n ih =>
    intro pre hl hx
    cases suf with
    | nil =>
      obtain ⟨x, hx, _⟩ := hx
      simp at hx
    | cons y suf =>
      have hn : pre.length < (pre ++ y :: suf).length := by simp
      rw [spec_ExtOf.l0v_eq, if_pos (lt_mid pre suf y), if_pos (by omega), rdExt_mid]
      by_cases hy : y.f0 = t
      · rw [if_pos hy]
        refine ⟨_, rfl, ?_⟩
        simp only [List.take_succ_cons, hasT, List.any_cons, hy, decide_true, Bool.true_or, decide_eq_true_eq]
        omega
      · rw [if_neg hy, up_mid pre y hn hl]
        rw [mid_snoc pre suf y] at hl ⊢
        obtain ⟨r, h1, h2⟩ := ih suf (pre ++ [y]) hl (by simpa using hx)
        refine ⟨r, h1, ?_⟩
        simp only [List.length_append, List.length_cons, List.length_nil] at h2
        rw [show pre.length + (n + 1) = pre.length + (0 + 1) + n by omega, h2]
        simp [hasT, hy]
theorem specExtOf_ex (pre suf : List S44) (x : S44) (hl : (pre ++ x :: suf).length ≤ 1000000000000) : ∃ r, spec_ExtOf.fv (pre ++ x :: suf) x.f0 = some r ∧ decide (r < (pre.length : Int)) = hasT pre x.f0 := by
  obtain ⟨r, h1, h2⟩ := specExtOf_l0 x.f0 pre.length (pre ++ x :: suf) [] (by simpa using hl) ⟨x, by simp, rfl⟩
  refine ⟨r, ?_, ?_⟩
  · rw [spec_ExtOf.fv_eq]
    simpa using h1
  · simpa using h2
theorem specExts_l0 (suf : List S44) : ∀ (pre : List S44), (pre ++ suf).length ≤ 1000000000000 → okXs suf →
    spec_AreExts.l0v (pre ++ suf) (pre.length : Int) = some (areX pre suf && decide ((pre ++ suf).length ≤ 6)) := by
  induction suf with
  | nil =>
    intro pre _ _
    rw [spec_AreExts.l0v_eq, if_neg (nlt_end pre)]
    simp only [areX, Bool.true_and, show (((pre ++ []).length : Int) ≤ 6) ↔ ((pre ++ []).length ≤ 6) from by omega]
  | cons x suf ih =>
    intro pre hl hs
    have hn : pre.length < (pre ++ x :: suf).length := by simp
    obtain ⟨r, e1, e2⟩ := specExtOf_ex pre suf x hl
    have h1 := ih (pre ++ [x]) (by simpa using hl) (fun y hy => hs y (List.mem_cons_of_mem _ hy))
    rw [← mid_snoc pre suf x] at h1
    rw [spec_AreExts.l0v_eq, if_pos (lt_mid pre suf x), if_pos (by omega), rdExt_mid, l1In_f, e1, specByte_v _ (hs x List.mem_cons_self), up_mid pre x hn hl, h1]
    simp only [Option.bind_some, areX]
    rw [← e2]
    generalize areX (pre ++ [x]) suf = z
    generalize decide ((pre ++ x :: suf).length ≤ 6) = q
    generalize x.f1.all (inR 0 255) = y
    cases inR 0 255 x.f0 with
    | false => simp
    | true =>
      rw [if_pos rfl]
      by_cases h3 : x.f1.length ≤ 4
      · rw [if_neg (by omega)]
        by_cases h2 : r < (pre.length : Int) <;> cases y <;> simp [h2, h3]
      · rw [if_pos (by omega)]
        simp [h3]
theorem specExts_v (l : List S44) (hl : l.length ≤ 1000000000000) (hs : okXs l) : spec_AreExts.fv l = some (isX l) := by
  rw [spec_AreExts.fv_eq]
  simpa [isX] using specExts_l0 l [] (by simpa using hl) hs
end Go.Proofs.Ytibmehnippjakaa.Plain

/- AddGrease: the program's and the reference's come to the same. Condition: at most 5 extensions, bodies of at most 10 to the 12. -/
set_option linter.unusedSimpArgs false
set_option linter.unusedVariables false
namespace Go.Proofs.Ytibmehnippjakaa.Plain
open Go.RowKit Go.Proofs.YtibmehnippjakaaW.PrintWords Go.Proofs.Ytibmehnippjakaa.Base Go.Proofs.Ytibmehnippjakaa.Print

theorem extOfS_l0 (t : Int) (suf : List S44) : ∀ (pre : List S44), (pre ++ suf).length ≤ 1000000000000 → ∃ r, spec_ExtOf.l0v (pre ++ suf) t (pre.length : Int) = some r ∧ decide (r ≥ 0) = hasT suf t := by
  induction suf with
  | nil =>
    intro pre _
    rw [spec_ExtOf.l0v_eq, if_neg (nlt_end pre)]
    exact ⟨_, rfl, by simp [hasT]⟩
  | cons x suf ih =>
    intro pre hl
    have hn : pre.length < (pre ++ x :: suf).length := by simp
    rw [spec_ExtOf.l0v_eq, if_pos (lt_mid pre suf x), if_pos (by omega), rdExt_mid]
    by_cases hx : x.f0 = t
    · rw [if_pos hx]
      exact ⟨_, rfl, by simp [hasT, hx]⟩
    · rw [if_neg hx, up_mid pre x hn hl]
      rw [mid_snoc pre suf x] at hl ⊢
      obtain ⟨r, h1, h2⟩ := ih (pre ++ [x]) hl
      exact ⟨r, h1, by rw [h2]; simp [hasT, hx]⟩
theorem extOfS_v (l : List S44) (t : Int) (hl : l.length ≤ 1000000000000) : ∃ r, spec_ExtOf.fv l t = some r ∧ decide (r ≥ 0) = hasT l t := by
  obtain ⟨r, h1, h2⟩ := extOfS_l0 t l [] (by simpa using hl)
  exact ⟨r, by rw [spec_ExtOf.fv_eq]; simpa using h1, h2⟩
/-- The rest of the reference's AddGrease: behind its test. -/
theorem addS_end (l : List S44) (s t p i : Int) (b : List Int) (hl : l.length ≤ 5) (h1 : spec_PickOf.fv s 1 (wrap64 ((l.length : Int) + 1)) = some i) (h0 : 0 ≤ i) (hi : i ≤ (l.length : Int)) :
    spec_AddGrease.l0v l s l 0 t b = some (l.take i.toNat ++ (⟨t, b⟩ : S44) :: l.drop i.toNat) := by
  have e1 : (l.take i.toNat).length ≤ 5 := by rw [List.length_take]; omega
  have e2 : (l.drop i.toNat).length ≤ 5 := by rw [List.length_drop]; omega
  rw [spec_AddGrease.l0v_eq, if_neg (by decide), h1]
  simp only [Option.bind_some, List.length_nil, Nat.zero_add, List.nil_append, List.length_append, List.length_cons]
  rw [if_pos h0, if_pos hi, if_pos (by omega), if_pos (by omega), if_pos (by omega)]
  simp
theorem addS_step (l : List S44) (s t p : Int) (n : Int) (b : List Int) (hn : 0 < n) (hn2 : n ≤ 2) (hb : b.length ≤ 2) (hp : spec_PickOf.fv s 3 256 = some p) :
    spec_AddGrease.l0v l s l n t b = spec_AddGrease.l0v l s l (n - 1) t (b ++ [p]) := by
  rw [spec_AddGrease.l0v_eq l s l n t b, if_pos hn, hp]
  simp only [Option.bind_some, List.length_cons, List.length_nil]
  rw [if_pos (by omega), w64 (by omega) (by omega)]
theorem addB (l : List S44) (s : Int) (hl : l.length ≤ 5) (hs : okXs l) : ∃ ys, impl_AddGrease.fv l s = some ys ∧ spec_AddGrease.fv l s = some ys ∧ ys.length ≤ 6 ∧ okXs ys := by
  obtain ⟨t, t1, t2⟩ := tagB s
  have hl2 : l.length ≤ 1000000000000 := by omega
  rw [impl_AddGrease.fv_eq, spec_AddGrease.fv_eq, copyI_v l hl2 hs, t1, t2, copyS_v l hl2 hs, implExts_v l hl2 hs, specExts_v l hl2 hs]
  simp only [Option.bind_some, spec_AddGrease.j0v_eq, if_true]
  cases hx : isX l with
  | false => exact ⟨l, by simp, by simp, by omega, hs⟩
  | true =>
    obtain ⟨e, e1, e2⟩ := implExtOf_ex l t hl2
    obtain ⟨f, f1, f2⟩ := extOfS_v l t hl2
    rw [if_pos rfl, if_pos rfl, if_neg (by omega), if_neg (by omega), e1, f1]
    simp only [Option.bind_some, f2]
    cases hh : hasT l t with
    | true =>
      have e0 : 0 ≤ e := by rw [hh] at e2; exact of_decide_eq_true e2
      rw [if_pos e0, if_pos rfl]
      exact ⟨l, rfl, rfl, by omega, hs⟩
    | false =>
      have e0 : ¬ 0 ≤ e := by rw [hh] at e2; exact of_decide_eq_false e2
      obtain ⟨p, p1, p2, _, _⟩ := pickB s 3 256 (by decide) (by decide)
      obtain ⟨c, c1, c2, c3, c4⟩ := pickB s 2 3 (by decide) (by decide)
      obtain ⟨i, i1, i2, i3, i4⟩ := pickB s 1 (wrap64 ((l.length : Int) + 1)) (by rw [w64 (by omega) (by omega)]; omega) (by rw [w64 (by omega) (by omega)]; omega)
      have i5 : i ≤ (l.length : Int) := by rw [w64 (by omega) (by omega)] at i4; omega
      rw [if_neg e0, p1, c1, i1, if_neg (by simp), c2]
      simp only [Option.bind_some]
      rw [if_pos c3, if_pos (by omega), if_pos i3, if_pos i5, if_pos (by omega)]
      have hlen : ∀ b : List Int, (l.take i.toNat ++ (⟨t, b⟩ : S44) :: l.drop i.toNat).length ≤ 6 := fun b => by
        simp only [List.length_append, List.length_take, List.length_cons, List.length_drop]
        omega
      have hok : ∀ b : List Int, b.length ≤ 2 → okXs (l.take i.toNat ++ (⟨t, b⟩ : S44) :: l.drop i.toNat) := fun b hb x hx => by
        rcases List.mem_append.1 hx with h | h
        · exact hs x (List.mem_of_mem_take h)
        · rcases List.mem_cons.1 h with rfl | h
          · show b.length ≤ _
            omega
          · exact hs x (List.mem_of_mem_drop h)
      obtain rfl | rfl | rfl : c = 0 ∨ c = 1 ∨ c = 2 := by omega
      · exact ⟨_, rfl, addS_end l s t p i [] hl i2 i3 i5, hlen _, hok _ (by simp)⟩
      · refine ⟨_, rfl, ?_, hlen _, hok _ (by simp)⟩
        rw [addS_step l s t p 1 [] (by decide) (by decide) (by simp) p2]
        exact addS_end l s t p i [p] hl i2 i3 i5
      · refine ⟨_, rfl, ?_, hlen _, hok _ (by simp)⟩
        rw [addS_step l s t p 2 [] (by decide) (by decide) (by simp) p2, addS_step l s t p (2 - 1) ([] ++ [p]) (by decide) (by decide) (by simp) p2]
        exact addS_end l s t p i [p, p] hl i2 i3 i5
end Go.Proofs.Ytibmehnippjakaa.Plain

/- IsBox, of the program. Condition: at most 10 to the 12 of each. -/
set_option linter.unusedSimpArgs false
set_option linter.unusedVariables false
namespace Go.Proofs.Ytibmehnippjakaa.Plain
open Go.RowKit Go.Proofs.YtibmehnippjakaaW.PrintWords Go.Proofs.Ytibmehnippjakaa.Base Go.Proofs.Ytibmehnippjakaa.Print

theorem implIsB_v (b : S59) (h : okB b) : impl_IsBox.fv b.f0 b.f1 b.f2 b.f3 = some (isB b) := by
  rw [impl_IsBox.fv_eq, inRange_f, areNumbers_v _ _ _ h.1, areNumbers_v _ _ _ h.2]
  simp only [Option.bind_some, isB]
  simp only [show ((b.f1.length : Int) ≤ 6) ↔ (b.f1.length ≤ 6) from by omega, show ((b.f2.length : Int) ≤ 6) ↔ (b.f2.length ≤ 6) from by omega]
  generalize inR 0 9 b.f0 = x
  generalize b.f1.all (inR 0 255) = y
  generalize b.f2.all (inR 0 255) = z
  by_cases h1 : b.f1.length ≤ 6 <;> by_cases h2 : b.f2.length ≤ 6 <;> cases x <;> cases y <;> cases z <;> simp [h1, h2]
end Go.Proofs.Ytibmehnippjakaa.Plain

/- What the law's own helpers on slices of whole numbers come to: a copy, equality, marks. Condition: the slice has at most 2 to the 40 numbers. -/
set_option linter.unusedSimpArgs false
set_option linter.unusedVariables false
namespace Go.Proofs.Ytibmehnippjakaa.Plain
open Go.RowKit Go.Proofs.YtibmehnippjakaaW.PrintWords Go.Proofs.Ytibmehnippjakaa.Base Go.Proofs.Ytibmehnippjakaa.Print

theorem toIntS_l0 (suf : List Int) : ∀ (pre rest : List Int), rest.length = suf.length → (pre ++ suf).length ≤ 1000000000000 → laws_toIntS.l0v (pre ++ suf) (pre ++ rest) (pre.length : Int) = some (pre ++ suf) := by
  induction suf with
  | nil =>
    intro pre rest hr _
    rw [laws_toIntS.l0v_eq, if_neg (nlt_end pre)]
    simp at hr
    rw [hr]
  | cons x suf ih =>
    intro pre rest hr hl
    cases rest with
    | nil => simp at hr
    | cons y rest =>
      have hn : pre.length < (pre ++ x :: suf).length := by simp
      rw [laws_toIntS.l0v_eq, if_pos (lt_mid pre suf x), if_pos (by omega), if_pos (lt_mid pre rest y), rd_mid, set_mid, up_mid pre x hn hl]
      rw [mid_snoc pre suf x] at hl ⊢
      have h1 := ih (pre ++ [x]) rest (by simpa using hr) hl
      simp only [List.length_append, List.length_cons, List.length_nil] at h1 ⊢
      exact h1

theorem toIntS_v (l : List Int) (hl : l.length ≤ 1000000000000) : laws_toIntS.fv l = some l := by
  rw [laws_toIntS.fv_eq, if_pos (by omega), if_pos (by omega)]
  have h := toIntS_l0 l [] (List.replicate ((l.length : Int) : Int).toNat 0) (by simp) (by simpa using hl)
  simpa using h

theorem eqIntS_l0 (sa : List Int) : ∀ (pre sb : List Int), sb.length = sa.length → (pre ++ sa).length ≤ 1000000000000 → laws_eqIntS.l0v (pre ++ sa) (pre ++ sb) (pre.length : Int) = some (decide (sa = sb)) := by
  induction sa with
  | nil =>
    intro pre sb hr _
    rw [laws_eqIntS.l0v_eq, if_neg (nlt_end pre)]
    simp at hr
    simp [hr]
  | cons x sa ih =>
    intro pre sb hr hl
    cases sb with
    | nil => simp at hr
    | cons y sb =>
      have hn : pre.length < (pre ++ x :: sa).length := by simp
      rw [laws_eqIntS.l0v_eq, if_pos (lt_mid pre sa x), if_pos (by omega), if_pos (lt_mid pre sb y), rd_mid, rd_mid, up_mid pre x hn hl]
      by_cases hxy : x = y
      · subst hxy
        rw [if_pos rfl]
        rw [mid_snoc pre sa x] at hl ⊢
        rw [mid_snoc pre sb x]
        rw [ih (pre ++ [x]) sb (by simpa using hr) hl]
        simp
      · rw [if_neg hxy]
        simp [hxy]

theorem eqIntS_v (a b : List Int) (hl : a.length ≤ 1000000000000) : laws_eqIntS.fv a b = some (decide (a = b)) := by
  rw [laws_eqIntS.fv_eq]
  by_cases h : a.length = b.length
  · rw [if_pos (by omega)]
    have h1 := eqIntS_l0 a [] b h.symm (by simpa using hl)
    simpa using h1
  · rw [if_neg (by omega)]
    have : a ≠ b := fun e => h (by rw [e])
    simp [this]
end Go.Proofs.Ytibmehnippjakaa.Plain

/- What is left of a size, row by row. Condition: at most 2 to the 20 is left. -/
set_option linter.unusedSimpArgs false
set_option linter.unusedVariables false
namespace Go.Proofs.Ytibmehnippjakaa.Plain
open Go.RowKit Go.Proofs.YtibmehnippjakaaW.PrintWords Go.Proofs.Ytibmehnippjakaa.Base Go.Proofs.Ytibmehnippjakaa.Print

theorem szIntS_f (l : List Int) (n : Int) (h0 : 0 ≤ n) (h : n ≤ 1048576) (hl : l.length ≤ 1000000000000000000) : laws_szIntS.f l n = some (if n < l.length then -1 else n - l.length) := by
  unfold laws_szIntS.f
  rw [w64 (by omega) (by omega)]
  by_cases hc : n < l.length
  · rw [if_pos (by omega), if_pos hc]
  · rw [if_neg (by omega), if_neg hc]
/-- What is left of n behind the rows, each with a size of its own; -1 where they are too large. -/
def sizes {α : Type} (f : α → Nat) : List α → Int → Int
  | [], n => n
  | x :: l, n => if n < (f x : Int) then -1 else sizes f l (n - (f x : Int))
/-- The same, with one for each row. -/
def sizeOf1 {α : Type} (f : α → Nat) (l : List α) (n : Int) : Int := if n < (l.length : Int) then -1 else sizes f l (n - (l.length : Int))
theorem sizes_le {α : Type} (f : α → Nat) (l : List α) : ∀ n : Int, 0 ≤ sizes f l n → sizes f l n ≤ n ∧ ∀ x ∈ l, (f x : Int) ≤ n := by
  induction l with
  | nil =>
    intro n h
    exact ⟨Int.le_refl _, fun x hx => by cases hx⟩
  | cons y l ih =>
    intro n h
    simp only [sizes] at h ⊢
    by_cases hc : n < (f y : Int)
    · rw [if_pos hc] at h
      omega
    · rw [if_neg hc] at h ⊢
      obtain ⟨h1, h2⟩ := ih _ h
      refine ⟨by omega, fun x hx => ?_⟩
      cases hx with
      | head => omega
      | tail _ hx =>
        have := h2 x hx
        omega
theorem sizeOf1_le {α : Type} (f : α → Nat) (l : List α) (n : Int) (h : 0 ≤ sizeOf1 f l n) : sizeOf1 f l n ≤ n ∧ (l.length : Int) ≤ n ∧ ∀ x ∈ l, (f x : Int) ≤ n := by
  unfold sizeOf1 at h ⊢
  by_cases hc : n < (l.length : Int)
  · rw [if_pos hc] at h
    omega
  · rw [if_neg hc] at h ⊢
    obtain ⟨h1, h2⟩ := sizes_le f l _ h
    exact ⟨by omega, by omega, fun x hx => by
      have := h2 x hx
      omega⟩
theorem sizes_neg {α : Type} (f : α → Nat) (l : List α) : ∀ n : Int, 0 ≤ n → sizes f l n < 0 → sizes f l n = -1 := by
  induction l with
  | nil =>
    intro n h0 h
    simp only [sizes] at h
    omega
  | cons y l ih =>
    intro n h0 h
    simp only [sizes] at h ⊢
    by_cases hc : n < (f y : Int)
    · rw [if_pos hc]
    · rw [if_neg hc] at h ⊢
      exact ih _ (by omega) h
end Go.Proofs.Ytibmehnippjakaa.Plain

/- Boxes: their sizes, copies and equality, as the law's helpers tell them. Condition: at most 10 to the 12 of each. -/
set_option linter.unusedSimpArgs false
set_option linter.unusedVariables false
namespace Go.Proofs.Ytibmehnippjakaa.Plain
open Go.RowKit Go.Proofs.YtibmehnippjakaaW.PrintWords Go.Proofs.Ytibmehnippjakaa.Base Go.Proofs.Ytibmehnippjakaa.Print

theorem rdBoxL_mid (pre suf : List S55) (x : S55) : rd_T55 (pre ++ x :: suf) (pre.length : Int) = x := by simp [rd_T55]
/-- The law's box as the program's. -/
def toB (b : S55) : S59 := ⟨b.f0, b.f1, b.f2, b.f3⟩
def szB (b : S55) : Nat := b.f1.length + b.f2.length
theorem szBox_f (a : Int) (l m : List Int) (f : Bool) (n : Int) (h0 : 0 ≤ n) (h : n ≤ 1048576) (hl : l.length ≤ 1000000000000000000) (hm : m.length ≤ 1000000000000000000) : laws_szBox.f a l m f n = some (if n < ((l.length + m.length : Nat) : Int) then -1 else n - ((l.length + m.length : Nat) : Int)) := by
  unfold laws_szBox.f
  rw [szIntS_f l n h0 h hl]
  simp only [Option.bind_some]
  by_cases hc : n < (l.length : Int)
  · rw [if_pos hc, if_pos (by omega), if_pos (by omega)]
  · rw [if_neg hc, if_neg (by omega), szIntS_f m _ (by omega) (by omega) hm]
    simp only [Option.bind_some]
    by_cases hd : n - (l.length : Int) < (m.length : Int)
    · rw [if_pos hd, if_pos (by omega), if_pos (by omega)]
    · rw [if_neg hd, if_neg (by omega), if_neg (by omega)]
      congr 1
      omega
theorem szBoxS_l0 (suf : List S55) : ∀ (pre : List S55) (n : Int), (pre ++ suf).length ≤ 1000000000000 → 0 ≤ n → n ≤ 1048576 → (∀ x ∈ suf, x.f1.length ≤ 1000000000000000000 ∧ x.f2.length ≤ 1000000000000000000) →
    laws_szBoxS.l0v (pre ++ suf) n (pre.length : Int) = some (sizes szB suf n) := by
  induction suf with
  | nil =>
    intro pre n _ _ _ _
    rw [laws_szBoxS.l0v_eq, if_neg (nlt_end pre)]
    rfl
  | cons x suf ih =>
    intro pre n hl h0 h1 hs
    have hn : pre.length < (pre ++ x :: suf).length := by simp
    have hx := hs x List.mem_cons_self
    rw [laws_szBoxS.l0v_eq, if_pos (lt_mid pre suf x), if_pos (by omega), rdBoxL_mid, szBox_f _ _ _ _ n h0 h1 hx.1 hx.2]
    simp only [Option.bind_some, sizes]
    have e : ((x.f1.length + x.f2.length : Nat) : Int) = (szB x : Int) := rfl
    rw [e]
    by_cases hc : n < (szB x : Int)
    · rw [if_pos hc, if_pos (by omega), if_pos hc]
    · rw [if_neg hc, if_neg (by omega), if_neg hc, up_mid pre x hn hl]
      rw [mid_snoc pre suf x] at hl ⊢
      exact ih (pre ++ [x]) _ hl (by omega) (by omega) (fun y hy => hs y (List.mem_cons_of_mem _ hy))
theorem szBoxS_v (l : List S55) (n : Int) (h0 : 0 ≤ n) (h1 : n ≤ 1048576) (hl : l.length ≤ 100000000000000000) (hs : ∀ x ∈ l, x.f1.length ≤ 1000000000000000000 ∧ x.f2.length ≤ 1000000000000000000) :
    laws_szBoxS.fv l n = some (sizeOf1 szB l n) := by
  rw [laws_szBoxS.fv_eq, w64 (by omega) (by omega)]
  unfold sizeOf1
  by_cases hc : n < (l.length : Int)
  · rw [if_pos (by omega), if_pos hc]
  · rw [if_neg (by omega), if_neg hc]
    have h := szBoxS_l0 l [] (n - (l.length : Int)) (by simp; omega) (by omega) (by omega) hs
    simpa using h
theorem toBox_v (a : Int) (l m : List Int) (f : Bool) (hl : l.length ≤ 1000000000000) (hm : m.length ≤ 1000000000000) : laws_toBox.fv a l m f = some (a, l, m, f) := by
  rw [laws_toBox.fv_eq, toIntS_v l hl, toIntS_v m hm]
  rfl
theorem toBoxS_l0 (suf : List S55) : ∀ (pre : List S55) (q rest : List S59), q.length = pre.length → rest.length = suf.length → (pre ++ suf).length ≤ 1000000000000 → (∀ x ∈ suf, okB (toB x)) → laws_toBoxS.l0v (pre ++ suf) (q ++ rest) (pre.length : Int) = some (q ++ suf.map toB) := by
  induction suf with
  | nil =>
    intro pre q rest _ hr _ _
    rw [laws_toBoxS.l0v_eq, if_neg (nlt_end pre)]
    simp at hr
    simp [hr]
  | cons x suf ih =>
    intro pre q rest hq hr hl hs
    cases rest with
    | nil => simp at hr
    | cons y rest =>
      have hn : pre.length < (pre ++ x :: suf).length := by simp
      have hx : x.f1.length ≤ 1000000000000 ∧ x.f2.length ≤ 1000000000000 := hs x List.mem_cons_self
      rw [laws_toBoxS.l0v_eq, if_pos (lt_mid pre suf x), if_pos (by omega), rdBoxL_mid, toBox_v _ _ _ _ hx.1 hx.2]
      simp only [Option.bind_some]
      rw [up_mid pre x hn hl, ← hq, if_pos (lt_mid q rest y), set_mid]
      rw [mid_snoc pre suf x] at hl ⊢
      rw [show (⟨x.f0, x.f1, x.f2, x.f3⟩ : S59) = toB x from rfl, ih (pre ++ [x]) (q ++ [toB x]) rest (by simp [hq]) (by simpa using hr) hl (fun y hy => hs y (List.mem_cons_of_mem _ hy))]
      simp
theorem toBoxS_v (l : List S55) (hl : l.length ≤ 1000000000000) (hs : ∀ x ∈ l, okB (toB x)) : laws_toBoxS.fv l = some (l.map toB) := by
  rw [laws_toBoxS.fv_eq, if_pos (by omega), if_pos (by omega)]
  have h := toBoxS_l0 l [] [] (List.replicate ((l.length : Int) : Int).toNat z59) rfl (by simp) (by simpa using hl) hs
  simpa using h
theorem eqBox_v (b : S59) (h : okB b) : laws_eqBox.fv b.f0 b.f1 b.f2 b.f3 b.f0 b.f1 b.f2 b.f3 = some true := by
  rw [laws_eqBox.fv_eq, if_pos rfl, eqIntS_v _ _ h.1, eqIntS_v _ _ h.2]
  first | (simp; done) | (rcases Bool.eq_false_or_eq_true b.f3 with h3 | h3 <;> simp [h3])
theorem eqBoxS_l0 (sa : List S59) : ∀ (pre : List S59), (pre ++ sa).length ≤ 1000000000000 → (∀ x ∈ sa, okB x) → laws_eqBoxS.l0v (pre ++ sa) (pre ++ sa) (pre.length : Int) = some true := by
  induction sa with
  | nil =>
    intro pre _ _
    rw [laws_eqBoxS.l0v_eq, if_neg (nlt_end pre)]
  | cons x sa ih =>
    intro pre hl hs
    have hn : pre.length < (pre ++ x :: sa).length := by simp
    rw [laws_eqBoxS.l0v_eq, if_pos (lt_mid pre sa x), if_pos (by omega), if_pos (lt_mid pre sa x), rdBox_mid, eqBox_v x (hs x List.mem_cons_self), up_mid pre x hn hl]
    simp only [Option.bind_some, if_true]
    rw [mid_snoc pre sa x] at hl ⊢
    exact ih (pre ++ [x]) hl (fun y hy => hs y (List.mem_cons_of_mem _ hy))
theorem eqBoxS_v (l : List S59) (hl : l.length ≤ 1000000000000) (hs : ∀ x ∈ l, okB x) : laws_eqBoxS.fv l l = some true := by
  rw [laws_eqBoxS.fv_eq, if_pos rfl]
  exact eqBoxS_l0 l [] (by simpa using hl) hs
end Go.Proofs.Ytibmehnippjakaa.Plain

/- IsBox, areTags, IsHardened and IsEndpoint, of the program. Condition: at most 10 to the 12 of each. -/
set_option linter.unusedSimpArgs false
set_option linter.unusedVariables false
namespace Go.Proofs.Ytibmehnippjakaa.Plain
open Go.RowKit Go.Proofs.YtibmehnippjakaaW.PrintWords Go.Proofs.Ytibmehnippjakaa.Base Go.Proofs.Ytibmehnippjakaa.Print

theorem implRes_f (x : Int) : impl_IsReserved.f x = some (res x) := by
  unfold impl_IsReserved.f res
  rw [inRange_f]
  cases inR 0 255 x <;> simp
theorem implHard_l0 (suf : List Int) : ∀ (pre : List Int), (pre ++ suf).length ≤ 1000000000000 →
    ∃ r, slices_IndexFunc_int_int_with_impl_IsReserved.l0v (pre ++ suf) ((pre ++ suf).length : Int) (pre.length : Int) = some r ∧ decide (r ≥ 0) = suf.any res := by
  induction suf with
  | nil =>
    intro pre _
    refine ⟨-1, ?_, by simp⟩
    rw [slices_IndexFunc_int_int_with_impl_IsReserved.l0v_eq, if_neg (nlt_end pre)]
  | cons x suf ih =>
    intro pre hl
    have hn : pre.length < (pre ++ x :: suf).length := by simp
    rw [slices_IndexFunc_int_int_with_impl_IsReserved.l0v_eq, if_pos (lt_mid pre suf x), if_pos (by omega), if_pos (lt_mid pre suf x), rd_mid, implRes_f]
    simp only [Option.bind_some]
    cases hx : res x with
    | true =>
      rw [if_pos rfl]
      exact ⟨(pre.length : Int), rfl, by simp [hx]⟩
    | false =>
      rw [if_neg (by simp), up_mid pre x hn hl]
      rw [mid_snoc pre suf x] at hl ⊢
      obtain ⟨r, h1, h2⟩ := ih (pre ++ [x]) hl
      exact ⟨r, h1, by rw [h2]; simp [hx]⟩
theorem implHard_v (l : List Int) (hl : l.length ≤ 1000000000000) : impl_IsHardened.fv l = some (l.any res) := by
  obtain ⟨r, h1, h2⟩ := implHard_l0 l [] (by simpa using hl)
  rw [impl_IsHardened.fv_eq, slices_ContainsFunc_int_int_with_impl_IsReserved.fv_eq, slices_IndexFunc_int_int_with_impl_IsReserved.fv_eq]
  simp only [List.nil_append, List.length_nil, Int.natCast_zero] at h1
  rw [h1]
  simp [h2]
theorem implTags_l0 (suf : List Int) : ∀ (pre : List Int), (pre ++ suf).length ≤ 1000000000000 →
    impl_areTags.l0v (pre ++ suf) (pre ++ suf) ((pre ++ suf).length : Int) (pre.length : Int) = some (asc pre.getLast? suf && (pre ++ suf).all (inR 0 255)) := by
  induction suf with
  | nil =>
    intro pre hl
    rw [impl_areTags.l0v_eq, if_neg (nlt_end pre), areNumbers_v _ _ _ hl]
    simp only [Option.bind_some, asc, Bool.true_and]
  | cons x suf ih =>
    intro pre hl
    have hn : pre.length < (pre ++ x :: suf).length := by simp
    have hp : (pre ++ x :: suf).length ≤ 1000000000000 := hl
    rw [impl_areTags.l0v_eq, if_pos (lt_mid pre suf x), if_pos (by omega), if_pos (lt_mid pre suf x), rd_mid, up_mid pre x hn hl]
    have h1 := ih (pre ++ [x]) (by simpa using hl)
    rw [← mid_snoc pre suf x] at h1
    rw [h1, List.getLast?_concat]
    simp only [asc]
    by_cases he : pre = []
    · subst he
      rw [if_neg (by simp)]
      simp [above]
    · have hpl : 0 < pre.length := List.length_pos_iff.mpr he
      rw [if_pos (by omega), w64 (x := (pre.length : Int) - 1) (by omega) (by omega), if_pos (by omega), if_pos (by omega), lastO pre (x :: suf) he]
      simp only [above]
      by_cases hlt : rd (pre ++ x :: suf) ((pre.length : Int) - 1) < x
      · rw [if_neg (by omega)]
        simp [hlt]
      · rw [if_pos (by omega)]
        simp [hlt]
theorem implTags_v (l : List Int) (hl : l.length ≤ 1000000000000) : impl_areTags.fv l = some (asc none l && l.all (inR 0 255)) := by
  rw [impl_areTags.fv_eq]
  simpa using implTags_l0 l [] (by simpa using hl)
theorem implBs_l0 (suf : List S59) : ∀ (pre : List S59), (pre ++ suf).length ≤ 1000000000000 → (∀ x ∈ suf, okB x) →
    ∃ r, slices_IndexFunc_impl_Box_impl_Box_with_impl_IsEndpoint_1.l0v (pre ++ suf) ((pre ++ suf).length : Int) (pre.length : Int) = some r ∧ decide (r ≥ 0) = !(suf.all isB) := by
  induction suf with
  | nil =>
    intro pre _ _
    refine ⟨-1, ?_, by simp⟩
    rw [slices_IndexFunc_impl_Box_impl_Box_with_impl_IsEndpoint_1.l0v_eq, if_neg (nlt_end pre)]
  | cons x suf ih =>
    intro pre hl hs
    have hn : pre.length < (pre ++ x :: suf).length := by simp
    rw [slices_IndexFunc_impl_Box_impl_Box_with_impl_IsEndpoint_1.l0v_eq, if_pos (lt_mid pre suf x), if_pos (by omega), if_pos (lt_mid pre suf x), rdBox_mid, impl_IsEndpoint_1.fv_eq, implIsB_v x (hs x List.mem_cons_self)]
    simp only [Option.bind_some]
    cases hx : isB x with
    | false =>
      rw [if_pos (show (!false) = true from rfl)]
      exact ⟨(pre.length : Int), rfl, by simp [hx]⟩
    | true =>
      rw [if_neg (by simp), up_mid pre x hn hl]
      rw [mid_snoc pre suf x] at hl ⊢
      obtain ⟨r, h1, h2⟩ := ih (pre ++ [x]) hl (fun y hy => hs y (List.mem_cons_of_mem _ hy))
      exact ⟨r, h1, by rw [h2]; simp [hx]⟩
theorem implBs_v (l : List S59) (hl : l.length ≤ 1000000000000) (hs : ∀ x ∈ l, okB x) : slices_ContainsFunc_impl_Box_impl_Box_with_impl_IsEndpoint_1.fv l = some (!(l.all isB)) := by
  obtain ⟨r, h1, h2⟩ := implBs_l0 l [] (by simpa using hl) hs
  rw [slices_ContainsFunc_impl_Box_impl_Box_with_impl_IsEndpoint_1.fv_eq, slices_IndexFunc_impl_Box_impl_Box_with_impl_IsEndpoint_1.fv_eq]
  simp only [List.nil_append, List.length_nil, Int.natCast_zero] at h1
  rw [h1]
  simp only [Option.bind_some, h2]
theorem implIsE_v (v t : List Int) (p : List S59) (c : Int) (hv : v.length ≤ 1000000000000) (ht : t.length ≤ 1000000000000) (hp : p.length ≤ 1000000000000) (hs : ∀ x ∈ p, okB x) : impl_IsEndpoint.fv v t p c = some (isE v t p c) := by
  rw [impl_IsEndpoint.fv_eq, implVers_v v hv, implTags_v t ht, implHard_v t ht, implBs_v p hp hs, inRange_f]
  simp only [Option.bind_some, isE, show ((t.length : Int) ≤ 5) ↔ (t.length ≤ 5) from by omega, show ((p.length : Int) ≤ 4) ↔ (p.length ≤ 4) from by omega]
  generalize areV v = x0
  generalize asc none t = x1
  generalize t.all (inR 0 255) = x2
  generalize t.any res = x3
  generalize p.all isB = x4
  by_cases h1 : t.length ≤ 5 <;> by_cases h2 : p.length ≤ 4 <;> cases x0 <;> cases x1 <;> cases x2 <;> cases x3 <;> cases x4 <;> simp [h1, h2]
end Go.Proofs.Ytibmehnippjakaa.Plain

/- IsBox, of the reference. Condition: at most 10 to the 12 of each. -/
set_option linter.unusedSimpArgs false
set_option linter.unusedVariables false
namespace Go.Proofs.Ytibmehnippjakaa.Plain
open Go.RowKit Go.Proofs.YtibmehnippjakaaW.PrintWords Go.Proofs.Ytibmehnippjakaa.Base Go.Proofs.Ytibmehnippjakaa.Print

theorem specIsB_v (b : S59) (h : okB b) : spec_IsBox.fv b.f0 b.f1 b.f2 b.f3 = some (isB b) := by
  rw [spec_IsBox.fv_eq, l1In_f, specByte_v _ h.1, specByte_v _ h.2]
  simp only [Option.bind_some, isB]
  simp only [show ((b.f1.length : Int) ≤ 6) ↔ (b.f1.length ≤ 6) from by omega, show ((b.f2.length : Int) ≤ 6) ↔ (b.f2.length ≤ 6) from by omega]
  generalize inR 0 9 b.f0 = x
  generalize b.f1.all (inR 0 255) = y
  generalize b.f2.all (inR 0 255) = z
  by_cases h1 : b.f1.length ≤ 6 <;> by_cases h2 : b.f2.length ≤ 6 <;> cases x <;> cases y <;> cases z <;> simp [h1, h2]
end Go.Proofs.Ytibmehnippjakaa.Plain

/- The tags that mean nothing, of the reference. No condition. -/
set_option linter.unusedSimpArgs false
set_option linter.unusedVariables false
namespace Go.Proofs.Ytibmehnippjakaa.Plain
open Go.RowKit Go.Proofs.YtibmehnippjakaaW.PrintWords Go.Proofs.Ytibmehnippjakaa.Base Go.Proofs.Ytibmehnippjakaa.Print

theorem specRes_f (x : Int) : spec_IsReserved.f x = some (res x) := by
  unfold spec_IsReserved.f res
  rw [l1In_f]
  cases inR 0 255 x <;> simp
end Go.Proofs.Ytibmehnippjakaa.Plain

/- IsBox and IsEndpoint, of the reference. Condition: at most 10 to the 12 of each. -/
set_option linter.unusedSimpArgs false
set_option linter.unusedVariables false
namespace Go.Proofs.Ytibmehnippjakaa.Plain
open Go.RowKit Go.Proofs.YtibmehnippjakaaW.PrintWords Go.Proofs.Ytibmehnippjakaa.Base Go.Proofs.Ytibmehnippjakaa.Print

theorem specIsE_l1 (v t : List Int) (c : Int) (hv : v.length ≤ 1000000000000) (suf : List S59) : ∀ (pre : List S59), (pre ++ suf).length ≤ 1000000000000 → (∀ x ∈ suf, okB x) →
    spec_IsEndpoint.l1v (pre.length : Int) v t (pre ++ suf) c = some (suf.all isB && (areV v && (decide (t.length ≤ 5) && (decide ((pre ++ suf).length ≤ 4) && inR 0 5 c)))) := by
  induction suf with
  | nil =>
    intro pre hl _
    rw [spec_IsEndpoint.l1v_eq, if_neg (nlt_end pre), specVers_v v hv, l1In_f]
    simp only [Option.bind_some, List.all_nil, Bool.true_and]
    cases areV v with
    | false => simp
    | true =>
      by_cases h1 : t.length ≤ 5
      · rw [if_pos rfl, if_pos (by omega)]
        by_cases h2 : (pre ++ []).length ≤ 4
        · rw [if_pos (by omega)]
          simp only [h1, h2, decide_true, Bool.true_and]
        · rw [if_neg (by omega)]
          simp only [h1, h2, decide_true, decide_false, Bool.true_and, Bool.false_and]
      · rw [if_pos rfl, if_neg (by omega)]
        simp [h1]
  | cons x suf ih =>
    intro pre hl hs
    have hn : pre.length < (pre ++ x :: suf).length := by simp
    rw [spec_IsEndpoint.l1v_eq, if_pos (lt_mid pre suf x), if_pos (by omega), rdBox_mid, specIsB_v x (hs x List.mem_cons_self), up_mid pre x hn hl]
    simp only [Option.bind_some, List.all_cons]
    cases isB x with
    | false => simp
    | true =>
      rw [if_pos rfl]
      rw [mid_snoc pre suf x] at hl ⊢
      rw [ih (pre ++ [x]) hl (fun y hy => hs y (List.mem_cons_of_mem _ hy)), Bool.true_and]
theorem specIsE_l0 (v : List Int) (p : List S59) (c : Int) (hv : v.length ≤ 1000000000000) (hp : p.length ≤ 1000000000000) (hs : ∀ x ∈ p, okB x) (suf : List Int) : ∀ (pre : List Int), (pre ++ suf).length ≤ 1000000000000 →
    spec_IsEndpoint.l0v (pre.length : Int) v (pre ++ suf) p c = some (tagsS pre.getLast? suf && (p.all isB && (areV v && (decide ((pre ++ suf).length ≤ 5) && (decide (p.length ≤ 4) && inR 0 5 c))))) := by
  induction suf with
  | nil =>
    intro pre hl
    have h := specIsE_l1 v (pre ++ []) c hv p [] (by simpa using hp) hs
    simp only [List.nil_append, List.length_nil, Int.natCast_zero] at h
    rw [spec_IsEndpoint.l0v_eq, if_neg (nlt_end pre), h]
    simp only [tagsS, Bool.true_and]
  | cons x suf ih =>
    intro pre hl
    have hn : pre.length < (pre ++ x :: suf).length := by simp
    rw [spec_IsEndpoint.l0v_eq, if_pos (lt_mid pre suf x), if_pos (by omega), rd_mid, l1In_f, specRes_f, up_mid pre x hn hl]
    have h1 := ih (pre ++ [x]) (by simpa using hl)
    rw [← mid_snoc pre suf x] at h1
    rw [h1, List.getLast?_concat]
    simp only [Option.bind_some, tagsS]
    cases inR 0 255 x with
    | false => simp
    | true =>
      cases res x with
      | true => simp
      | false =>
        rw [if_pos rfl, if_neg (by simp)]
        by_cases he : pre = []
        · subst he
          rw [if_neg (by simp)]
          simp [above]
        · have hpl : 0 < pre.length := List.length_pos_iff.mpr he
          rw [if_pos (by omega), w64 (x := (pre.length : Int) - 1) (by omega) (by omega), if_pos (by omega), if_pos (by omega), lastO pre (x :: suf) he]
          simp only [above]
          by_cases hlt : rd (pre ++ x :: suf) ((pre.length : Int) - 1) < x
          · rw [if_neg (by omega)]
            simp [hlt]
          · rw [if_pos (by omega)]
            simp [hlt]
theorem specIsE_v (v t : List Int) (p : List S59) (c : Int) (hv : v.length ≤ 1000000000000) (ht : t.length ≤ 1000000000000) (hp : p.length ≤ 1000000000000) (hs : ∀ x ∈ p, okB x) : spec_IsEndpoint.fv v t p c = some (isE v t p c) := by
  rw [spec_IsEndpoint.fv_eq]
  have h := specIsE_l0 v p c hv hp hs t [] (by simpa using ht)
  simp only [List.nil_append, List.length_nil, Int.natCast_zero] at h
  rw [h, tagsS_eq]
  unfold isE
  rw [List.getLast?_nil]
  congr 1
  cases asc none t <;> cases t.all (inR 0 255) <;> cases t.any res <;> cases p.all isB <;> cases areV v <;> cases inR 0 5 c <;> cases decide (t.length ≤ 5) <;> cases decide (p.length ≤ 4) <;> rfl
end Go.Proofs.Ytibmehnippjakaa.Plain

/- HelloOf: the program's and the reference's come to the same. Condition: at most 10 to the 12 of each. -/
set_option linter.unusedSimpArgs false
set_option linter.unusedVariables false
namespace Go.Proofs.Ytibmehnippjakaa.Plain
open Go.RowKit Go.Proofs.YtibmehnippjakaaW.PrintWords Go.Proofs.Ytibmehnippjakaa.Base Go.Proofs.Ytibmehnippjakaa.Print

def bareX (t : List Int) : List S44 := t.map fun x => ⟨x, []⟩
theorem helloI_l0 (s : Int) (v : List Int) (p : List S59) (c : Int) (hv : v.length ≤ 1000000000000) (ys : List S44) (suf : List Int) : ∀ (pre : List Int), (pre ++ suf).length ≤ 1000000000000 → impl_AddGrease.fv (bareX (pre ++ suf)) s = some ys →
    impl_HelloOf.l0v s (bareX pre) (pre ++ suf) ((pre ++ suf).length : Int) (pre.length : Int) v (pre ++ suf) p c = some (v, ys) := by
  induction suf with
  | nil =>
    intro pre hl h
    rw [impl_HelloOf.l0v_eq, if_neg (nlt_end pre)]
    simp only [Option.bind_some, List.length_nil, Nat.zero_add, List.nil_append]
    rw [List.append_nil] at h
    rw [if_pos (by omega), h]
    rfl
  | cons x suf ih =>
    intro pre hl h
    have hn : pre.length < (pre ++ x :: suf).length := by simp
    have hb : (bareX pre).length < 4398046511104 := by unfold bareX; rw [List.length_map]; omega
    rw [impl_HelloOf.l0v_eq, if_pos (lt_mid pre suf x), if_pos (by omega), if_pos (lt_mid pre suf x), if_pos hb, rd_mid, up_mid pre x hn hl]
    rw [mid_snoc pre suf x] at hl h ⊢
    have h1 := ih (pre ++ [x]) hl h
    simpa [bareX] using h1
theorem helloS_l0 (s : Int) (v : List Int) (p : List S59) (c : Int) (hv : v.length ≤ 1000000000000) (ys : List S44) (suf : List Int) : ∀ (pre : List Int), (pre ++ suf).length ≤ 1000000000000 → spec_AddGrease.fv (bareX (pre ++ suf)) s = some ys →
    spec_HelloOf.l0v s (bareX pre) (pre.length : Int) v (pre ++ suf) p c = some (v, ys) := by
  induction suf with
  | nil =>
    intro pre hl h
    rw [spec_HelloOf.l0v_eq, if_neg (nlt_end pre)]
    simp only [Option.bind_some, List.length_nil, Nat.zero_add, List.nil_append]
    rw [List.append_nil] at h
    rw [if_pos (by omega), h]
    rfl
  | cons x suf ih =>
    intro pre hl h
    have hn : pre.length < (pre ++ x :: suf).length := by simp
    have hb : (bareX pre).length < 4398046511104 := by unfold bareX; rw [List.length_map]; omega
    rw [spec_HelloOf.l0v_eq, if_pos (lt_mid pre suf x), if_pos (by omega), if_pos hb, rd_mid, up_mid pre x hn hl]
    rw [mid_snoc pre suf x] at hl h ⊢
    have h1 := ih (pre ++ [x]) hl h
    simpa [bareX] using h1
theorem helloB (v t : List Int) (p : List S59) (c s : Int) (hv : v.length ≤ 1000000000000) (ht : t.length ≤ 1000000000000) (hp : p.length ≤ 1000000000000) (hs : ∀ x ∈ p, okB x) :
    ∃ u ys, impl_HelloOf.fv v t p c s = some (u, ys) ∧ spec_HelloOf.fv v t p c s = some (u, ys) ∧ u.length ≤ 1000000000000 ∧ ys.length ≤ 6 ∧ okXs ys := by
  rw [impl_HelloOf.fv_eq, spec_HelloOf.fv_eq, implIsE_v v t p c hv ht hp hs, specIsE_v v t p c hv ht hp hs]
  simp only [Option.bind_some]
  cases he : isE v t p c with
  | false => exact ⟨[], [], by simp, by simp, by simp, by simp, fun x hx => by cases hx⟩
  | true =>
    have h5 : t.length ≤ 5 := by
      unfold isE at he
      simp only [Bool.and_eq_true, decide_eq_true_eq] at he
      omega
    obtain ⟨ys, y1, y2, y3, y4⟩ := addB (bareX t) s (by unfold bareX; rw [List.length_map]; exact h5) (fun x hx => by
      obtain ⟨z, _, rfl⟩ := List.mem_map.1 hx
      simp)
    refine ⟨v, ys, ?_, ?_, hv, y3, y4⟩
    · rw [if_pos rfl]
      simpa [bareX] using helloI_l0 s v p c hv ys t [] (by simpa using ht) (by simpa using y1)
    · rw [if_pos rfl]
      simpa [bareX] using helloS_l0 s v p c hv ys t [] (by simpa using ht) (by simpa using y2)
end Go.Proofs.Ytibmehnippjakaa.Plain

/- The marks that a law writes into a result and looks for again. Condition: at most 10 to the 12 numbers, and the first mark is small. -/
set_option linter.unusedSimpArgs false
set_option linter.unusedVariables false
namespace Go.Proofs.Ytibmehnippjakaa.Plain
open Go.RowKit Go.Proofs.YtibmehnippjakaaW.PrintWords Go.Proofs.Ytibmehnippjakaa.Base Go.Proofs.Ytibmehnippjakaa.Print

/-- The marks of so many places. -/
def marks (a : Int) : Nat → List Int
  | 0 => []
  | n + 1 => a :: marks (a + 1) n
theorem marks_len (n : Nat) : ∀ a, (marks a n).length = n := by
  induction n with
  | zero =>
    intro a
    rfl
  | succ n ih =>
    intro a
    simp [marks, ih]
theorem markIntS_l0 (suf : List Int) : ∀ (pre : List Int) (a : Int), (pre ++ suf).length ≤ 1000000000000 → 0 ≤ a → a + suf.length ≤ 4000000000000000000 →
    laws_markIntS.l0v (pre ++ suf) a (pre.length : Int) = some (a + suf.length, pre ++ marks a suf.length) := by
  induction suf with
  | nil =>
    intro pre a _ _ _
    rw [laws_markIntS.l0v_eq, if_neg (nlt_end pre)]
    simp [marks]
  | cons x suf ih =>
    intro pre a hl h0 ha
    have hn : pre.length < (pre ++ x :: suf).length := by simp
    simp only [List.length_cons, Int.natCast_succ] at ha
    rw [laws_markIntS.l0v_eq, if_pos (lt_mid pre suf x), if_pos (by omega), set_mid, up_mid pre x hn hl, w64 (by omega) (by omega)]
    rw [mid_snoc pre suf x] at hl
    have h1 := ih (pre ++ [a]) (a + 1) (by simpa using hl) (by omega) (by omega)
    simp only [List.length_append, List.length_cons, List.length_nil] at h1 ⊢
    rw [h1]
    simp [marks]
    omega
theorem heldIntS_l0 (n : Nat) : ∀ (pre : List Int) (a : Int), pre.length + n ≤ 1000000000000 → 0 ≤ a → a + n ≤ 4000000000000000000 →
    laws_heldIntS.l0v (pre ++ marks a n) a (pre.length : Int) = some (a + n) := by
  induction n with
  | zero =>
    intro pre a _ _ _
    rw [marks, laws_heldIntS.l0v_eq, if_neg (nlt_end pre)]
    simp
  | succ n ih =>
    intro pre a hl h0 ha
    have hl' : (pre ++ a :: marks (a + 1) n).length ≤ 1000000000000 := by
      simp only [List.length_append, List.length_cons, marks_len]
      omega
    have hn : pre.length < (pre ++ a :: marks (a + 1) n).length := by simp
    rw [marks, laws_heldIntS.l0v_eq, if_pos (lt_mid pre (marks (a + 1) n) a), if_pos (by omega), rd_mid, if_pos rfl, up_mid pre a hn hl', w64 (by omega) (by omega), mid_snoc pre (marks (a + 1) n) a]
    have h1 := ih (pre ++ [a]) (a + 1) (by simp; omega) (by omega) (by omega)
    rw [h1]
    congr 1
    omega
theorem markIntS_v (l : List Int) (a : Int) (hl : l.length ≤ 1000000000000) (h0 : 0 ≤ a) (ha : a ≤ 3000000000000000000) : laws_markIntS.fv l a = some (a + l.length, marks a l.length) := by
  rw [laws_markIntS.fv_eq]
  exact markIntS_l0 l [] a (by simpa using hl) h0 (by omega)
theorem heldIntS_v (n : Nat) (a : Int) (hl : n ≤ 1000000000000) (h0 : 0 ≤ a) (ha : a ≤ 3000000000000000000) : laws_heldIntS.fv (marks a n) a = some (a + n) := by
  rw [laws_heldIntS.fv_eq]
  exact heldIntS_l0 n [] a (by simpa using hl) h0 (by omega)
end Go.Proofs.Ytibmehnippjakaa.Plain

/- The marks that a law writes into a hello and looks for again; two hellos of one form are equal. Condition: few extensions, rows of at most 10 to the 12. -/
set_option linter.unusedSimpArgs false
set_option linter.unusedVariables false
namespace Go.Proofs.Ytibmehnippjakaa.Plain
open Go.RowKit Go.Proofs.YtibmehnippjakaaW.PrintWords Go.Proofs.Ytibmehnippjakaa.Base Go.Proofs.Ytibmehnippjakaa.Print

/-- Marked extensions: so many marks. -/
def marksX (a : Int) : List S44 → List S44
  | [] => []
  | x :: l => ⟨a, marks (a + 1) x.f1.length⟩ :: marksX (a + 1 + (x.f1.length : Int)) l
def countX : List S44 → Nat
  | [] => 0
  | x :: l => 1 + x.f1.length + countX l
theorem countX_le {l : List S44} (h : okXs l) : countX l ≤ l.length * 1000000000001 := by
  induction l with
  | nil => simp [countX]
  | cons x l ih =>
    have h1 := h x List.mem_cons_self
    have h2 := ih (fun y hy => h y (List.mem_cons_of_mem _ hy))
    simp only [countX, List.length_cons]
    omega
theorem markExt_l0 (suf : List S44) : ∀ (pre : List S44) (a : Int), (pre ++ suf).length ≤ 1000000000000 → okXs suf → 0 ≤ a → a + countX suf ≤ 2000000000000000000 →
    laws_markExtS.l0v (pre ++ suf) a (pre.length : Int) = some (a + countX suf, pre ++ marksX a suf) := by
  induction suf with
  | nil =>
    intro pre a _ _ _ _
    rw [laws_markExtS.l0v_eq, if_neg (nlt_end pre)]
    simp [marksX, countX]
  | cons x suf ih =>
    intro pre a hl hs h0 ha
    have hn : pre.length < (pre ++ x :: suf).length := by simp
    have hx := hs x List.mem_cons_self
    simp only [countX, Int.natCast_add] at ha
    rw [laws_markExtS.l0v_eq, if_pos (lt_mid pre suf x), if_pos (by omega), rdExt_mid, w64 (x := a + 1) (by omega) (by omega), markIntS_v x.f1 (a + 1) hx (by omega) (by omega)]
    simp only [Option.bind_some]
    rw [set_mid, up_mid pre x hn hl]
    rw [mid_snoc pre suf x] at hl
    have h1 := ih (pre ++ [(⟨a, marks (a + 1) x.f1.length⟩ : S44)]) (a + 1 + (x.f1.length : Int)) (by simpa using hl) (fun y hy => hs y (List.mem_cons_of_mem _ hy)) (by omega) (by omega)
    simp only [List.length_append, List.length_cons, List.length_nil] at h1 ⊢
    rw [h1]
    simp only [marksX, countX, Int.natCast_add, List.append_assoc, List.cons_append, List.nil_append, Option.some.injEq, Prod.mk.injEq, and_true]
    omega
theorem heldExt_l0 (suf : List S44) : ∀ (pre : List S44) (a : Int), (pre ++ suf).length ≤ 1000000000000 → okXs suf → 0 ≤ a → a + countX suf ≤ 2000000000000000000 →
    laws_heldExtS.l0v (pre ++ marksX a suf) a (pre.length : Int) = some (a + countX suf) := by
  induction suf with
  | nil =>
    intro pre a _ _ _ _
    rw [marksX, laws_heldExtS.l0v_eq, if_neg (nlt_end pre)]
    simp [countX]
  | cons x suf ih =>
    intro pre a hl hs h0 ha
    have hx := hs x List.mem_cons_self
    simp only [countX, Int.natCast_add] at ha
    have hll : ∀ (l : List S44) (b : Int), (marksX b l).length = l.length := by
      intro l
      induction l with
      | nil => intro b; rfl
      | cons y l ih2 => intro b; simp [marksX, ih2]
    have hl' : (pre ++ (⟨a, marks (a + 1) x.f1.length⟩ : S44) :: marksX (a + 1 + (x.f1.length : Int)) suf).length ≤ 1000000000000 := by
      simp only [List.length_append, List.length_cons, hll] at hl ⊢
      omega
    have hn : pre.length < (pre ++ (⟨a, marks (a + 1) x.f1.length⟩ : S44) :: marksX (a + 1 + (x.f1.length : Int)) suf).length := by simp
    rw [marksX, laws_heldExtS.l0v_eq, if_pos (lt_mid pre _ _), if_pos (by omega), rdExt_mid, if_pos rfl, w64 (x := a + 1) (by omega) (by omega), heldIntS_v x.f1.length (a + 1) hx (by omega) (by omega), up_mid pre (⟨a, marks (a + 1) x.f1.length⟩ : S44) hn hl']
    simp only [Option.bind_some]
    rw [if_neg (by omega), mid_snoc pre _ _]
    rw [ih (pre ++ [(⟨a, marks (a + 1) x.f1.length⟩ : S44)]) (a + 1 + (x.f1.length : Int)) (by simpa using hl) (fun y hy => hs y (List.mem_cons_of_mem _ hy)) (by omega) (by omega)]
    simp only [countX, Int.natCast_add]
    congr 1
    omega
theorem markHello_v (v : List Int) (l : List S44) (hv : v.length ≤ 1000000000000) (hl : l.length ≤ 6) (hs : okXs l) :
    laws_markHello.fv v l 1 = some (1 + (v.length : Int) + (countX l : Int), marks 1 v.length, marksX (1 + (v.length : Int)) l) := by
  have hc := countX_le hs
  have h := markExt_l0 l [] (1 + (v.length : Int)) (by simp; omega) hs (by omega) (by omega)
  simp only [List.nil_append, List.length_nil, Int.natCast_zero] at h
  rw [laws_markHello.fv_eq, markIntS_v v 1 hv (by decide) (by decide)]
  simp only [Option.bind_some]
  rw [laws_markExtS.fv_eq, h]
  rfl
theorem heldHello_v (v : List Int) (l : List S44) (hv : v.length ≤ 1000000000000) (hl : l.length ≤ 6) (hs : okXs l) :
    laws_heldHello.fv (marks 1 v.length) (marksX (1 + (v.length : Int)) l) 1 = some (1 + (v.length : Int) + (countX l : Int)) := by
  have hc := countX_le hs
  have h := heldExt_l0 l [] (1 + (v.length : Int)) (by simp; omega) hs (by omega) (by omega)
  simp only [List.nil_append, List.length_nil, Int.natCast_zero] at h
  rw [laws_heldHello.fv_eq, heldIntS_v v.length 1 hv (by decide) (by decide)]
  simp only [Option.bind_some]
  rw [if_neg (by omega), laws_heldExtS.fv_eq, h]
  simp only [Option.bind_some]
  rw [if_neg (by omega)]
theorem eqExtS_l0 (suf : List S44) : ∀ (pre : List S44), (pre ++ suf).length ≤ 1000000000000 → okXs suf → laws_eqExtS.l0v (pre ++ suf) (pre ++ suf) (pre.length : Int) = some true := by
  induction suf with
  | nil =>
    intro pre _ _
    rw [laws_eqExtS.l0v_eq, if_neg (nlt_end pre)]
  | cons x suf ih =>
    intro pre hl hs
    have hn : pre.length < (pre ++ x :: suf).length := by simp
    rw [laws_eqExtS.l0v_eq, if_pos (lt_mid pre suf x), if_pos (by omega), if_pos (lt_mid pre suf x), rdExt_mid, up_mid pre x hn hl, laws_eqExt.fv_eq, if_pos rfl, eqIntS_v x.f1 x.f1 (hs x List.mem_cons_self)]
    simp only [Option.bind_some, decide_true, if_true]
    rw [mid_snoc pre suf x] at hl ⊢
    exact ih (pre ++ [x]) hl (fun y hy => hs y (List.mem_cons_of_mem _ hy))
theorem eqHello_v (v : List Int) (l : List S44) (hv : v.length ≤ 1000000000000) (hl : l.length ≤ 6) (hs : okXs l) : laws_eqHello.fv v l v l = some true := by
  have h := eqExtS_l0 l [] (by simp; omega) hs
  simp only [List.nil_append, List.length_nil, Int.natCast_zero] at h
  rw [laws_eqHello.fv_eq, eqIntS_v v v hv]
  simp only [Option.bind_some, decide_true, if_true]
  rw [laws_eqExtS.fv_eq, if_pos rfl, h]
  simp
end Go.Proofs.Ytibmehnippjakaa.Plain

/- Endpoints: their sizes, copies and equality, as the law's helpers tell them. Condition: at most 10 to the 12 of each. -/
set_option linter.unusedSimpArgs false
set_option linter.unusedVariables false
namespace Go.Proofs.Ytibmehnippjakaa.Plain
open Go.RowKit Go.Proofs.YtibmehnippjakaaW.PrintWords Go.Proofs.Ytibmehnippjakaa.Base Go.Proofs.Ytibmehnippjakaa.Print

/-- What is left of n behind an endpoint. -/
def sizeE (v t : List Int) (p : List S55) (n : Int) : Int :=
  if n < (v.length : Int) then -1 else if n - (v.length : Int) < (t.length : Int) then -1 else if sizeOf1 szB p (n - (v.length : Int) - (t.length : Int)) < 0 then -1 else sizeOf1 szB p (n - (v.length : Int) - (t.length : Int))
/-- Its rows are not too long. -/
def okE (v t : List Int) (p : List S55) : Prop := v.length ≤ 1000000000000 ∧ t.length ≤ 1000000000000 ∧ p.length ≤ 1000000000000 ∧ ∀ x ∈ p, okB (toB x)
theorem szEnd_v (v t : List Int) (p : List S55) (c n : Int) (h0 : 0 ≤ n) (h : n ≤ 1048576) (hv : v.length ≤ 1000000000000000000) (ht : t.length ≤ 1000000000000000000) (hp : p.length ≤ 100000000000000000) (hs : ∀ x ∈ p, x.f1.length ≤ 1000000000000000000 ∧ x.f2.length ≤ 1000000000000000000) : laws_szEndpoint.fv v t p c n = some (sizeE v t p n) := by
  rw [laws_szEndpoint.fv_eq, szIntS_f v n h0 h hv]
  simp only [Option.bind_some, sizeE]
  by_cases h1 : n < (v.length : Int)
  · rw [if_pos h1, if_pos (by omega), if_pos h1]
  · rw [if_neg h1, if_neg (by omega), if_neg h1, szIntS_f t _ (by omega) (by omega) ht]
    simp only [Option.bind_some]
    by_cases h2 : n - (v.length : Int) < (t.length : Int)
    · rw [if_pos h2, if_pos (by omega), if_pos h2]
    · rw [if_neg h2, if_neg (by omega), if_neg h2, szBoxS_v p _ (by omega) (by omega) hp hs]
      simp only [Option.bind_some]
      split <;> rfl
theorem sizeE_le {v t : List Int} {p : List S55} {n : Int} (h1 : n ≤ 1048576) (h : 0 ≤ sizeE v t p n) : sizeE v t p n ≤ n ∧ okE v t p := by
  unfold sizeE at h ⊢
  by_cases h2 : n < (v.length : Int)
  · rw [if_pos h2] at h
    omega
  · rw [if_neg h2] at h ⊢
    by_cases h3 : n - (v.length : Int) < (t.length : Int)
    · rw [if_pos h3] at h
      omega
    · rw [if_neg h3] at h ⊢
      by_cases h4 : sizeOf1 szB p (n - (v.length : Int) - (t.length : Int)) < 0
      · rw [if_pos h4] at h
        omega
      · rw [if_neg h4] at h ⊢
        obtain ⟨a, b, c⟩ := sizeOf1_le szB p _ h
        refine ⟨by omega, by omega, by omega, by omega, fun x hx => ?_⟩
        have h5 := c x hx
        unfold szB at h5
        exact ⟨by show x.f1.length ≤ _; omega, by show x.f2.length ≤ _; omega⟩
theorem toEnd_v (v t : List Int) (p : List S55) (c : Int) (h : okE v t p) : laws_toEndpoint.fv v t p c = some (v, t, p.map toB, c) := by
  obtain ⟨h1, h2, h3, h4⟩ := h
  rw [laws_toEndpoint.fv_eq, toIntS_v v h1, toIntS_v t h2, toBoxS_v p h3 h4]
  rfl
theorem eqEnd_v (v t : List Int) (p : List S55) (c : Int) (h : okE v t p) : laws_eqEndpoint.fv v t (p.map toB) c v t (p.map toB) c = some true := by
  obtain ⟨h1, h2, h3, h4⟩ := h
  have h5 : ∀ x ∈ p.map toB, okB x := by
    intro x hx
    obtain ⟨y, hy, rfl⟩ := List.mem_map.1 hx
    exact h4 y hy
  rw [laws_eqEndpoint.fv_eq, eqIntS_v v v h1, eqIntS_v t t h2, eqBoxS_v (p.map toB) (by rw [List.length_map]; exact h3) h5]
  simp
theorem okE_boxes {v t : List Int} {p : List S55} (h : okE v t p) : ∀ x ∈ p.map toB, okB x := by
  intro x hx
  obtain ⟨y, hy, rfl⟩ := List.mem_map.1 hx
  exact h.2.2.2 y hy
end Go.Proofs.Ytibmehnippjakaa.Plain

/- Sizes in all. Condition: what is left is no less than nothing. -/
set_option linter.unusedSimpArgs false
set_option linter.unusedVariables false
namespace Go.Proofs.Ytibmehnippjakaa.Plain
open Go.RowKit Go.Proofs.YtibmehnippjakaaW.PrintWords Go.Proofs.Ytibmehnippjakaa.Base Go.Proofs.Ytibmehnippjakaa.Print

/-- All sizes together. -/
def tot {α : Type} (f : α → Nat) : List α → Nat
  | [] => 0
  | x :: l => f x + tot f l
/-- What is left behind so much. -/
def less (m : Nat) (n : Int) : Int := if n < (m : Int) then -1 else n - (m : Int)
theorem sizes_tot {α : Type} (f : α → Nat) (l : List α) : ∀ n : Int, 0 ≤ n → sizes f l n = less (tot f l) n := by
  induction l with
  | nil =>
    intro n h
    have e : ((tot f ([] : List α) : Nat) : Int) = 0 := rfl
    show n = less (tot f ([] : List α)) n
    unfold less
    rw [e, if_neg (by omega)]
    omega
  | cons x l ih =>
    intro n h
    have e : ((tot f (x :: l) : Nat) : Int) = (f x : Int) + (tot f l : Int) := by simp [tot]
    rw [show less (tot f (x :: l)) n = if n < ((tot f (x :: l) : Nat) : Int) then -1 else n - ((tot f (x :: l) : Nat) : Int) from rfl, e]
    simp only [sizes]
    by_cases hc : n < (f x : Int)
    · rw [if_pos hc, if_pos (by omega)]
    · rw [if_neg hc, ih _ (by omega)]
      unfold less
      by_cases hd : n - (f x : Int) < (tot f l : Int)
      · rw [if_pos hd, if_pos (by omega)]
      · rw [if_neg hd, if_neg (by omega)]
        omega
theorem sizeOf1_tot {α : Type} (f : α → Nat) (l : List α) (n : Int) (h : 0 ≤ n) : sizeOf1 f l n = less (l.length + tot f l) n := by
  unfold sizeOf1
  by_cases hc : n < (l.length : Int)
  · rw [if_pos hc]
    unfold less
    rw [if_pos (by omega)]
  · rw [if_neg hc, sizes_tot f l _ (by omega)]
    unfold less
    by_cases hd : n - (l.length : Int) < (tot f l : Int)
    · rw [if_pos hd, if_pos (by omega)]
    · rw [if_neg hd, if_neg (by omega)]
      omega
theorem tot_le {α : Type} (f : α → Nat) {l : List α} {x : α} (h : x ∈ l) : f x ≤ tot f l := by
  induction l with
  | nil => cases h
  | cons y l ih =>
    simp only [tot]
    cases h with
    | head => omega
    | tail _ h =>
      have := ih h
      omega
theorem less_in {m : Nat} {n : Int} (h : 0 ≤ less m n) : (m : Int) ≤ n ∧ less m n = n - (m : Int) := by
  unfold less at h ⊢
  by_cases hc : n < (m : Int)
  · rw [if_pos hc] at h
    omega
  · rw [if_neg hc]
    omega
theorem less_neg {m : Nat} {n : Int} (h : less m n < 0) (h0 : 0 ≤ n) : n < (m : Int) := by
  unfold less at h
  by_cases hc : n < (m : Int)
  · exact hc
  · rw [if_neg hc] at h
    omega
/-- One size behind another. -/
theorem less_bind {m p : Nat} {n : Int} (h0 : 0 ≤ n) : (if less m n < 0 then (-1 : Int) else less p (less m n)) = less (m + p) n := by
  by_cases h : less m n < 0
  · have := less_neg h h0
    rw [if_pos h]
    unfold less
    rw [if_pos (by omega)]
  · obtain ⟨h1, h2⟩ := less_in (Int.not_lt.mp h)
    rw [if_neg h, h2]
    unfold less
    by_cases hd : n - (m : Int) < (p : Int)
    · rw [if_pos hd, if_pos (by omega)]
    · rw [if_neg hd, if_neg (by omega)]
      omega
theorem less_neg_add {m : Nat} (p : Nat) {n : Int} (h : less m n < 0) (h0 : 0 ≤ n) : (-1 : Int) = less (m + p) n := by
  have := less_neg h h0
  unfold less
  rw [if_pos (by omega)]
theorem less_add {m : Nat} (p : Nat) {n : Int} (h : ¬ less m n < 0) : less p (less m n) = less (m + p) n := by
  obtain ⟨h1, h2⟩ := less_in (Int.not_lt.mp h)
  rw [h2]
  unfold less
  by_cases hd : n - (m : Int) < (p : Int)
  · rw [if_pos hd, if_pos (by omega)]
  · rw [if_neg hd, if_neg (by omega)]
    omega
theorem szIntS_less (l : List Int) (n : Int) (h0 : 0 ≤ n) (h : n ≤ 1048576) (hl : l.length ≤ 1000000000000000000) : laws_szIntS.f l n = some (less l.length n) := szIntS_f l n h0 h hl
/-- Two rows the same, one by one. -/
def eqG {α : Type} (f : α → α → Bool) : List α → List α → Bool
  | [], [] => true
  | a :: l, b :: m => f a b && eqG f l m
  | _, _ => false
theorem eqG_len {α : Type} (f : α → α → Bool) {l m : List α} : l.length ≠ m.length → eqG f l m = false := by
  induction l generalizing m with
  | nil =>
    intro h
    cases m with
    | nil => exact absurd rfl h
    | cons b m => rfl
  | cons a l ih =>
    intro h
    cases m with
    | nil => rfl
    | cons b m =>
      simp only [eqG]
      rw [ih (by simpa using h), Bool.and_false]
end Go.Proofs.Ytibmehnippjakaa.Plain

/- How many marks an endpoint takes. Condition: what the law lets through. -/
set_option linter.unusedSimpArgs false
set_option linter.unusedVariables false
namespace Go.Proofs.Ytibmehnippjakaa.Plain
open Go.RowKit Go.Proofs.YtibmehnippjakaaW.PrintWords Go.Proofs.Ytibmehnippjakaa.Base Go.Proofs.Ytibmehnippjakaa.Print Go.Proofs.Ytibmehnippjakaa.Short

theorem cntE_eq (n : Nat) : ∀ k : Int, 0 ≤ k → k + n ≤ 4000000000000000000 → cnt n k = k + n := by
  induction n with
  | zero =>
    intro k _ _
    simp [cnt]
  | succ n ih =>
    intro k h0 h1
    simp only [cnt]
    rw [w64 (by omega) (by omega), ih (k + 1) (by omega) (by omega)]
    omega
theorem boxE_in (l : List S55) : ∀ k : Int, 0 ≤ k → k + 10 * ((l.length + tot szB l : Nat) : Int) ≤ 4000000000000000000 → k ≤ markC59 (l.map toB) k ∧ markC59 (l.map toB) k ≤ k + 10 * ((l.length + tot szB l : Nat) : Int) := by
  induction l with
  | nil =>
    intro k h0 h1
    simp only [List.map_nil, markC59]
    omega
  | cons x l ih =>
    intro k h0 h1
    have e1 : ((x :: l).length + tot szB (x :: l)) = 1 + szB x + (l.length + tot szB l) := by
      simp only [List.length_cons, tot]
      omega
    rw [e1] at h1 ⊢
    simp only [List.map_cons, markC59]
    have hx : k ≤ markE59 (toB x) k ∧ markE59 (toB x) k ≤ k + 10 * ((1 + szB x : Nat) : Int) := by
      unfold markE59 szB toB
      unfold szB at h1
      simp only
      rw [w64 (x := k + 1) (by omega) (by omega), cntE_eq _ (k + 1) (by omega) (by omega), cntE_eq _ _ (by omega) (by omega), w64 (by omega) (by omega)]
      omega
    have := ih (markE59 (toB x) k) (by omega) (by omega)
    omega
theorem sizeE_in {v t : List Int} {p : List S55} (h : 0 ≤ sizeE v t p 1048576) : (v.length + t.length + (p.length + tot szB p) : Int) ≤ 1048576 := by
  unfold sizeE at h
  by_cases h1 : (1048576 : Int) < (v.length : Int)
  · rw [if_pos h1] at h
    omega
  · rw [if_neg h1] at h
    by_cases h2 : 1048576 - (v.length : Int) < (t.length : Int)
    · rw [if_pos h2] at h
      omega
    · rw [if_neg h2, sizeOf1_tot szB _ _ (by omega)] at h
      unfold less at h
      by_cases h3 : 1048576 - (v.length : Int) - (t.length : Int) < ((p.length + tot szB p : Nat) : Int)
      · rw [if_pos h3] at h
        simp at h
      · omega
theorem markE_in (v t : List Int) (p : List S55) (c : Int) (h : 0 ≤ sizeE v t p 1048576) : ∃ k, laws_markEndpoint.f v t (p.map toB) c 1 = some k ∧ ¬ k < 0 := by
  have hs := sizeE_in h
  refine ⟨_, rfl, ?_⟩
  rw [cntE_eq v.length 1 (by omega) (by omega), cntE_eq t.length _ (by omega) (by omega)]
  have h1 := boxE_in p (1 + (v.length : Int) + (t.length : Int)) (by omega) (by omega)
  omega
end Go.Proofs.Ytibmehnippjakaa.Plain

/- FnExactHelloOf: whatever the endpoint and the seed, the program's HelloOf and the reference's HelloOf return the same, leave the endpoint as it was, and the result shares no memory. No condition. -/
set_option linter.unusedSimpArgs false
set_option linter.unusedVariables false
namespace Go.Proofs.Ytibmehnippjakaa.Pure
open Go.RowKit Go.Proofs.YtibmehnippjakaaW.PrintWords Go.Proofs.Ytibmehnippjakaa.Base Go.Proofs.Ytibmehnippjakaa.Print Go.Proofs.Ytibmehnippjakaa.Plain

set_option maxRecDepth 10000 in
theorem FnExactHelloOf : laws_FnExactHelloOf.Pure := by
  rintro ⟨v, t, p, c⟩ s ⟨⟨hv, _⟩, ⟨ht, _⟩, ⟨hp, hP⟩, _⟩ _
  have hv : v.length * 8 ≤ 140737488351232 := hv
  have ht : t.length * 8 ≤ 140737488351232 := ht
  have hp : p.length * 64 ≤ 140737488351232 := hp
  refine ends (g := fun k => laws_FnExactHelloOf.f k v t p c s) ?_
  show laws_FnExactHelloOf.fv v t p c s = some true
  rw [laws_FnExactHelloOf.fv_eq, szEnd_v v t p c 1048576 (by omega) (by omega) (by omega) (by omega) (by omega) (fun r hr => by
    obtain ⟨_, ⟨h5, _⟩, ⟨h6, _⟩, _⟩ := hP r hr
    exact ⟨by omega, by omega⟩)]
  simp only [Option.bind_some]
  by_cases h1 : sizeE v t p 1048576 < 0
  · rw [if_pos h1]
  · have o := (sizeE_le (by omega) (Int.not_lt.mp h1)).2
    have oB := okE_boxes o
    have op : (p.map toB).length ≤ 1000000000000 := by
      rw [List.length_map]
      exact o.2.2.1
    obtain ⟨u, ys, y1, y2, y3, y4, y5⟩ := helloB v t (p.map toB) c s o.1 o.2.1 op oB
    obtain ⟨k, hk, hk0⟩ := markE_in v t p c (Int.not_lt.mp h1)
    have hq : ¬ (1 + (u.length : Int) + (countX ys : Int) < 0) := by omega
    rw [if_neg h1, toEnd_v v t p c o]
    simp only [Option.bind_some, y1, y2, eqHello_v u ys y3 y4 y5, if_true, eqEnd_v v t p c o, hk, if_neg hk0, Bool.not_true, laws_FnExactHelloOf.j0v_eq, Bool.false_eq_true, if_false, markHello_v u ys y3 y4 y5, heldHello_v u ys y3 y4 y5, if_neg hq, toEnd_v v t p c o]
end Go.Proofs.Ytibmehnippjakaa.Pure
