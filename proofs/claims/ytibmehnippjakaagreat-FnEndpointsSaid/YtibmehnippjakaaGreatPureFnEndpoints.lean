/- FnEndpoints: whatever the bytes that the law draws from, values in motion never change what an endpoint gets. No condition. -/
import Derived.Test.YtibmehnippjakaaGreatLimsFnEndpoints
import Derived.Test.YtibmehnippjakaaGreatPrint1
import Derived.Test.YtibmehnippjakaaGreatPrint0
import Derived.Test.YtibmehnippjakaaGreatPrint4
import Derived.Test.YtibmehnippjakaaGreatPrint8
import Derived.Test.YtibmehnippjakaaGreatPrint10
import Derived.Test.YtibmehnippjakaaGreatPrint17
import Derived.Test.YtibmehnippjakaaGreatPrint23
import Derived.Laws.Bits64b
/- Lists read by a whole number's index, and whole numbers that fit. No condition. -/
set_option linter.unusedSimpArgs false
set_option linter.unusedVariables false
namespace Go.Proofs.YtibmehnippjakaaGreat.Plain
open Go.RowKit Go.Proofs.YtibmehnippjakaaGreatW.PrintWords
theorem w64 {x : Int} (h0 : -9223372036854775808 ≤ x) (h1 : x ≤ 9223372036854775807) : wrap64 x = x := by
 unfold wrap64
 omega
theorem IP (pre suf : List Int) (x : Int) : rd (pre ++ x :: suf) (pre.length : Int) = x := by simp [rd]
theorem EI {α : Type} (pre suf : List α) (x : α) : (pre.length : Int) < ((pre ++ x :: suf).length : Int) := by
 simp
 omega
theorem E3 {α : Type} (pre : List α) : ¬ (pre.length : Int) < ((pre ++ []).length : Int) := by simp
theorem F' {α : Type} (pre : List α) (x : α) {n : Nat} (h : pre.length < n) (hn : n ≤ 1000000000000) : wrap64 ((pre.length : Int) + 1) = ((pre ++ [x]).length : Int) := by
 rw [w64 (by omega) (by omega)]
 simp
theorem Eg {α : Type} (pre suf : List α) (x : α) : pre ++ x :: suf = (pre ++ [x]) ++ suf := by simp
end Go.Proofs.YtibmehnippjakaaGreat.Plain

/- Ranges, of the program and of the reference. No condition. -/
set_option linter.unusedSimpArgs false
set_option linter.unusedVariables false
namespace Go.Proofs.YtibmehnippjakaaGreat.Plain
open Go.RowKit Go.Proofs.YtibmehnippjakaaGreatW.PrintWords Go.Proofs.YtibmehnippjakaaGreat.Base Go.Proofs.YtibmehnippjakaaGreat.Print
def inR (lo hi n : Int) : Bool := decide (lo ≤ n) && decide (n ≤ hi)
theorem He {lo hi n : Int} : inR lo hi n = true ↔ lo ≤ n ∧ n ≤ hi := by simp [inR]
theorem Hj (n lo hi : Int) : Cb.f n lo hi = some (inR lo hi n) := by
 unfold Cb.f inR
 by_cases h : lo ≤ n <;> simp [h]
end Go.Proofs.YtibmehnippjakaaGreat.Plain

/- Lists of versions: ascending, from 1 to 9; membership; what two lists share. No program. No condition. -/
set_option linter.unusedSimpArgs false
set_option linter.unusedVariables false
namespace Go.Proofs.YtibmehnippjakaaGreat.Plain
open Go.RowKit Go.Proofs.YtibmehnippjakaaGreatW.PrintWords Go.Proofs.YtibmehnippjakaaGreat.Base Go.Proofs.YtibmehnippjakaaGreat.Print
def vers : Int → List Int → Bool
 | _, [] => true
 | p, x :: l => inR 1 9 x && (decide (p < x) && vers x l)
def Hv (l : List Int) : Bool := vers 0 l && decide (0 < l.length)
def mem (l : List Int) (x : Int) : Bool := decide (x ∈ l)
def com (a b : List Int) : List Int := a.filter (mem b)
def best (a b : List Int) : Int := if Hv a && Hv b then (com a b).getLastD 0 else 0
theorem Ek (x y : Int) (l : List Int) : mem (y :: l) x = (decide (y = x) || mem l x) := by
 by_cases h : y = x
 · simp [mem, h]
 · have h' : ¬ x = y := fun e => h e.symm
   simp [mem, h, h']
theorem Wm {p q : Int} {l : List Int} (h : vers p l = true) (hq : q ≤ p) : vers q l = true := by
 cases l with
 | nil => rfl
 | cons x l =>
  simp only [vers, Bool.and_eq_true, decide_eq_true_eq] at h ⊢
  exact ⟨h.1, by omega, h.2.2⟩
theorem M3 (f : Int → Bool) {l : List Int} : ∀ {p : Int}, vers p l = true → vers p (l.filter f) = true := by
 induction l with
 | nil =>
  intro p h
  rfl
 | cons x l ih =>
  intro p h
  simp only [vers, Bool.and_eq_true, decide_eq_true_eq] at h
  cases hf : f x with
  | true =>
   rw [List.filter_cons_of_pos hf]
   simp only [vers, Bool.and_eq_true, decide_eq_true_eq]
   exact ⟨h.1, h.2.1, ih h.2.2⟩
  | false =>
   rw [List.filter_cons_of_neg (by simp [hf])]
   exact Wm (ih h.2.2) (by omega)
theorem VX {l : List Int} : ∀ {p : Int}, vers p l = true → p ≤ 9 → (l.length : Int) ≤ 9 - p := by
 induction l with
 | nil =>
  intro p _ hp
  simp
  omega
 | cons x l ih =>
  intro p h hp
  simp only [vers, Bool.and_eq_true, decide_eq_true_eq, He] at h
  have := ih h.2.2 (by omega)
  simp only [List.length_cons]
  omega
theorem KT {l : List Int} (h : Hv l = true) : l.length ≤ 9 := by
 simp only [Hv, Bool.and_eq_true] at h
 have := VX h.1 (by omega)
 omega
theorem NH {l : List Int} : ∀ {p : Int}, vers p l = true → ∀ x ∈ l, 1 ≤ x ∧ x ≤ 9 ∧ p < x := by
 induction l with
 | nil =>
  intro p _ x hx
  cases hx
 | cons y l ih =>
  intro p h x hx
  simp only [vers, Bool.and_eq_true, decide_eq_true_eq, He] at h
  cases hx with
  | head => omega
  | tail _ hx =>
   have := ih h.2.2 x hx
   omega
theorem J1 {l : List Int} (h : Hv l = true) : ∀ x ∈ l, 1 ≤ x ∧ x ≤ 9 := by
 simp only [Hv, Bool.and_eq_true] at h
 intro x hx
 have := NH h.1 x hx
 omega
theorem XQ (a b : List Int) : (com a b).length ≤ a.length := List.length_filter_le _ _
theorem It (x : Int) (l : List Int) (d : Int) : (x :: l).getLastD d = l.getLastD x := by
 cases l <;> rfl
theorem Qj (pre suf : List Int) (h : pre ≠ []) : rd (pre ++ suf) ((pre.length : Int) - 1) = pre.getLastD 0 := by
 have hl : 0 < pre.length := List.length_pos_iff.mpr h
 have e : ((pre.length : Int) - 1).toNat = pre.length - 1 := by omega
 have h1 : pre.length - 1 < pre.length := by omega
 simp [rd, e, List.getD_eq_getElem?_getD, List.getElem?_append_left h1, List.getLastD_eq_getLast?, List.getLast?_eq_getElem?]
theorem Ol (l : List Int) (h : l ≠ []) (d : Int) : l.getLastD d ∈ l := by
 cases l with
 | nil => exact absurd rfl h
 | cons x l => exact List.getLast_mem _
end Go.Proofs.YtibmehnippjakaaGreat.Plain

/- Extensions and hellos in form. No program. No condition. -/
set_option linter.unusedSimpArgs false
set_option linter.unusedVariables false
namespace Go.Proofs.YtibmehnippjakaaGreat.Plain
open Go.RowKit Go.Proofs.YtibmehnippjakaaGreatW.PrintWords Go.Proofs.YtibmehnippjakaaGreat.Base Go.Proofs.YtibmehnippjakaaGreat.Print
theorem HV (pre suf : List S81) (x : S81) : AX (pre ++ x :: suf) (pre.length : Int) = x := by simp [AX]
def IQ (l : List S81) (t : Int) : Bool := l.any (fun y => decide (y.f0 = t))
def Iy : List S81 → List S81 → Bool
 | _, [] => true
 | pre, x :: l => inR 0 255 x.f0 && (!IQ pre x.f0 && (decide (x.f1.length ≤ 4) && (x.f1.all (inR 0 255) && Iy (pre ++ [x]) l)))
def isX (l : List S81) : Bool := Iy [] l && decide (l.length ≤ 6)
def isH (v : List Int) (l : List S81) : Bool := Hv v && isX l
def F9 (l : List S81) : Prop := ∀ x ∈ l, x.f1.length ≤ 1000000000000
theorem Uo {l : List S81} : ∀ {pre}, Iy pre l = true → ∀ x ∈ l, x.f1.length ≤ 4 := by
 induction l with
 | nil =>
  intro pre _ x hx
  cases hx
 | cons y l ih =>
  intro pre h x hx
  simp only [Iy, Bool.and_eq_true, decide_eq_true_eq] at h
  cases hx with
  | head => exact h.2.2.1
  | tail _ hx => exact ih h.2.2.2.2 x hx
end Go.Proofs.YtibmehnippjakaaGreat.Plain

/- When two boxes, and two paths, are the same. No program. No condition. -/
set_option linter.unusedSimpArgs false
set_option linter.unusedVariables false
namespace Go.Proofs.YtibmehnippjakaaGreat.Plain
open Go.RowKit Go.Proofs.YtibmehnippjakaaGreatW.PrintWords Go.Proofs.YtibmehnippjakaaGreat.Base Go.Proofs.YtibmehnippjakaaGreat.Print
theorem Lp (pre suf : List S75) (x : S75) : EM (pre ++ x :: suf) (pre.length : Int) = x := by simp [EM]
def okB (b : S75) : Prop := b.f1.length ≤ 1000000000000 ∧ b.f2.length ≤ 1000000000000
end Go.Proofs.YtibmehnippjakaaGreat.Plain

/- When a box, a list of tags and an endpoint are in form. No program. No condition. -/
set_option linter.unusedSimpArgs false
set_option linter.unusedVariables false
namespace Go.Proofs.YtibmehnippjakaaGreat.Plain
open Go.RowKit Go.Proofs.YtibmehnippjakaaGreatW.PrintWords Go.Proofs.YtibmehnippjakaaGreat.Base Go.Proofs.YtibmehnippjakaaGreat.Print
def isB (b : S75) : Bool := inR 0 9 b.f0 && (decide (b.f1.length ≤ 6) && (decide (b.f2.length ≤ 6) && (b.f1.all (inR 0 255) && b.f2.all (inR 0 255))))
def res (x : Int) : Bool := inR 0 255 x && (Int.tmod x 16 == 10)
def above : Option Int → Int → Bool
 | none, _ => true
 | some p, x => decide (p < x)
def asc : Option Int → List Int → Bool
 | _, [] => true
 | o, x :: l => above o x && asc (some x) l
def isE (v t : List Int) (p : List S75) (c : Int) : Bool :=
 Hv v && (decide (t.length ≤ 5) && ((asc none t && t.all (inR 0 255)) && (!(t.any res) && (decide (p.length ≤ 4) && (p.all isB && inR 0 5 c)))))
theorem Y7 (pre suf : List Int) (h : pre ≠ []) : pre.getLast? = some (rd (pre ++ suf) ((pre.length : Int) - 1)) := by
 rw [Qj pre suf h, List.getLast?_eq_some_getLast h]
 cases pre with
 | nil => exact absurd rfl h
 | cons x l => rfl
end Go.Proofs.YtibmehnippjakaaGreat.Plain

/- What a box does to a hello. No program. No condition. -/
set_option linter.unusedSimpArgs false
set_option linter.unusedVariables false
namespace Go.Proofs.YtibmehnippjakaaGreat.Plain
open Go.RowKit Go.Proofs.YtibmehnippjakaaGreatW.PrintWords Go.Proofs.YtibmehnippjakaaGreat.Base Go.Proofs.YtibmehnippjakaaGreat.Print
def drops (b : S75) (t : Int) : Bool := mem b.f1 t || (b.f3 && (!mem b.f2 t && !inR 1 3 t))
def lose (b : S75) (v : List Int) (l : List S81) : Bool := (!decide (b.f0 = 0) && decide (v.getLastD 0 > b.f0)) || l.any (fun x => drops b x.f0)
def kept (b : S75) (l : List S81) : List S81 := l.filter (fun x => !mem b.f2 x.f0)
def pass (b : S75) (v : List Int) (l : List S81) : List Int × List S81 × Bool :=
 if isB b && (isH v l && !lose b v l) then (v, kept b l, true) else ([], [], false)
end Go.Proofs.YtibmehnippjakaaGreat.Plain

/- What a server answers. No program. No condition. -/
set_option linter.unusedSimpArgs false
set_option linter.unusedVariables false
namespace Go.Proofs.YtibmehnippjakaaGreat.Plain
open Go.RowKit Go.Proofs.YtibmehnippjakaaGreatW.PrintWords Go.Proofs.YtibmehnippjakaaGreat.Base Go.Proofs.YtibmehnippjakaaGreat.Print
def answer (t : List Int) (l : List S81) : List S81 := (l.filter (fun x => mem t x.f0)).filter (fun x => !res x.f0)
theorem Rx (t : List Int) (l : List S81) : (answer t l).length ≤ l.length := Nat.le_trans (List.length_filter_le _ _) (List.length_filter_le _ _)
theorem Un {l : List S81} (t : List Int) (h : F9 l) : F9 (answer t l) := fun x hx => h x (List.mem_filter.mp (List.mem_filter.mp hx).1).1
def choose (w t v : List Int) (l : List S81) : Int × List S81 × Bool := if isH v l && !decide (best w v = 0) then (best w v, answer t l, true) else (0, [], false)
def isA (v : Int) (l : List S81) : Bool := inR 1 9 v && isX l
end Go.Proofs.YtibmehnippjakaaGreat.Plain

/- AreVersions, of the program. Condition: at most 10 to the 12 numbers. -/
set_option linter.unusedSimpArgs false
set_option linter.unusedVariables false
namespace Go.Proofs.YtibmehnippjakaaGreat.Plain
open Go.RowKit Go.Proofs.YtibmehnippjakaaGreatW.PrintWords Go.Proofs.YtibmehnippjakaaGreat.Base Go.Proofs.YtibmehnippjakaaGreat.Print
theorem RB (suf : List Int) : ∀ pre : List Int, (pre ++ suf).length ≤ 1000000000000 →
 Ah.l0v (pre ++ suf) (pre ++ suf) ((pre ++ suf).length : Int) (pre.length : Int) = some (vers (pre.getLastD 0) suf && decide (0 < (pre ++ suf).length)) := by
 induction suf with
 | nil =>
  intro pre hl
  rw [Ah.l0v_eq, if_neg (E3 pre)]
  by_cases h : 0 < pre.length <;> simp [vers, h]
 | cons x suf ih =>
  intro pre hl
  have hn : pre.length < (pre ++ x :: suf).length := by simp
  rw [Ah.l0v_eq, if_pos (EI pre suf x), if_pos (by omega), if_pos (EI pre suf x), IP, Hj]
  simp only [Option.bind_some, vers]
  cases hx : inR 1 9 x with
  | false => simp
  | true =>
   rw [if_pos rfl, F' pre x hn hl]
   have h1 := ih (pre ++ [x]) (by simpa using hl)
   rw [← Eg pre suf x] at h1
   rw [h1]
   have hr := He.mp hx
   by_cases hp : pre = []
   · subst hp
     rw [if_neg (by simp)]
     have h0 : (0 : Int) < x := by omega
     simp [h0]
   · have hpl : 0 < pre.length := List.length_pos_iff.mpr hp
     rw [if_pos (by omega), w64 (x := (pre.length : Int) - 1) (by omega) (by omega), if_pos (by omega), if_pos (by omega), Qj pre _ hp]
     by_cases hlt : pre.getLastD 0 < x
     · rw [if_neg (by omega)]
       generalize pre.getLastD 0 = q at hlt
       simp [hlt]
     · rw [if_pos (by omega)]
       generalize pre.getLastD 0 = q at hlt
       simp [hlt]
theorem Iu (l : List Int) (hl : l.length ≤ 1000000000000) : Ah.fv l = some (Hv l) := by
 rw [Ah.fv_eq]
 simpa [Hv] using RB l [] (by simpa using hl)
end Go.Proofs.YtibmehnippjakaaGreat.Plain

/- slices.Contains on whole numbers. Condition: at most 10 to the 12 numbers. -/
set_option linter.unusedSimpArgs false
set_option linter.unusedVariables false
namespace Go.Proofs.YtibmehnippjakaaGreat.Plain
open Go.RowKit Go.Proofs.YtibmehnippjakaaGreatW.PrintWords Go.Proofs.YtibmehnippjakaaGreat.Base Go.Proofs.YtibmehnippjakaaGreat.Print
theorem R2 (x : Int) (suf : List Int) : ∀ (pre : List Int), (pre ++ suf).length ≤ 1000000000000 →
 ∃ r, BC.l0v (pre ++ suf) x ((pre ++ suf).length : Int) (pre.length : Int) = some r ∧ decide (r ≥ 0) = mem suf x := by
 induction suf with
 | nil =>
  intro pre _
  refine ⟨-1, ?_, by simp [mem]⟩
  rw [BC.l0v_eq, if_neg (E3 pre)]
 | cons y suf ih =>
  intro pre hl
  have hn : pre.length < (pre ++ y :: suf).length := by simp
  rw [BC.l0v_eq, if_pos (EI pre suf y), if_pos (by omega), if_pos (EI pre suf y), IP]
  by_cases hxy : x = y
  · rw [if_pos hxy]
    refine ⟨(pre.length : Int), rfl, ?_⟩
    rw [Ek, hxy]
    simp
  · rw [if_neg hxy, F' pre y hn hl]
    rw [Eg pre suf y] at hl ⊢
    obtain ⟨r, h1, h2⟩ := ih (pre ++ [y]) hl
    refine ⟨r, h1, ?_⟩
    rw [h2, Ek]
    simp [show ¬ y = x from fun e => hxy e.symm]
theorem JQ (l : List Int) (x : Int) (hl : l.length ≤ 1000000000000) : Ad.fv l x = some (mem l x) := by
 obtain ⟨r, h1, h2⟩ := R2 x l [] (by simpa using hl)
 rw [Ad.fv_eq, BC.fv_eq]
 simp only [List.nil_append, List.length_nil, Int.natCast_zero] at h1
 rw [h1]
 simp [h2]
end Go.Proofs.YtibmehnippjakaaGreat.Plain

/- CommonOf, BestCommon and without, of the program. Condition: at most 10 to the 12 numbers each. -/
set_option linter.unusedSimpArgs false
set_option linter.unusedVariables false
namespace Go.Proofs.YtibmehnippjakaaGreat.Plain
open Go.RowKit Go.Proofs.YtibmehnippjakaaGreatW.PrintWords Go.Proofs.YtibmehnippjakaaGreat.Base Go.Proofs.YtibmehnippjakaaGreat.Print
theorem Ru (b : List Int) (hb : b.length ≤ 1000000000000) (suf : List Int) : ∀ (pre out : List Int), (pre ++ suf).length ≤ 1000000000000 → out.length ≤ pre.length →
 Bf.l0v b out (pre ++ suf) ((pre ++ suf).length : Int) (pre.length : Int) = some (out ++ com suf b) := by
 induction suf with
 | nil =>
  intro pre out _ _
  rw [Bf.l0v_eq, if_neg (E3 pre)]
  simp [com]
 | cons x suf ih =>
  intro pre out hl ho
  have hn : pre.length < (pre ++ x :: suf).length := by simp
  have hp : pre.length < 1000000000000 := by omega
  rw [Bf.l0v_eq, if_pos (EI pre suf x), if_pos (by omega), if_pos (EI pre suf x), IP, JQ b x hb, F' pre x hn hl]
  simp only [Option.bind_some]
  rw [Eg pre suf x] at hl ⊢
  cases hx : mem b x with
  | true =>
   rw [if_pos rfl, if_pos (by omega), ih (pre ++ [x]) (out ++ [x]) hl (by simp; omega)]
   simp [com, hx]
  | false =>
   rw [if_neg (by simp), ih (pre ++ [x]) out hl (by simp; omega)]
   simp [com, hx]
theorem Uy (a b : List Int) (ha : a.length ≤ 1000000000000) (hb : b.length ≤ 1000000000000) : Bf.fv a b = some (com a b) := by
 rw [Bf.fv_eq]
 simpa using Ru b hb a [] [] (by simpa using ha) (by simp)
theorem S9 (suf : List Int) : ∀ (pre : List Int) (m : Int), (pre ++ suf).length ≤ 1000000000000 → vers m suf = true →
 Ak.l0v m (pre ++ suf) ((pre ++ suf).length : Int) (pre.length : Int) = some (suf.getLastD m) := by
 induction suf with
 | nil =>
  intro pre m _ _
  rw [Ak.l0v_eq, if_neg (E3 pre)]
  simp
 | cons x suf ih =>
  intro pre m hl hv
  have hn : pre.length < (pre ++ x :: suf).length := by simp
  have hp : pre.length < 1000000000000 := by omega
  simp only [vers, Bool.and_eq_true, decide_eq_true_eq] at hv
  have hm : mx m x = x := by
   unfold mx
   split <;> omega
  rw [Ak.l0v_eq, if_pos (EI pre suf x), if_pos (by omega), if_pos (EI pre suf x), IP, F' pre x hn hl, hm]
  rw [Eg pre suf x] at hl ⊢
  rw [ih (pre ++ [x]) x hl hv.2.2]
  rw [It]
theorem K4 (a b : List Int) (ha : a.length ≤ 1000000000000) (hb : b.length ≤ 1000000000000) : Ak.fv a b = some (best a b) := by
 rw [Ak.fv_eq, Iu a ha, Iu b hb]
 simp only [Option.bind_some, Ak.j0v_eq, Uy a b ha hb]
 unfold best
 cases h1 : Hv a with
 | false => simp
 | true =>
  cases Hv b with
  | false => simp
  | true =>
   have hc := XQ a b
   have hv : vers 0 (com a b) = true := M3 _ (by simp only [Hv, Bool.and_eq_true] at h1; exact h1.1)
   have h := S9 (com a b) [] 0 (by simp; omega) hv
   simp only [List.nil_append, List.length_nil, Int.natCast_zero] at h
   simp [h]
end Go.Proofs.YtibmehnippjakaaGreat.Plain

/- Lists of numbers in a range. Condition: the slice has at most 10 to the 12 numbers. -/
set_option linter.unusedSimpArgs false
set_option linter.unusedVariables false
namespace Go.Proofs.YtibmehnippjakaaGreat.Plain
open Go.RowKit Go.Proofs.YtibmehnippjakaaGreatW.PrintWords Go.Proofs.YtibmehnippjakaaGreat.Base Go.Proofs.YtibmehnippjakaaGreat.Print
theorem OM (lo hi : Int) (suf : List Int) : ∀ (pre : List Int), (pre ++ suf).length ≤ 1000000000000 →
 ∃ r, AK.l0v (pre ++ suf) ((pre ++ suf).length : Int) (pre.length : Int) lo hi = some r ∧ decide (r ≥ 0) = !(suf.all (inR lo hi)) := by
 induction suf with
 | nil =>
  intro pre _
  refine ⟨-1, ?_, by simp⟩
  rw [AK.l0v_eq, if_neg (E3 pre)]
 | cons x suf ih =>
  intro pre hl
  have hn : pre.length < (pre ++ x :: suf).length := by simp
  rw [AK.l0v_eq, if_pos (EI pre suf x), if_pos (by omega), if_pos (EI pre suf x), IP]
  unfold HE.f
  rw [Hj]
  simp only [Option.bind_some]
  cases hx : inR lo hi x with
  | false =>
   refine ⟨(pre.length : Int), by simp, ?_⟩
   simp [hx]
  | true =>
   rw [F' pre x hn hl]
   simp only [Bool.not_true, Bool.false_eq_true, if_false]
   rw [Eg pre suf x] at hl ⊢
   obtain ⟨r, h1, h2⟩ := ih (pre ++ [x]) hl
   exact ⟨r, h1, by rw [h2]; simp [hx]⟩
theorem Il (l : List Int) (lo hi : Int) (hl : l.length ≤ 1000000000000) : Bn.fv l lo hi = some (l.all (inR lo hi)) := by
 obtain ⟨r, h1, h2⟩ := OM lo hi l [] (by simpa using hl)
 rw [Bn.fv_eq, Ao.fv_eq, AK.fv_eq]
 simp only [List.nil_append, List.length_nil, Int.natCast_zero] at h1
 rw [h1]
 simp [h2]
end Go.Proofs.YtibmehnippjakaaGreat.Plain

/- ExtOf, AreExts and IsHello, of the program. Condition: at most 10 to the 12 of each. -/
set_option linter.unusedSimpArgs false
set_option linter.unusedVariables false
namespace Go.Proofs.YtibmehnippjakaaGreat.Plain
open Go.RowKit Go.Proofs.YtibmehnippjakaaGreatW.PrintWords Go.Proofs.YtibmehnippjakaaGreat.Base Go.Proofs.YtibmehnippjakaaGreat.Print
theorem Pz (t : Int) (suf : List S81) : ∀ (pre : List S81), (pre ++ suf).length ≤ 1000000000000 →
 ∃ r, AG.l0v (pre ++ suf) ((pre ++ suf).length : Int) (pre.length : Int) t = some r ∧ decide (r ≥ 0) = IQ suf t := by
 induction suf with
 | nil =>
  intro pre _
  refine ⟨-1, ?_, by simp [IQ]⟩
  rw [AG.l0v_eq, if_neg (E3 pre)]
 | cons x suf ih =>
  intro pre hl
  have hn : pre.length < (pre ++ x :: suf).length := by simp
  rw [AG.l0v_eq, if_pos (EI pre suf x), if_pos (by omega), if_pos (EI pre suf x), HV]
  unfold H7.f
  simp only [Option.bind_some, beq_iff_eq]
  by_cases hx : x.f0 = t
  · rw [if_pos hx]
    exact ⟨(pre.length : Int), rfl, by simp [IQ, hx]⟩
  · rw [if_neg hx, F' pre x hn hl]
    rw [Eg pre suf x] at hl ⊢
    obtain ⟨r, h1, h2⟩ := ih (pre ++ [x]) hl
    exact ⟨r, h1, by rw [h2]; simp [IQ, hx]⟩
theorem Lm (l : List S81) (t : Int) (hl : l.length ≤ 1000000000000) : ∃ r, EO.fv l t = some r ∧ decide (r ≥ 0) = IQ l t := by
 obtain ⟨r, h1, h2⟩ := Pz t l [] (by simpa using hl)
 refine ⟨r, ?_, h2⟩
 rw [EO.fv_eq, AG.fv_eq]
 simp only [List.nil_append, List.length_nil, Int.natCast_zero] at h1
 rw [h1]
 rfl
theorem Qk (suf : List S81) : ∀ (pre : List S81), (pre ++ suf).length ≤ 1000000000000 → F9 suf →
 BE.l0v (pre ++ suf) (pre ++ suf) ((pre ++ suf).length : Int) (pre.length : Int) = some (Iy pre suf && decide ((pre ++ suf).length ≤ 6)) := by
 induction suf with
 | nil =>
  intro pre _ _
  rw [BE.l0v_eq, if_neg (E3 pre)]
  simp only [Iy, Bool.true_and, show (((pre ++ []).length : Int) ≤ 6) ↔ ((pre ++ []).length ≤ 6) from by omega]
 | cons x suf ih =>
  intro pre hl hs
  have hn : pre.length < (pre ++ x :: suf).length := by simp
  have ht : (pre ++ x :: suf).take ((pre.length : Int)).toNat = pre := by simp
  obtain ⟨r, e1, e2⟩ := Lm pre x.f0 (by omega)
  have h1 := ih (pre ++ [x]) (by simpa using hl) (fun y hy => hs y (List.mem_cons_of_mem _ hy))
  rw [← Eg pre suf x] at h1
  rw [BE.l0v_eq, if_pos (EI pre suf x), if_pos (by omega), if_pos (EI pre suf x), HV, Hj, ht, e1, Il _ _ _ (hs x List.mem_cons_self), F' pre x hn hl, h1]
  simp only [Option.bind_some, Iy]
  rw [← e2]
  generalize Iy (pre ++ [x]) suf = z
  generalize decide ((pre ++ x :: suf).length ≤ 6) = q
  generalize x.f1.all (inR 0 255) = y
  cases inR 0 255 x.f0 with
  | false => simp
  | true =>
   rw [if_pos rfl, if_pos (by omega)]
   by_cases h2 : r ≥ 0
   · simp [h2]
   · by_cases h3 : x.f1.length ≤ 4
     · rw [if_neg h2, if_neg (by omega)]
       cases y <;> simp [h2, h3]
     · rw [if_neg h2, if_pos (by omega)]
       simp [h3]
theorem JE (l : List S81) (hl : l.length ≤ 1000000000000) (hs : F9 l) : BE.fv l = some (isX l) := by
 rw [BE.fv_eq]
 simpa [isX] using Qk l [] (by simpa using hl) hs
theorem H3 (v : List Int) (l : List S81) (hv : v.length ≤ 1000000000000) (hl : l.length ≤ 1000000000000) (hs : F9 l) : BQ.fv v l = some (isH v l) := by
 rw [BQ.fv_eq, Iu v hv, JE l hl hs]
 simp only [Option.bind_some, isH]
 cases Hv v <;> simp
end Go.Proofs.YtibmehnippjakaaGreat.Plain

/- IsBox, of the program. Condition: at most 10 to the 12 of each. -/
set_option linter.unusedSimpArgs false
set_option linter.unusedVariables false
namespace Go.Proofs.YtibmehnippjakaaGreat.Plain
open Go.RowKit Go.Proofs.YtibmehnippjakaaGreatW.PrintWords Go.Proofs.YtibmehnippjakaaGreat.Base Go.Proofs.YtibmehnippjakaaGreat.Print
theorem Oz (b : S75) (h : okB b) : EW.fv b.f0 b.f1 b.f2 b.f3 = some (isB b) := by
 rw [EW.fv_eq, Hj, Il _ _ _ h.1, Il _ _ _ h.2]
 simp only [Option.bind_some, isB]
 simp only [show ((b.f1.length : Int) ≤ 6) ↔ (b.f1.length ≤ 6) from by omega, show ((b.f2.length : Int) ≤ 6) ↔ (b.f2.length ≤ 6) from by omega]
 generalize inR 0 9 b.f0 = x
 generalize b.f1.all (inR 0 255) = y
 generalize b.f2.all (inR 0 255) = z
 by_cases h1 : b.f1.length ≤ 6 <;> by_cases h2 : b.f2.length ≤ 6 <;> cases x <;> cases y <;> cases z <;> simp [h1, h2]
end Go.Proofs.YtibmehnippjakaaGreat.Plain

/- IsBox, areTags, IsHardened and IsEndpoint, of the program. Condition: at most 10 to the 12 of each. -/
set_option linter.unusedSimpArgs false
set_option linter.unusedVariables false
namespace Go.Proofs.YtibmehnippjakaaGreat.Plain
open Go.RowKit Go.Proofs.YtibmehnippjakaaGreatW.PrintWords Go.Proofs.YtibmehnippjakaaGreat.Base Go.Proofs.YtibmehnippjakaaGreat.Print
theorem O5 (x : Int) : GU.f x = some (res x) := by
 unfold GU.f res
 rw [Hj]
 cases inR 0 255 x <;> simp
theorem Qe (suf : List Int) : ∀ (pre : List Int), (pre ++ suf).length ≤ 1000000000000 →
 ∃ r, AO.l0v (pre ++ suf) ((pre ++ suf).length : Int) (pre.length : Int) = some r ∧ decide (r ≥ 0) = suf.any res := by
 induction suf with
 | nil =>
  intro pre _
  refine ⟨-1, ?_, by simp⟩
  rw [AO.l0v_eq, if_neg (E3 pre)]
 | cons x suf ih =>
  intro pre hl
  have hn : pre.length < (pre ++ x :: suf).length := by simp
  rw [AO.l0v_eq, if_pos (EI pre suf x), if_pos (by omega), if_pos (EI pre suf x), IP, O5]
  simp only [Option.bind_some]
  cases hx : res x with
  | true =>
   rw [if_pos rfl]
   exact ⟨(pre.length : Int), rfl, by simp [hx]⟩
  | false =>
   rw [if_neg (by simp), F' pre x hn hl]
   rw [Eg pre suf x] at hl ⊢
   obtain ⟨r, h1, h2⟩ := ih (pre ++ [x]) hl
   exact ⟨r, h1, by rw [h2]; simp [hx]⟩
theorem OH (l : List Int) (hl : l.length ≤ 1000000000000) : DJ.fv l = some (l.any res) := by
 obtain ⟨r, h1, h2⟩ := Qe l [] (by simpa using hl)
 rw [DJ.fv_eq, Ap.fv_eq, AO.fv_eq]
 simp only [List.nil_append, List.length_nil, Int.natCast_zero] at h1
 rw [h1]
 simp [h2]
theorem Q3 (suf : List Int) : ∀ (pre : List Int), (pre ++ suf).length ≤ 1000000000000 →
 Bm.l0v (pre ++ suf) (pre ++ suf) ((pre ++ suf).length : Int) (pre.length : Int) = some (asc pre.getLast? suf && (pre ++ suf).all (inR 0 255)) := by
 induction suf with
 | nil =>
  intro pre hl
  rw [Bm.l0v_eq, if_neg (E3 pre), Il _ _ _ hl]
  simp only [Option.bind_some, asc, Bool.true_and]
 | cons x suf ih =>
  intro pre hl
  have hn : pre.length < (pre ++ x :: suf).length := by simp
  have hp : (pre ++ x :: suf).length ≤ 1000000000000 := hl
  rw [Bm.l0v_eq, if_pos (EI pre suf x), if_pos (by omega), if_pos (EI pre suf x), IP, F' pre x hn hl]
  have h1 := ih (pre ++ [x]) (by simpa using hl)
  rw [← Eg pre suf x] at h1
  rw [h1, List.getLast?_concat]
  simp only [asc]
  by_cases he : pre = []
  · subst he
    rw [if_neg (by simp)]
    simp [above]
  · have hpl : 0 < pre.length := List.length_pos_iff.mpr he
    rw [if_pos (by omega), w64 (x := (pre.length : Int) - 1) (by omega) (by omega), if_pos (by omega), if_pos (by omega), Y7 pre (x :: suf) he]
    simp only [above]
    by_cases hlt : rd (pre ++ x :: suf) ((pre.length : Int) - 1) < x
    · rw [if_neg (by omega)]
      simp [hlt]
    · rw [if_pos (by omega)]
      simp [hlt]
theorem Rq (l : List Int) (hl : l.length ≤ 1000000000000) : Bm.fv l = some (asc none l && l.all (inR 0 255)) := by
 rw [Bm.fv_eq]
 simpa using Q3 l [] (by simpa using hl)
theorem UW (suf : List S75) : ∀ (pre : List S75), (pre ++ suf).length ≤ 1000000000000 → (∀ x ∈ suf, okB x) →
 ∃ r, AC.l0v (pre ++ suf) ((pre ++ suf).length : Int) (pre.length : Int) = some r ∧ decide (r ≥ 0) = !(suf.all isB) := by
 induction suf with
 | nil =>
  intro pre _ _
  refine ⟨-1, ?_, by simp⟩
  rw [AC.l0v_eq, if_neg (E3 pre)]
 | cons x suf ih =>
  intro pre hl hs
  have hn : pre.length < (pre ++ x :: suf).length := by simp
  rw [AC.l0v_eq, if_pos (EI pre suf x), if_pos (by omega), if_pos (EI pre suf x), Lp, Di.fv_eq, Oz x (hs x List.mem_cons_self)]
  simp only [Option.bind_some]
  cases hx : isB x with
  | false =>
   rw [if_pos (show (!false) = true from rfl)]
   exact ⟨(pre.length : Int), rfl, by simp [hx]⟩
  | true =>
   rw [if_neg (by simp), F' pre x hn hl]
   rw [Eg pre suf x] at hl ⊢
   obtain ⟨r, h1, h2⟩ := ih (pre ++ [x]) hl (fun y hy => hs y (List.mem_cons_of_mem _ hy))
   exact ⟨r, h1, by rw [h2]; simp [hx]⟩
theorem V3 (l : List S75) (hl : l.length ≤ 1000000000000) (hs : ∀ x ∈ l, okB x) : Aa.fv l = some (!(l.all isB)) := by
 obtain ⟨r, h1, h2⟩ := UW l [] (by simpa using hl) hs
 rw [Aa.fv_eq, AC.fv_eq]
 simp only [List.nil_append, List.length_nil, Int.natCast_zero] at h1
 rw [h1]
 simp only [Option.bind_some, h2]
theorem Jb (v t : List Int) (p : List S75) (c : Int) (hv : v.length ≤ 1000000000000) (ht : t.length ≤ 1000000000000) (hp : p.length ≤ 1000000000000) (hs : ∀ x ∈ p, okB x) : B9.fv v t p c = some (isE v t p c) := by
 rw [B9.fv_eq, Iu v hv, Rq t ht, OH t ht, V3 p hp hs, Hj]
 simp only [Option.bind_some, isE, show ((t.length : Int) ≤ 5) ↔ (t.length ≤ 5) from by omega, show ((p.length : Int) ≤ 4) ↔ (p.length ≤ 4) from by omega]
 generalize Hv v = x0
 generalize asc none t = x1
 generalize t.all (inR 0 255) = x2
 generalize t.any res = x3
 generalize p.all isB = x4
 by_cases h1 : t.length ≤ 5 <;> by_cases h2 : p.length ≤ 4 <;> cases x0 <;> cases x1 <;> cases x2 <;> cases x3 <;> cases x4 <;> simp [h1, h2]
end Go.Proofs.YtibmehnippjakaaGreat.Plain

/- What a path does to a hello, and what it loses. No program. No condition. -/
set_option linter.unusedSimpArgs false
set_option linter.unusedVariables false
namespace Go.Proofs.YtibmehnippjakaaGreat.Plain
open Go.RowKit Go.Proofs.YtibmehnippjakaaGreatW.PrintWords Go.Proofs.YtibmehnippjakaaGreat.Base Go.Proofs.YtibmehnippjakaaGreat.Print
def goP : List S75 → Bool → List Int → List S81 → List Int × List S81 × Bool
 | [], o, v, l => (v, l, o)
 | b :: p, o, v, l => if o then goP p (pass b v l).2.2 (pass b v l).1 (pass b v l).2.1 else (v, l, o)
def Hy (p : List S75) (v : List Int) (l : List S81) : List Int × List S81 × Bool := if isH v l && decide (p.length ≤ 4) then goP p true v l else ([], [], false)
def OG (p : List S75) (v : List Int) : Bool := Hv v && (Hy p (v.take 1) []).2.2
def eqX (a b : S81) : Bool := decide (a.f0 = b.f0) && decide (a.f1 = b.f1)
def NY : List S81 → List S81 → Bool
 | [], [] => true
 | a :: l, b :: m => eqX a b && NY l m
 | _, _ => false
def whole (v : List Int) (l : List S81) (p : List S75) : Bool := (Hy p v l).2.2 && (decide ((Hy p v l).1 = v) && NY (Hy p v l).2.1 l)
def ME (p : List S75) (v : List Int) (l : List S81) : List Int := if OG p v && isX l then (l.filter (fun x => !whole (v.take 1) [x] p)).map (·.f0) else []
theorem Qy {l m : List S81} : l.length ≠ m.length → NY l m = false := by
 induction l generalizing m with
 | nil =>
  intro h
  cases m with
  | nil => exact absurd rfl h
  | cons b m => rfl
 | cons a l ih =>
  intro h
  cases m with
  | nil => rfl
  | cons b m =>
   simp only [NY]
   rw [ih (by simpa using h), Bool.and_false]
theorem U' (b : S75) (l : List S81) : (kept b l).length ≤ l.length := List.length_filter_le _ _
theorem Tu {b : S75} {l : List S81} (h : F9 l) : F9 (kept b l) := fun x hx => h x (List.mem_filter.mp hx).1
theorem UA (b : S75) (v : List Int) (l : List S81) (h : F9 l) : (pass b v l).1.length ≤ v.length ∧ (pass b v l).2.1.length ≤ l.length ∧ F9 (pass b v l).2.1 := by
 unfold pass
 split
 · exact ⟨Nat.le_refl _, U' b l, Tu h⟩
 · exact ⟨Nat.zero_le _, Nat.zero_le _, fun x hx => by cases hx⟩
theorem VK (p : List S75) : ∀ (o : Bool) (v : List Int) (l : List S81), F9 l → (goP p o v l).1.length ≤ v.length ∧ (goP p o v l).2.1.length ≤ l.length ∧ F9 (goP p o v l).2.1 := by
 induction p with
 | nil =>
  intro o v l h
  exact ⟨Nat.le_refl _, Nat.le_refl _, h⟩
 | cons b p ih =>
  intro o v l h
  unfold goP
  split
  · obtain ⟨a1, a2, a3⟩ := UA b v l h
    obtain ⟨b1, b2, b3⟩ := ih (pass b v l).2.2 (pass b v l).1 (pass b v l).2.1 a3
    exact ⟨Nat.le_trans b1 a1, Nat.le_trans b2 a2, b3⟩
  · exact ⟨Nat.le_refl _, Nat.le_refl _, h⟩
theorem Qh (p : List S75) (v : List Int) (l : List S81) (h : F9 l) : (Hy p v l).1.length ≤ v.length ∧ (Hy p v l).2.1.length ≤ l.length ∧ F9 (Hy p v l).2.1 := by
 unfold Hy
 split
 · exact VK p true v l h
 · exact ⟨Nat.zero_le _, Nat.zero_le _, fun x hx => by cases hx⟩
end Go.Proofs.YtibmehnippjakaaGreat.Plain

/- A list without the numbers of another one. No program. No condition. -/
set_option linter.unusedSimpArgs false
set_option linter.unusedVariables false
namespace Go.Proofs.YtibmehnippjakaaGreat.Plain
open Go.RowKit Go.Proofs.YtibmehnippjakaaGreatW.PrintWords Go.Proofs.YtibmehnippjakaaGreat.Base Go.Proofs.YtibmehnippjakaaGreat.Print
def wo (a b : List Int) : List Int := a.filter (fun x => !mem b x)
theorem NR (a b : List Int) : (wo a b).length ≤ a.length := List.length_filter_le _ _
end Go.Proofs.YtibmehnippjakaaGreat.Plain

/- The versions that a path loses. No program. No condition. -/
set_option linter.unusedSimpArgs false
set_option linter.unusedVariables false
namespace Go.Proofs.YtibmehnippjakaaGreat.Plain
open Go.RowKit Go.Proofs.YtibmehnippjakaaGreatW.PrintWords Go.Proofs.YtibmehnippjakaaGreat.Base Go.Proofs.YtibmehnippjakaaGreat.Print
def JO (p : List S75) (v : List Int) : List Int := if Hv v then v.filter (fun x => !(Hy p [x] []).2.2) else []
theorem Oj (p : List S75) (v : List Int) : (JO p v).length ≤ v.length := by
 unfold JO
 split
 · exact List.length_filter_le _ _
 · exact Nat.zero_le _
theorem Ql {v : List Int} (h : Hv v = true) {x : Int} (hx : x ∈ v) : Hv [x] = true := by
 have := J1 h x hx
 simp only [Hv, vers, Bool.and_true, Bool.and_eq_true, He, decide_eq_true_eq]
 exact ⟨⟨⟨by omega, by omega⟩, by omega⟩, by simp⟩
end Go.Proofs.YtibmehnippjakaaGreat.Plain

/- PassBox, of the program. Condition: at most 10 to the 12 of each. -/
set_option linter.unusedSimpArgs false
set_option linter.unusedVariables false
namespace Go.Proofs.YtibmehnippjakaaGreat.Plain
open Go.RowKit Go.Proofs.YtibmehnippjakaaGreatW.PrintWords Go.Proofs.YtibmehnippjakaaGreat.Base Go.Proofs.YtibmehnippjakaaGreat.Print
theorem V6 (suf : List Int) : ∀ (pre : List Int) (m : Int), (pre ++ suf).length ≤ 1000000000000 → vers m suf = true → BG.l0v (pre ++ suf) m (pre.length : Int) = some (suf.getLastD m) := by
 induction suf with
 | nil =>
  intro pre m _ _
  rw [BG.l0v_eq, if_neg (E3 pre)]
  rfl
 | cons x suf ih =>
  intro pre m hl hv
  have hn : pre.length < (pre ++ x :: suf).length := by simp
  simp only [vers, Bool.and_eq_true, decide_eq_true_eq] at hv
  have hm : mx m x = x := by
   unfold mx
   split <;> omega
  rw [BG.l0v_eq, if_pos (EI pre suf x), if_pos (by omega), IP, F' pre x hn hl, hm]
  rw [Eg pre suf x] at hl ⊢
  rw [ih (pre ++ [x]) x hl hv.2.2, It]
theorem XB (l : List Int) (hl : l.length ≤ 1000000000000) (h : Hv l = true) : BG.fv l = some (l.getLastD 0) := by
 cases l with
 | nil => simp [Hv] at h
 | cons x l =>
  simp only [Hv, vers, Bool.and_eq_true] at h
  have h1 := V6 l [x] x (by simpa using hl) h.1.2.2
  have h0 : rd (x :: l) 0 = x := by simp [rd]
  rw [BG.fv_eq, if_neg (by simp only [List.length_cons]; omega), if_pos (by simp only [List.length_cons]; omega), h0, It]
  simpa using h1
theorem U0 (l : List Int) (hl : l.length ≤ 1000000000000) : Ep.f l = some l := by
 unfold Ep.f
 simp only [Option.bind_some, List.nil_append, List.length_nil, Nat.zero_add]
 rw [if_pos (by omega)]
theorem Qi (b : S75) (t : Int) (l : List Int) (h : okB b) : Ee.fv t l b.f0 b.f1 b.f2 b.f3 = some (drops b t) := by
 rw [Ee.fv_eq, JQ _ _ h.1, JQ _ _ h.2, Hj]
 simp only [Option.bind_some, drops]
 generalize mem b.f1 t = x
 generalize mem b.f2 t = y
 generalize inR 1 3 t = z
 generalize b.f3 = u
 cases x <;> cases y <;> cases z <;> cases u <;> rfl
theorem RE (b : S75) (h : okB b) (suf : List S81) : ∀ (pre : List S81), (pre ++ suf).length ≤ 1000000000000 →
 ∃ r, AE.l0v (pre ++ suf) ((pre ++ suf).length : Int) (pre.length : Int) b.f0 b.f1 b.f2 b.f3 = some r ∧ decide (r ≥ 0) = suf.any (fun x => drops b x.f0) := by
 induction suf with
 | nil =>
  intro pre _
  refine ⟨-1, ?_, by simp⟩
  rw [AE.l0v_eq, if_neg (E3 pre)]
 | cons x suf ih =>
  intro pre hl
  have hn : pre.length < (pre ++ x :: suf).length := by simp
  rw [AE.l0v_eq, if_pos (EI pre suf x), if_pos (by omega), if_pos (EI pre suf x), HV, Qi b _ _ h]
  simp only [Option.bind_some, List.any_cons]
  cases hx : drops b x.f0 with
  | true =>
   rw [if_pos rfl]
   exact ⟨(pre.length : Int), rfl, by simp⟩
  | false =>
   rw [if_neg (by simp), F' pre x hn hl]
   rw [Eg pre suf x] at hl ⊢
   obtain ⟨r, h1, h2⟩ := ih (pre ++ [x]) hl
   exact ⟨r, h1, by rw [h2]; rfl⟩
theorem Qg (b : S75) (h : okB b) (l : List S81) (hl : l.length ≤ 1000000000000) : Ac.fv l b.f0 b.f1 b.f2 b.f3 = some (l.any (fun x => drops b x.f0)) := by
 obtain ⟨r, h1, h2⟩ := RE b h l [] (by simpa using hl)
 rw [Ac.fv_eq, AE.fv_eq]
 simp only [List.nil_append, List.length_nil, Int.natCast_zero] at h1
 rw [h1]
 simp only [Option.bind_some, h2]
theorem Rf (b : S75) (v : List Int) (l : List S81) (h : okB b) (hv : v.length ≤ 1000000000000) (hl : l.length ≤ 1000000000000) (ha : Hv v = true) : ED.fv b.f0 b.f1 b.f2 b.f3 v l = some (lose b v l) := by
 rw [ED.fv_eq, Qg b h l hl, XB v hv ha]
 simp only [Option.bind_some, lose]
 by_cases h0 : b.f0 = 0
 · simp [h0]
 · by_cases h1 : v.getLastD 0 > b.f0
   · rw [if_neg h0, if_pos h1]
     simp only [h0, h1, decide_true, decide_false, Bool.not_false, Bool.and_self, Bool.true_or]
   · rw [if_neg h0, if_neg h1]
     simp only [h1, decide_false, Bool.and_false, Bool.false_or]
theorem Qs (b : S75) (h : okB b) (suf : List S81) : ∀ (pre out : List S81), (pre ++ suf).length ≤ 1000000000000 → out.length ≤ pre.length → F9 suf →
 AU.l0v out (pre ++ suf) ((pre ++ suf).length : Int) (pre.length : Int) b.f0 b.f1 b.f2 b.f3 = some (out ++ kept b suf) := by
 induction suf with
 | nil =>
  intro pre out _ _ _
  rw [AU.l0v_eq, if_neg (E3 pre)]
  simp [kept]
 | cons x suf ih =>
  intro pre out hl ho hs
  have hn : pre.length < (pre ++ x :: suf).length := by simp
  have hp : pre.length < 1000000000000 := by omega
  have hx := hs x List.mem_cons_self
  have hs' : F9 suf := fun y hy => hs y (List.mem_cons_of_mem _ hy)
  rw [AU.l0v_eq, if_pos (EI pre suf x), if_pos (by omega), if_pos (EI pre suf x), HV, EF.fv_eq, JQ _ _ h.2, F' pre x hn hl]
  simp only [Option.bind_some, List.nil_append, List.length_nil, Nat.zero_add]
  rw [Eg pre suf x] at hl ⊢
  cases hm : mem b.f2 x.f0 with
  | true =>
   rw [if_neg (by simp), ih (pre ++ [x]) out hl (by simp; omega) hs']
   simp [kept, hm]
  | false =>
   rw [if_pos (show (!false) = true from rfl), if_pos (by omega), if_pos (by omega), ih (pre ++ [x]) _ hl (by simp; omega) hs']
   simp [kept, hm]
theorem S1 (b : S75) (h : okB b) (l : List S81) (hl : l.length ≤ 1000000000000) (hs : F9 l) : AU.fv l b.f0 b.f1 b.f2 b.f3 = some (kept b l) := by
 rw [AU.fv_eq]
 simpa using Qs b h l [] [] (by simpa using hl) (by simp) hs
theorem RX (b : S75) (v : List Int) (l : List S81) (h : okB b) (hv : v.length ≤ 1000000000000) (hl : l.length ≤ 1000000000000) (hs : F9 l) : Bh.fv b.f0 b.f1 b.f2 b.f3 v l = some (pass b v l) := by
 rw [Bh.fv_eq, Oz b h, H3 v l hv hl hs]
 simp only [Option.bind_some, Bh.j0v_eq, U0 v hv, S1 b h l hl hs, pass]
 cases isB b with
 | false => simp
 | true =>
  cases hh : isH v l with
  | false => simp
  | true =>
   have ha : Hv v = true := by
    simp only [isH, Bool.and_eq_true] at hh
    exact hh.1
   rw [if_pos rfl, if_pos rfl, Rf b v l h hv hl ha]
   simp only [Option.bind_some]
   cases lose b v l <;> simp
end Go.Proofs.YtibmehnippjakaaGreat.Plain

/- PassPath, of the program. Condition: at most 10 to the 12 of each. -/
set_option linter.unusedSimpArgs false
set_option linter.unusedVariables false
namespace Go.Proofs.YtibmehnippjakaaGreat.Plain
open Go.RowKit Go.Proofs.YtibmehnippjakaaGreatW.PrintWords Go.Proofs.YtibmehnippjakaaGreat.Base Go.Proofs.YtibmehnippjakaaGreat.Print
theorem QQ (suf : List S81) : ∀ (pre out : List S81), (pre ++ suf).length ≤ 1000000000000 → out.length ≤ pre.length → F9 suf →
 AN.l0v out (pre ++ suf) ((pre ++ suf).length : Int) (pre.length : Int) = some (out ++ suf) := by
 induction suf with
 | nil =>
  intro pre out _ _ _
  rw [AN.l0v_eq, if_neg (E3 pre)]
  simp
 | cons x suf ih =>
  intro pre out hl ho hs
  have hn : pre.length < (pre ++ x :: suf).length := by simp
  have hp : pre.length < 1000000000000 := by omega
  have hx := hs x List.mem_cons_self
  have hs' : F9 suf := fun y hy => hs y (List.mem_cons_of_mem _ hy)
  rw [AN.l0v_eq, if_pos (EI pre suf x), if_pos (by omega), if_pos (EI pre suf x), HV, F' pre x hn hl]
  unfold HJ.f
  simp only [Option.bind_some, List.nil_append, List.length_nil, Nat.zero_add, if_true]
  rw [Eg pre suf x] at hl ⊢
  rw [if_pos (by omega), if_pos (by omega), ih (pre ++ [x]) _ hl (by simp; omega) hs']
  simp
theorem M1 (v : List Int) (l : List S81) (hv : v.length ≤ 1000000000000) (hl : l.length ≤ 1000000000000) (hs : F9 l) : DC.fv v l = some (v, l) := by
 have h := QQ l [] [] (by simpa using hl) (by simp) hs
 simp only [List.nil_append, List.length_nil, Int.natCast_zero] at h
 rw [DC.fv_eq, Dc.fv_eq, AN.fv_eq]
 simp only [Option.bind_some, List.nil_append, List.length_nil, Nat.zero_add, h, show v.length < 17592186044416 by omega, if_true]
theorem Ry (suf : List S75) : ∀ (pre : List S75) (o : Bool) (v : List Int) (l : List S81), (pre ++ suf).length ≤ 1000000000000 → (∀ x ∈ suf, okB x) → v.length ≤ 1000000000000 → l.length ≤ 1000000000000 → F9 l →
 Am.l0v (pre ++ suf) o (pre.length : Int) v l = some (goP suf o v l) := by
 induction suf with
 | nil =>
  intro pre o v l _ _ _ _ _
  rw [Am.l0v_eq, if_neg (E3 pre)]
  rfl
 | cons b suf ih =>
  intro pre o v l hp hs hv hl hx
  have hn : pre.length < (pre ++ b :: suf).length := by simp
  rw [Am.l0v_eq, if_pos (EI pre suf b)]
  cases o with
  | false =>
   rw [if_neg (by simp)]
   rfl
  | true =>
   obtain ⟨a1, a2, a3⟩ := UA b v l hx
   rw [if_pos rfl, if_pos (by omega), Lp, RX b v l (hs b List.mem_cons_self) hv hl hx, F' pre b hn hp]
   simp only [Option.bind_some]
   rw [Eg pre suf b] at hp ⊢
   rw [ih (pre ++ [b]) _ _ _ hp (fun y hy => hs y (List.mem_cons_of_mem _ hy)) (by omega) (by omega) a3]
   rfl
theorem JL (p : List S75) (v : List Int) (l : List S81) (hp : p.length ≤ 1000000000000) (hs : ∀ x ∈ p, okB x) (hv : v.length ≤ 1000000000000) (hl : l.length ≤ 1000000000000) (hx : F9 l) : Am.fv p v l = some (Hy p v l) := by
 have h := Ry p [] true v l (by simpa using hp) hs hv hl hx
 simp only [List.nil_append, List.length_nil, Int.natCast_zero] at h
 rw [Am.fv_eq, H3 v l hv hl hx]
 simp only [Option.bind_some, Am.j0v_eq, M1 v l hv hl hx, h, Hy]
 cases isH v l with
 | false => simp
 | true =>
  by_cases h4 : p.length ≤ 4
  · rw [if_pos rfl, if_neg (by simp; omega)]
    simp [h4]
  · rw [if_pos rfl, if_pos (by simp; omega)]
    simp [h4]
end Go.Proofs.YtibmehnippjakaaGreat.Plain

/- LostVersions and without, of the program. Condition: at most 10 to the 12 of each. -/
set_option linter.unusedSimpArgs false
set_option linter.unusedVariables false
namespace Go.Proofs.YtibmehnippjakaaGreat.Plain
open Go.RowKit Go.Proofs.YtibmehnippjakaaGreatW.PrintWords Go.Proofs.YtibmehnippjakaaGreat.Base Go.Proofs.YtibmehnippjakaaGreat.Print
theorem RI (v : List Int) (hv : v.length ≤ 1000000000000) : E5.f v = some (v, []) := by
 unfold E5.f
 simp only [Option.bind_some, List.nil_append, List.length_nil, Nat.zero_add]
 rw [if_pos (by omega)]
theorem Po (p : List S75) (hp : p.length ≤ 1000000000000) (hs : ∀ x ∈ p, okB x) (suf : List Int) : ∀ (pre out : List Int), (pre ++ suf).length ≤ 1000000000000 → out.length ≤ pre.length →
 Az.l0v p out (pre ++ suf) ((pre ++ suf).length : Int) (pre.length : Int) = some (out ++ suf.filter (fun x => !(Hy p [x] []).2.2)) := by
 induction suf with
 | nil =>
  intro pre out _ _
  rw [Az.l0v_eq, if_neg (E3 pre)]
  simp
 | cons x suf ih =>
  intro pre out hl ho
  have hn : pre.length < (pre ++ x :: suf).length := by simp
  have hq : pre.length < 1000000000000 := by omega
  rw [Az.l0v_eq, if_pos (EI pre suf x), if_pos (by omega), if_pos (EI pre suf x), IP, RI [x] (by simp), F' pre x hn hl]
  simp only [Option.bind_some]
  rw [JL p [x] [] hp hs (by simp) (by simp) (fun x hx => by cases hx)]
  simp only [Option.bind_some]
  rw [Eg pre suf x] at hl ⊢
  cases hw : (Hy p [x] []).2.2 with
  | true =>
   rw [if_pos rfl, ih (pre ++ [x]) out hl (by simp; omega)]
   simp [hw]
  | false =>
   rw [if_neg (by simp), if_pos (by omega), ih (pre ++ [x]) _ hl (by simp; omega)]
   simp [hw]
theorem MD (p : List S75) (v : List Int) (hp : p.length ≤ 1000000000000) (hs : ∀ x ∈ p, okB x) (hv : v.length ≤ 1000000000000) : Az.fv p v = some (JO p v) := by
 have h := Po p hp hs v [] [] (by simpa using hv) (by simp)
 simp only [List.nil_append, List.length_nil, Int.natCast_zero] at h
 rw [Az.fv_eq, Iu v hv]
 simp only [Option.bind_some, h, JO]
 cases Hv v <;> simp
theorem U9 (b : List Int) (hb : b.length ≤ 1000000000000) (suf : List Int) : ∀ (pre out : List Int), (pre ++ suf).length ≤ 1000000000000 → out.length ≤ pre.length →
 BI.l0v b out (pre ++ suf) ((pre ++ suf).length : Int) (pre.length : Int) = some (out ++ wo suf b) := by
 induction suf with
 | nil =>
  intro pre out _ _
  rw [BI.l0v_eq, if_neg (E3 pre)]
  simp [wo]
 | cons x suf ih =>
  intro pre out hl ho
  have hn : pre.length < (pre ++ x :: suf).length := by simp
  have hp : pre.length < 1000000000000 := by omega
  rw [BI.l0v_eq, if_pos (EI pre suf x), if_pos (by omega), if_pos (EI pre suf x), IP, JQ b x hb, F' pre x hn hl]
  simp only [Option.bind_some]
  rw [Eg pre suf x] at hl ⊢
  cases hx : mem b x with
  | true =>
   rw [if_pos rfl, ih (pre ++ [x]) out hl (by simp; omega)]
   simp [wo, hx]
  | false =>
   rw [if_neg (by simp), if_pos (by omega), ih (pre ++ [x]) (out ++ [x]) hl (by simp; omega)]
   simp [wo, hx]
theorem Je (a b : List Int) (ha : a.length ≤ 1000000000000) (hb : b.length ≤ 1000000000000) : BI.fv a b = some (wo a b) := by
 rw [BI.fv_eq]
 simpa using U9 b hb a [] [] (by simpa using ha) (by simp)
end Go.Proofs.YtibmehnippjakaaGreat.Plain

/- TagsOf, KnownOf, StripGrease, ChooseAnswer and FitsHello of the program. Condition: at most 10 to the 12 of each. -/
set_option linter.unusedSimpArgs false
set_option linter.unusedVariables false
namespace Go.Proofs.YtibmehnippjakaaGreat.Plain
open Go.RowKit Go.Proofs.YtibmehnippjakaaGreatW.PrintWords Go.Proofs.YtibmehnippjakaaGreat.Base Go.Proofs.YtibmehnippjakaaGreat.Print
theorem OL (suf : List S81) : ∀ (pre : List S81), (pre ++ suf).length ≤ 1000000000000 → BO.l0v (pre.map (·.f0)) (pre ++ suf) ((pre ++ suf).length : Int) (pre.length : Int) = some ((pre ++ suf).map (·.f0)) := by
 induction suf with
 | nil =>
  intro pre _
  rw [BO.l0v_eq, if_neg (E3 pre), List.append_nil]
 | cons x suf ih =>
  intro pre hl
  have hn : pre.length < (pre ++ x :: suf).length := by simp
  rw [BO.l0v_eq, if_pos (EI pre suf x), if_pos (by omega), if_pos (EI pre suf x), if_pos (by rw [List.length_map]; omega), HV, F' pre x hn hl]
  rw [Eg pre suf x] at hl ⊢
  simpa using ih (pre ++ [x]) hl
theorem IK (l : List S81) (hl : l.length ≤ 1000000000000) : BO.fv l = some (l.map (·.f0)) := by
 rw [BO.fv_eq]
 simpa using OL l [] (by simpa using hl)
theorem Pq (t : List Int) (ht : t.length ≤ 1000000000000) (suf : List S81) : ∀ (pre out : List S81), (pre ++ suf).length ≤ 1000000000000 → out.length ≤ pre.length → F9 suf →
 AV.l0v out (pre ++ suf) ((pre ++ suf).length : Int) (pre.length : Int) t = some (out ++ suf.filter (fun x => mem t x.f0)) := by
 induction suf with
 | nil =>
  intro pre out _ _ _
  rw [AV.l0v_eq, if_neg (E3 pre)]
  simp
 | cons x suf ih =>
  intro pre out hl ho hs
  have hn : pre.length < (pre ++ x :: suf).length := by simp
  have hx := hs x List.mem_cons_self
  have h2 : F9 suf := fun y hy => hs y (List.mem_cons_of_mem _ hy)
  rw [AV.l0v_eq, if_pos (EI pre suf x), if_pos (by omega), if_pos (EI pre suf x), HV, EH.fv_eq, JQ _ _ ht]
  simp only [Option.bind_some]
  have hp : out.length < 1000000000000 := by omega
  rw [F' pre x hn hl]
  rw [Eg pre suf x] at hl ⊢
  by_cases hb : mem t x.f0 = true
  · rw [if_pos hb, if_pos (by simp; omega), if_pos (by omega)]
    have h := ih (pre ++ [x]) (out ++ [x]) hl (by simp; omega) h2
    rw [List.filter_cons_of_pos (by simpa using hb)]
    simpa using h
  · rw [if_neg hb]
    have h := ih (pre ++ [x]) out hl (by simp; omega) h2
    rw [List.filter_cons_of_neg (by simpa using hb)]
    simpa using h
theorem QX (l : List S81) (t : List Int) (hl : l.length ≤ 1000000000000) (ht : t.length ≤ 1000000000000) (hs : F9 l) : EZ.fv l t = some (l.filter (fun x => mem t x.f0)) := by
 rw [EZ.fv_eq, AV.fv_eq]
 have h := Pq t ht l [] [] (by simpa using hl) (by simp) hs
 simp only [List.nil_append, List.length_nil, Int.natCast_zero] at h
 rw [h]
 rfl
theorem QJ (suf : List S81) : ∀ (pre out : List S81), (pre ++ suf).length ≤ 1000000000000 → out.length ≤ pre.length → F9 suf →
 AM.l0v out (pre ++ suf) ((pre ++ suf).length : Int) (pre.length : Int) = some (out ++ suf.filter (fun x => !res x.f0)) := by
 induction suf with
 | nil =>
  intro pre out _ _ _
  rw [AM.l0v_eq, if_neg (E3 pre)]
  simp
 | cons x suf ih =>
  intro pre out hl ho hs
  have hn : pre.length < (pre ++ x :: suf).length := by simp
  have hx := hs x List.mem_cons_self
  have h2 : F9 suf := fun y hy => hs y (List.mem_cons_of_mem _ hy)
  rw [AM.l0v_eq, if_pos (EI pre suf x), if_pos (by omega), if_pos (EI pre suf x), HV]
  unfold Gx.f
  rw [O5]
  simp only [Option.bind_some]
  have hp : out.length < 1000000000000 := by omega
  rw [F' pre x hn hl]
  rw [Eg pre suf x] at hl ⊢
  by_cases hb : (!res x.f0) = true
  · rw [if_pos hb, if_pos (by simp; omega), if_pos (by omega)]
    have h := ih (pre ++ [x]) (out ++ [x]) hl (by simp; omega) h2
    rw [List.filter_cons_of_pos (by simpa using hb)]
    simpa using h
  · rw [if_neg hb]
    have h := ih (pre ++ [x]) out hl (by simp; omega) h2
    rw [List.filter_cons_of_neg (by simpa using hb)]
    simpa using h
theorem Qu (l : List S81) (hl : l.length ≤ 1000000000000) (hs : F9 l) : Dl.fv l = some (l.filter (fun x => !res x.f0)) := by
 rw [Dl.fv_eq, AM.fv_eq]
 have h := QJ l [] [] (by simpa using hl) (by simp) hs
 simp only [List.nil_append, List.length_nil, Int.natCast_zero] at h
 rw [h]
 rfl
theorem Px (w t v : List Int) (l : List S81) (hw : w.length ≤ 1000000000000) (ht : t.length ≤ 1000000000000) (hv : v.length ≤ 1000000000000) (hl : l.length ≤ 1000000000000) (hs : F9 l) : BN.fv w t v l = some (choose w t v l) := by
 have hf : F9 (l.filter (fun x => mem t x.f0)) := fun x hx => hs x (List.mem_filter.mp hx).1
 have hn : (l.filter (fun x => mem t x.f0)).length ≤ 1000000000000 := Nat.le_trans (List.length_filter_le _ _) hl
 rw [BN.fv_eq, K4 w v hw hv, H3 v l hv hl hs]
 simp only [Option.bind_some, BN.j0v_eq, QX l t hl ht hs, Qu _ hn hf]
 unfold choose answer
 cases isH v l <;> by_cases hb : best w v = 0 <;> simp [hb]
theorem O4 (v : Int) (l : List S81) (hl : l.length ≤ 1000000000000) (hs : F9 l) : Dk.fv v l = some (isA v l) := by
 rw [Dk.fv_eq, Hj, JE l hl hs]
 unfold isA
 cases inR 1 9 v <;> simp
theorem Ns (l : List S81) (hl : l.length ≤ 1000000000000) : DU.fv l = some ((l.map (·.f0)).any res) := by
 rw [DU.fv_eq, IK l hl]
 simp only [Option.bind_some]
 rw [OH _ (by simpa using hl)]
 rfl
def fits (v : List Int) (l : List S81) (a : Int) (m : List S81) : Bool := isH v l && (isA a m && (mem v a && (decide ((wo (m.map (·.f0)) (l.map (·.f0))).length = 0) && !((m.map (·.f0)).any res))))
theorem TI (v : List Int) (l : List S81) (a : Int) (m : List S81) (hv : v.length ≤ 1000000000000) (hl : l.length ≤ 1000000000000) (hs : F9 l) (hm : m.length ≤ 1000000000000) (hx : F9 m) : B'.fv v l a m = some (fits v l a m) := by
 rw [B'.fv_eq, H3 v l hv hl hs, O4 a m hm hx, JQ v a hv, IK l hl, IK m hm, Ns m hm]
 simp only [Option.bind_some]
 rw [Je _ _ (by simpa using hm) (by simpa using hl)]
 simp only [Option.bind_some]
 unfold fits
 generalize wo (m.map (·.f0)) (l.map (·.f0)) = q
 have e : ((q.length : Int) = 0) ↔ (q.length = 0) := by omega
 cases isH v l <;> cases isA a m <;> cases mem v a <;> by_cases h : q.length = 0 <;> simp only [e, h] <;> simp
end Go.Proofs.YtibmehnippjakaaGreat.Plain

/- A row of rows, read. No program. No condition. -/
set_option linter.unusedSimpArgs false
set_option linter.unusedVariables false
namespace Go.Proofs.YtibmehnippjakaaGreat.Plain
open Go.RowKit Go.Proofs.YtibmehnippjakaaGreatW.PrintWords Go.Proofs.YtibmehnippjakaaGreat.Base Go.Proofs.YtibmehnippjakaaGreat.Print
theorem LQ (pre suf : List (List Int)) (x : List Int) : HU (pre ++ x :: suf) (pre.length : Int) = x := by simp [HU]
end Go.Proofs.YtibmehnippjakaaGreat.Plain

/- The bytes of hellos and answers, of the program. Condition: short rows. -/
set_option linter.unusedSimpArgs false
set_option linter.unusedVariables false
namespace Go.Proofs.YtibmehnippjakaaGreat.Plain
open Go.RowKit Go.Proofs.YtibmehnippjakaaGreatW.PrintWords Go.Proofs.YtibmehnippjakaaGreat.Base Go.Proofs.YtibmehnippjakaaGreat.Print
theorem UM (suf : List (List Int)) : ∀ (pre : List (List Int)), (pre ++ suf).length ≤ 1000000 → (pre ++ suf).flatten.length ≤ 1000000000000 → AW.l1v pre.flatten (pre ++ suf) ((pre ++ suf).length : Int) (pre.length : Int) = some (pre ++ suf).flatten := by
 induction suf with
 | nil =>
  intro pre _ _
  rw [AW.l1v_eq, if_neg (E3 pre), List.append_nil]
 | cons x suf ih =>
  intro pre hl hf
  have hn : pre.length < (pre ++ x :: suf).length := by simp
  have h1 : pre.flatten.length + x.length ≤ 1000000000000 := by
   simp only [List.flatten_append, List.flatten_cons, List.length_append] at hf
   omega
  rw [AW.l1v_eq, if_pos (EI pre suf x), if_pos (by omega), if_pos (EI pre suf x), LQ, if_pos (by omega), F' pre x hn (by omega)]
  rw [Eg pre suf x] at hl hf ⊢
  simpa using ih (pre ++ [x]) hl hf
theorem Ug (w : List (List Int)) (hw : w.length ≤ 1000000) (hw2 : w.flatten.length ≤ 1000000000000) (suf : List (List Int)) : ∀ (pre : List (List Int)), (pre ++ suf).length ≤ 1000000 → (pre ++ suf).flatten.length ≤ 1000000000000 → AW.l0v w (pre.flatten.length : Int) (pre ++ suf) ((pre ++ suf).length : Int) (pre.length : Int) = some w.flatten := by
 induction suf with
 | nil =>
  intro pre _ hf
  rw [List.append_nil] at hf
  rw [AW.l0v_eq, if_neg (E3 pre)]
  have hg : DK.fv (pre.flatten.length : Int) = some [] := by
   rw [DK.fv_eq, if_pos (by omega), if_pos (by omega)]
  rw [hg]
  simpa using UM w [] (by simpa using hw) (by simpa using hw2)
 | cons x suf ih =>
  intro pre hl hf
  have hn : pre.length < (pre ++ x :: suf).length := by simp
  have h1 : pre.flatten.length + x.length ≤ 1000000000000 := by
   simp only [List.flatten_append, List.flatten_cons, List.length_append] at hf
   omega
  rw [AW.l0v_eq, if_pos (EI pre suf x), if_pos (by omega), if_pos (EI pre suf x), LQ, w64 (by omega) (by omega), if_neg (by omega), F' pre x hn (by omega)]
  rw [Eg pre suf x] at hl hf ⊢
  simpa using ih (pre ++ [x]) hl hf
theorem LY (l : List (List Int)) (hl : l.length ≤ 1000000) (hf : l.flatten.length ≤ 1000000000000) : AW.fv l = some l.flatten := by
 rw [AW.fv_eq]
 simpa using Ug l hl hf l [] (by simpa using hl) (by simpa using hf)
def xb : List S81 → List Int
 | [] => []
 | x :: l => x.f0 :: (x.f1.length : Int) :: (x.f1 ++ xb l)
def Nr (l : List S81) : List Int := (l.length : Int) :: xb l
def Hk (v : List Int) (l : List S81) : List Int := if isH v l then (v.length : Int) :: (v ++ Nr l) else []
def J8 (a : Int) (l : List S81) : List Int := if isA a l then a :: Nr l else []
theorem Xy (l : List S81) (h : ∀ x ∈ l, x.f1.length ≤ 4) : (xb l).length ≤ 6 * l.length := by
 induction l with
 | nil => simp [xb]
 | cons x l ih =>
  have := ih (fun y hy => h y (List.mem_cons_of_mem _ hy))
  have := h x List.mem_cons_self
  simp only [xb, List.length_cons, List.length_append]
  omega
theorem Ri (suf : List S81) : ∀ (pre : List S81) (out : List Int), (pre ++ suf).length ≤ 1000 → out.length ≤ 1 + 6 * pre.length → (∀ x ∈ suf, x.f1.length ≤ 4) → BF.l0v out (pre ++ suf) ((pre ++ suf).length : Int) (pre.length : Int) = some (out ++ xb suf, true) := by
 induction suf with
 | nil =>
  intro pre out _ _ _
  rw [BF.l0v_eq, if_neg (E3 pre)]
  simp [xb]
 | cons x suf ih =>
  intro pre out hl ho hs
  have hn : pre.length < (pre ++ x :: suf).length := by simp
  have hp : pre.length < 1000 := by omega
  have hx := hs x List.mem_cons_self
  rw [BF.l0v_eq, if_pos (EI pre suf x), if_pos (by omega), if_pos (EI pre suf x), HV, F' pre x hn (by omega)]
  simp only [Option.bind_some]
  rw [if_pos (by simp; omega), if_pos (by simp; omega)]
  rw [Eg pre suf x] at hl ⊢
  have h := ih (pre ++ [x]) (out ++ [x.f0, (x.f1.length : Int)] ++ x.f1) hl (by simp; omega) (fun y hy => hs y (List.mem_cons_of_mem _ hy))
  rw [h]
  simp [xb]
theorem NV {l : List S81} (h : isX l = true) : l.length ≤ 6 ∧ ∀ x ∈ l, x.f1.length ≤ 4 := by
 simp only [isX, Bool.and_eq_true, decide_eq_true_eq] at h
 exact ⟨h.2, Uo h.1⟩
theorem Ov (l : List S81) (hl : l.length ≤ 1000000000000) (hs : F9 l) : BF.fv l = some (if isX l then (Nr l, true) else ([], false)) := by
 rw [BF.fv_eq, JE l hl hs, Option.bind_some]
 cases h : isX l with
 | true =>
  have hb := NV h
  rw [if_pos rfl, if_pos rfl]
  simpa [Nr] using Ri l [] [(l.length : Int)] (by simp; omega) (by simp) hb.2
 | false => simp
theorem LC {l : List S81} (h : isX l = true) : (Nr l).length ≤ 37 := by
 have hb := NV h
 have := Xy l hb.2
 simp only [Nr, List.length_cons]
 omega
theorem S5 (v : List Int) (l : List S81) : (Hk v l).length ≤ 47 := by
 unfold Hk
 split
 · rename_i h
   simp only [isH, Bool.and_eq_true] at h
   have h1 := KT h.1
   have h2 := LC h.2
   simp only [List.length_cons, List.length_append]
   omega
 · simp
theorem VG (a : Int) (l : List S81) : (J8 a l).length ≤ 47 := by
 unfold J8
 split
 · rename_i h
   simp only [isA, Bool.and_eq_true] at h
   have h2 := LC h.2
   simp only [List.length_cons]
   omega
 · simp
theorem LX (v : List Int) (l : List S81) (hv : v.length ≤ 1000000000000) (hl : l.length ≤ 1000000000000) (hs : F9 l) : DY.fv v l = some (Hk v l) := by
 rw [DY.fv_eq, H3 v l hv hl hs, Option.bind_some]
 unfold Hk
 cases h : isH v l with
 | true =>
  have h' := h
  simp only [isH, Bool.and_eq_true] at h'
  have h1 := KT h'.1
  have h2 := LC h'.2
  rw [if_pos rfl, if_pos rfl, Ov l hl hs, if_pos h'.2, Option.bind_some, LY _ (by simp) (by simp; omega), Option.bind_some]
  simp
 | false => simp
theorem RY (a : Int) (l : List S81) (hl : l.length ≤ 1000000000000) (hs : F9 l) : DT.fv a l = some (J8 a l) := by
 rw [DT.fv_eq, O4 a l hl hs, Option.bind_some]
 unfold J8
 cases h : isA a l with
 | true =>
  have h' := h
  simp only [isA, Bool.and_eq_true] at h'
  have h2 := LC h'.2
  rw [if_pos rfl, if_pos rfl, Ov l hl hs, if_pos h'.2]
  simp only [Option.bind_some]
  rw [if_pos (by simp; omega)]
  simp
 | false => simp
end Go.Proofs.YtibmehnippjakaaGreat.Plain

/- What Hash, PickOf and GreaseTag of the program come to. Condition: at most 10 to the 12 numbers; a modulus from 1 to 10 to the 12. -/
set_option linter.unusedSimpArgs false
set_option linter.unusedVariables false
namespace Go.Proofs.YtibmehnippjakaaGreat.Plain
open Go.RowKit Go.Proofs.YtibmehnippjakaaGreatW.PrintWords Go.Proofs.YtibmehnippjakaaGreat.Base Go.Proofs.YtibmehnippjakaaGreat.Print
def PY (a m : Int) : Int := Int.tmod (Int.tmod a m + m) m
def hstep (h x : Int) : Int := Int.tmod (h * 1000003 + PY x 2147483647 + 13) 2147483647
def Ik : Int → List Int → Int
 | h, [] => h
 | h, x :: l => Ik (hstep h x) l
theorem PQ (a m : Int) (h1 : 1 ≤ m) : 0 ≤ PY a m ∧ PY a m < m := by
 unfold PY
 have a2 : -m < Int.tmod a m := by
  have := Int.tmod_lt_of_pos (-a) (show 0 < m by omega)
  rw [Int.neg_tmod] at this
  omega
 exact ⟨Int.tmod_nonneg _ (by omega), Int.tmod_lt_of_pos _ (by omega)⟩
theorem Vh (a m : Int) (h1 : 1 ≤ m) (h2 : m ≤ 1000000000000) : Hq.f a m = some (PY a m) := by
 unfold Hq.f PY
 rw [Hj, He.mpr ⟨h1, h2⟩]
 simp only [Option.bind_some, if_true]
 rw [if_neg (by omega)]
 have a1 := Int.tmod_lt_of_pos a (show 0 < m by omega)
 have a2 : -m < Int.tmod a m := by
  have := Int.tmod_lt_of_pos (-a) (show 0 < m by omega)
  rw [Int.neg_tmod] at this
  omega
 rw [w64 (by omega) (by omega)]
theorem Qb (h x : Int) (h0 : 0 ≤ h) : 0 ≤ hstep h x ∧ hstep h x < 2147483647 := by
 have := PQ x 2147483647 (by decide)
 exact ⟨Int.tmod_nonneg _ (by omega), Int.tmod_lt_of_pos _ (by decide)⟩
theorem Vp (suf : List Int) : ∀ (pre : List Int) (h : Int), (pre ++ suf).length ≤ 1000000000000 → 0 ≤ h → h < 2147483647 → CJ.l0v h (pre ++ suf) ((pre ++ suf).length : Int) (pre.length : Int) = some (Ik h suf) := by
 induction suf with
 | nil =>
  intro pre h _ _ _
  rw [CJ.l0v_eq, if_neg (E3 pre)]
  rfl
 | cons x suf ih =>
  intro pre h hl h0 h1
  have hn : pre.length < (pre ++ x :: suf).length := by simp
  have hm := PQ x 2147483647 (by decide)
  rw [CJ.l0v_eq, if_pos (EI pre suf x), if_pos (by omega), if_pos (EI pre suf x), IP, Vh x _ (by decide) (by decide), F' pre x hn hl]
  simp only [Option.bind_some]
  rw [w64 (x := h * 1000003) (by omega) (by omega), w64 (x := h * 1000003 + _) (by omega) (by omega), w64 (by omega) (by omega)]
  rw [Eg pre suf x] at hl ⊢
  exact ih (pre ++ [x]) _ hl (Qb h x h0).1 (Qb h x h0).2
theorem K1 (l : List Int) (hl : l.length ≤ 1000000000000) : CJ.fv l = some (Ik 11 l) := by
 rw [CJ.fv_eq]
 simpa using Vp l [] 11 (by simpa using hl) (by decide) (by decide)
def pick (s p n : Int) : Int := PY (Ik 11 [s, p]) n
theorem Ju (s p n : Int) (h1 : 1 ≤ n) : 0 ≤ pick s p n ∧ pick s p n < n := PQ _ n h1
theorem Jr (s p n : Int) (h1 : 1 ≤ n) (h2 : n ≤ 1000000000000) : D4.fv s p n = some (pick s p n) := by
 rw [D4.fv_eq, if_neg (by omega), K1 _ (by simp)]
 simp only [Option.bind_some, Vh _ n h1 h2]
 rfl
def gtag (s : Int) : Int := 16 * pick s 0 16 + 10
theorem UZ (s : Int) : EJ.fv s = some (gtag s) := by
 have := Ju s 0 16 (by decide)
 rw [EJ.fv_eq, Jr s 0 16 (by decide) (by decide)]
 simp only [Option.bind_some]
 rw [w64 (x := 16 * _) (by omega) (by omega), w64 (by omega) (by omega)]
 rfl
end Go.Proofs.YtibmehnippjakaaGreat.Plain

/- Transcripts and their proofs, of the program. Condition: short rows. -/
set_option linter.unusedSimpArgs false
set_option linter.unusedVariables false
namespace Go.Proofs.YtibmehnippjakaaGreat.Plain
open Go.RowKit Go.Proofs.YtibmehnippjakaaGreatW.PrintWords Go.Proofs.YtibmehnippjakaaGreat.Base Go.Proofs.YtibmehnippjakaaGreat.Print
def QY (l : List (List Int)) : Bool := decide (l.length ≤ 12) && l.all (fun b => b.all (inR 0 255))
theorem Um (suf : List (List Int)) : ∀ (pre : List (List Int)), (pre ++ suf).length ≤ 1000000 → (∀ x ∈ suf, x.length ≤ 1000000) →
 ∃ r, AH.l0v (pre ++ suf) ((pre ++ suf).length : Int) (pre.length : Int) = some r ∧ decide (r ≥ 0) = !(suf.all (fun b => b.all (inR 0 255))) := by
 induction suf with
 | nil =>
  intro pre _ _
  refine ⟨-1, ?_, by simp⟩
  rw [AH.l0v_eq, if_neg (E3 pre)]
 | cons x suf ih =>
  intro pre hl hs
  have hn : pre.length < (pre ++ x :: suf).length := by simp
  have hx := hs x List.mem_cons_self
  rw [AH.l0v_eq, if_pos (EI pre suf x), if_pos (by omega), if_pos (EI pre suf x), LQ, DL.fv_eq, Il x 0 255 (by omega)]
  simp only [Option.bind_some]
  cases hx : x.all (inR 0 255) with
  | false =>
   rw [if_pos (show (!false) = true from rfl)]
   exact ⟨(pre.length : Int), rfl, by simp [hx]⟩
  | true =>
   rw [if_neg (by simp), F' pre x hn (by omega)]
   rw [Eg pre suf x] at hl ⊢
   obtain ⟨r, h1, h2⟩ := ih (pre ++ [x]) hl (fun y hy => hs y (List.mem_cons_of_mem _ hy))
   exact ⟨r, h1, by rw [h2]; simp [hx]⟩
theorem Q7 (l : List (List Int)) (hl : l.length ≤ 1000000) (hs : ∀ x ∈ l, x.length ≤ 1000000) : Ce.fv l = some (QY l) := by
 obtain ⟨r, h1, h2⟩ := Um l [] (by simpa using hl) hs
 rw [Ce.fv_eq, An.fv_eq, AH.fv_eq]
 simp only [List.nil_append, List.length_nil, Int.natCast_zero] at h1
 rw [h1]
 simp only [Option.bind_some, h2]
 unfold QY
 by_cases h : l.length ≤ 12
 · rw [if_pos (by omega)]
   simp [h]
 · rw [if_neg (by omega)]
   simp [h]
def trH : Int → List (List Int) → Int
 | h, [] => h
 | h, b :: l => trH (Ik 11 (h :: (b.length : Int) :: b)) l
theorem Su (suf : List (List Int)) : ∀ (pre : List (List Int)) (h : Int), (pre ++ suf).length ≤ 1000000 → (∀ x ∈ suf, x.length ≤ 1000000) → BA.l0v h (pre ++ suf) ((pre ++ suf).length : Int) (pre.length : Int) = some (trH h suf) := by
 induction suf with
 | nil =>
  intro pre h _ _
  rw [BA.l0v_eq, if_neg (E3 pre)]
  rfl
 | cons x suf ih =>
  intro pre h hl hs
  have hn : pre.length < (pre ++ x :: suf).length := by simp
  have hx := hs x List.mem_cons_self
  rw [BA.l0v_eq, if_pos (EI pre suf x), if_pos (by omega), if_pos (EI pre suf x), LQ]
  simp only [Option.bind_some]
  rw [if_pos (by simp; omega), K1 _ (by simp; omega), Option.bind_some, F' pre x hn (by omega)]
  rw [Eg pre suf x] at hl ⊢
  exact ih (pre ++ [x]) _ hl (fun y hy => hs y (List.mem_cons_of_mem _ hy))
theorem UY (l : List (List Int)) (hl : l.length ≤ 1000000) (hs : ∀ x ∈ l, x.length ≤ 1000000) : BA.fv l = some (if QY l then trH 1 l else 0) := by
 rw [BA.fv_eq, Q7 l hl hs, Option.bind_some]
 cases QY l with
 | true =>
  rw [if_pos rfl, if_pos rfl]
  simpa using Su l [] 1 (by simpa using hl) hs
 | false => simp
theorem Qa (k : Int) (l : List Int) (hl : l.length ≤ 1000000) : EB.fv k l = some (Ik 11 (k :: (l ++ [k]))) := by
 rw [EB.fv_eq, LY _ (by simp) (by simp; omega), Option.bind_some, K1 _ (by simp; omega)]
 simp
def fin (k : Int) (l : List (List Int)) : Int := if inR 1 2147483646 k && QY l then Ik 11 [k, 1, trH 1 l, k] else 0
theorem O9 (k : Int) (l : List (List Int)) (hl : l.length ≤ 1000000) (hs : ∀ x ∈ l, x.length ≤ 1000000) : BR.fv k l 1 = some (fin k l) := by
 rw [BR.fv_eq, Q7 l hl hs]
 unfold Ey.f fin
 rw [Hj, Hj]
 simp only [Option.bind_some, BR.j0v_eq, UY l hl hs]
 rw [Qa _ _ (by simp)]
 cases inR 1 2147483646 k <;> cases h : QY l <;> simp [show inR 0 1 1 = true from rfl]
theorem PN (k : Int) (l : List (List Int)) (f : Int) (hl : l.length ≤ 1000000) (hs : ∀ x ∈ l, x.length ≤ 1000000) : Dz.fv k l 1 f = some (!decide (f = 0) && decide (f = fin k l)) := by
 rw [Dz.fv_eq, O9 k l hl hs]
 by_cases h : f = 0
 · rw [if_pos h]
   simp [h]
 · rw [if_neg h]
   simp [h, Bool.beq_eq_decide_eq]
end Go.Proofs.YtibmehnippjakaaGreat.Plain

/- HelloOf of the program, behind its AddGrease. Condition: at most 10 to the 12 of each. -/
set_option linter.unusedSimpArgs false
set_option linter.unusedVariables false
namespace Go.Proofs.YtibmehnippjakaaGreat.Plain
open Go.RowKit Go.Proofs.YtibmehnippjakaaGreatW.PrintWords Go.Proofs.YtibmehnippjakaaGreat.Base Go.Proofs.YtibmehnippjakaaGreat.Print
def G9 (t : List Int) : List S81 := t.map fun x => ⟨x, []⟩
theorem U3 (s : Int) (v : List Int) (p : List S75) (c : Int) (hv : v.length ≤ 1000000000000) (ys : List S81) (suf : List Int) : ∀ (pre : List Int), (pre ++ suf).length ≤ 1000000000000 → Dt.fv (G9 (pre ++ suf)) s = some ys →
 Bj.l0v s (G9 pre) (pre ++ suf) ((pre ++ suf).length : Int) (pre.length : Int) v (pre ++ suf) p c = some (v, ys) := by
 induction suf with
 | nil =>
  intro pre hl h
  rw [Bj.l0v_eq, if_neg (E3 pre)]
  simp only [Option.bind_some, List.length_nil, Nat.zero_add, List.nil_append]
  rw [List.append_nil] at h
  rw [if_pos (by omega), h]
  rfl
 | cons x suf ih =>
  intro pre hl h
  have hn : pre.length < (pre ++ x :: suf).length := by simp
  have hb : (G9 pre).length < 4398046511104 := by unfold G9; rw [List.length_map]; omega
  rw [Bj.l0v_eq, if_pos (EI pre suf x), if_pos (by omega), if_pos (EI pre suf x), if_pos hb, IP, F' pre x hn hl]
  rw [Eg pre suf x] at hl h ⊢
  have h1 := ih (pre ++ [x]) hl h
  simpa [G9] using h1
end Go.Proofs.YtibmehnippjakaaGreat.Plain

/- Extensions copied by the program. Condition: at most 10 to the 12. -/
set_option linter.unusedSimpArgs false
set_option linter.unusedVariables false
namespace Go.Proofs.YtibmehnippjakaaGreat.Plain
open Go.RowKit Go.Proofs.YtibmehnippjakaaGreatW.PrintWords Go.Proofs.YtibmehnippjakaaGreat.Base Go.Proofs.YtibmehnippjakaaGreat.Print
theorem V9 (suf : List S81) : ∀ (pre : List S81), (pre ++ suf).length ≤ 1000000000000 → F9 suf →
 AN.l0v pre (pre ++ suf) ((pre ++ suf).length : Int) (pre.length : Int) = some (pre ++ suf) := by
 induction suf with
 | nil =>
  intro pre _ _
  rw [AN.l0v_eq, if_neg (E3 pre), List.append_nil]
 | cons x suf ih =>
  intro pre hl hs
  have hn : pre.length < (pre ++ x :: suf).length := by simp
  have hx := hs x List.mem_cons_self
  rw [AN.l0v_eq, if_pos (EI pre suf x), if_pos (by omega), if_pos (EI pre suf x), HV, F' pre x hn hl]
  unfold HJ.f
  simp only [Option.bind_some, if_true, List.length_nil, Nat.zero_add, List.nil_append]
  rw [if_pos (by omega), if_pos (by omega)]
  rw [Eg pre suf x] at hl ⊢
  exact ih (pre ++ [x]) hl (fun y hy => hs y (List.mem_cons_of_mem _ hy))
theorem We (l : List S81) (hl : l.length ≤ 1000000000000) (hs : F9 l) : Dc.fv l = some l := by
 have h := V9 l [] (by simpa using hl) hs
 simp only [List.nil_append, List.length_nil, Int.natCast_zero] at h
 rw [Dc.fv_eq, AN.fv_eq, h]
 rfl
end Go.Proofs.YtibmehnippjakaaGreat.Plain

/- slices.Equal on whole numbers. Condition: at most 10 to the 12 numbers. -/
set_option linter.unusedSimpArgs false
set_option linter.unusedVariables false
namespace Go.Proofs.YtibmehnippjakaaGreat.Plain
open Go.RowKit Go.Proofs.YtibmehnippjakaaGreatW.PrintWords Go.Proofs.YtibmehnippjakaaGreat.Base Go.Proofs.YtibmehnippjakaaGreat.Print
theorem Nu (sa : List Int) : ∀ (pre sb : List Int), sb.length = sa.length → (pre ++ sa).length ≤ 1000000000000 → Ai.l0v (pre ++ sa) (pre ++ sb) ((pre ++ sa).length : Int) (pre.length : Int) = some (decide (sa = sb)) := by
 induction sa with
 | nil =>
  intro pre sb hr _
  rw [Ai.l0v_eq, if_neg (E3 pre)]
  simp at hr
  simp [hr]
 | cons x sa ih =>
  intro pre sb hr hl
  cases sb with
  | nil => simp at hr
  | cons y sb =>
   have hn : pre.length < (pre ++ x :: sa).length := by simp
   rw [Ai.l0v_eq, if_pos (EI pre sa x), if_pos (by omega), if_pos (EI pre sa x), if_pos (EI pre sb y), IP, IP, F' pre x hn hl]
   by_cases hxy : x = y
   · subst hxy
     rw [if_pos rfl]
     rw [Eg pre sa x] at hl ⊢
     rw [Eg pre sb x]
     rw [ih (pre ++ [x]) sb (by simpa using hr) hl]
     simp
   · rw [if_neg hxy]
     simp [hxy]
theorem JZ (a b : List Int) (hl : a.length ≤ 1000000000000) : Ai.fv a b = some (decide (a = b)) := by
 rw [Ai.fv_eq]
 by_cases h : a.length = b.length
 · rw [if_pos (by omega)]
   have h1 := Nu a [] b h.symm (by simpa using hl)
   simpa using h1
 · rw [if_neg (by omega)]
   have : a ≠ b := fun e => h (by rw [e])
   simp [this]
end Go.Proofs.YtibmehnippjakaaGreat.Plain

/- IsOpenPath, PassesWhole and LostTags, of the program. Condition: at most 10 to the 12 of each. -/
set_option linter.unusedSimpArgs false
set_option linter.unusedVariables false
namespace Go.Proofs.YtibmehnippjakaaGreat.Plain
open Go.RowKit Go.Proofs.YtibmehnippjakaaGreatW.PrintWords Go.Proofs.YtibmehnippjakaaGreat.Base Go.Proofs.YtibmehnippjakaaGreat.Print
theorem Rj (p : List S75) (v : List Int) (hp : p.length ≤ 1000000000000) (hs : ∀ x ∈ p, okB x) (hv : v.length ≤ 1000000000000) : DZ.fv p v = some (OG p v) := by
 have ht : (v.take 1).length ≤ 1000000000000 := by
  rw [List.length_take]
  omega
 rw [DZ.fv_eq, Iu v hv]
 unfold E5.f
 simp only [Option.bind_some, List.nil_append, List.length_nil, Nat.zero_add, OG]
 cases ha : Hv v with
 | false => simp
 | true =>
  have h1 : 0 < v.length := by
   simp only [Hv, Bool.and_eq_true, decide_eq_true_eq] at ha
   exact ha.2
  rw [if_pos rfl, if_pos (by omega), if_pos (by omega)]
  simp only [Option.bind_some]
  rw [JL p _ [] hp hs ht (by simp) (fun x hx => by cases hx)]
  simp
theorem Uz (a b : S81) (h : a.f1.length ≤ 1000000000000) : EK.fv a.f0 a.f1 b.f0 b.f1 = some (eqX a b) := by
 rw [EK.fv_eq, JZ _ _ h]
 simp only [Option.bind_some, eqX]
 by_cases h1 : a.f0 = b.f0 <;> simp [h1]
theorem Qq (sa : List S81) : ∀ (pre q sb : List S81), q.length = pre.length → sb.length = sa.length → (pre ++ sa).length ≤ 1000000000000 → F9 sa →
 AA.l0v (q ++ sb) (pre ++ sa) ((pre ++ sa).length : Int) (pre.length : Int) = some (NY sa sb) := by
 induction sa with
 | nil =>
  intro pre q sb _ hr _ _
  rw [AA.l0v_eq, if_neg (E3 pre)]
  simp at hr
  simp [hr, NY]
 | cons x sa ih =>
  intro pre q sb hq hr hl hs
  cases sb with
  | nil => simp at hr
  | cons y sb =>
   have hn : pre.length < (pre ++ x :: sa).length := by simp
   rw [AA.l0v_eq, if_pos (EI pre sa x), if_pos (by omega), if_pos (EI pre sa x), HV, F' pre x hn hl, ← hq, if_pos (EI q sb y), HV, Uz x y (hs x List.mem_cons_self)]
   simp only [Option.bind_some, NY]
   cases eqX x y with
   | false => simp
   | true =>
    rw [if_pos rfl, Eg q sb y]
    rw [Eg pre sa x] at hl ⊢
    rw [ih (pre ++ [x]) (q ++ [y]) sb (by simp [hq]) (by simpa using hr) hl (fun y hy => hs y (List.mem_cons_of_mem _ hy))]
    rfl
theorem S8 (l m : List S81) (hl : l.length ≤ 1000000000000) (hs : F9 l) : EE.fv l m = some (NY l m) := by
 rw [EE.fv_eq, AA.fv_eq]
 by_cases h : l.length = m.length
 · have h1 := Qq l [] [] m rfl h.symm (by simpa using hl) hs
   simp only [List.nil_append, List.length_nil, Int.natCast_zero] at h1
   rw [if_pos (by omega), h1]
   rfl
 · rw [if_neg (by omega), Qy h]
   rfl
theorem KQ (v : List Int) (l : List S81) (p : List S75) (hp : p.length ≤ 1000000000000) (hs : ∀ x ∈ p, okB x) (hv : v.length ≤ 1000000000000) (hl : l.length ≤ 1000000000000) (hx : F9 l) : Cj.fv v l p = some (whole v l p) := by
 obtain ⟨a1, a2, a3⟩ := Qh p v l hx
 rw [Cj.fv_eq, JL p v l hp hs hv hl hx]
 simp only [Option.bind_some, whole]
 rw [D1.fv_eq, JZ _ v (by omega), S8 _ l (by omega) a3]
 simp only [Option.bind_some]
 generalize NY (Hy p v l).2.1 l = x
 generalize (Hy p v l).2.2 = y
 by_cases h1 : (Hy p v l).1 = v <;> cases x <;> cases y <;> simp [h1]
theorem Q2 (p : List S75) (v : List Int) (hp : p.length ≤ 1000000000000) (hs : ∀ x ∈ p, okB x) (hv : v.length ≤ 1000000000000) (h1 : 0 < v.length) (suf : List S81) : ∀ (pre : List S81) (out : List Int), (pre ++ suf).length ≤ 1000000000000 → out.length ≤ pre.length → F9 suf →
 Au.l0v p v out (pre ++ suf) ((pre ++ suf).length : Int) (pre.length : Int) = some (out ++ (suf.filter (fun x => !whole (v.take 1) [x] p)).map (·.f0)) := by
 induction suf with
 | nil =>
  intro pre out _ _ _
  rw [Au.l0v_eq, if_neg (E3 pre)]
  simp
 | cons x suf ih =>
  intro pre out hl ho hx
  have hn : pre.length < (pre ++ x :: suf).length := by simp
  have hq : pre.length < 1000000000000 := by omega
  have hx' : F9 suf := fun y hy => hx y (List.mem_cons_of_mem _ hy)
  have ho1 : F9 [x] := fun y hy => by
   rw [List.mem_singleton.1 hy]
   exact hx x List.mem_cons_self
  have ht : (v.take 1).length ≤ 1000000000000 := by
   rw [List.length_take]
   omega
  rw [Au.l0v_eq, if_pos (EI pre suf x), if_pos (by omega), if_pos (EI pre suf x), if_pos (by omega), HV, show (⟨x.f0, x.f1⟩ : S81) = x from rfl, KQ _ _ p hp hs ht (by simp) ho1, F' pre x hn hl]
  simp only [Option.bind_some]
  rw [Eg pre suf x] at hl ⊢
  cases hw : whole (v.take 1) [x] p with
  | true =>
   rw [if_pos rfl, ih (pre ++ [x]) out hl (by simp; omega) hx']
   simp [hw]
  | false =>
   rw [if_neg (by simp), if_pos (by omega), ih (pre ++ [x]) _ hl (by simp; omega) hx']
   simp [hw]
theorem S3 (p : List S75) (v : List Int) (l : List S81) (hp : p.length ≤ 1000000000000) (hs : ∀ x ∈ p, okB x) (hv : v.length ≤ 1000000000000) (hl : l.length ≤ 1000000000000) (hx : F9 l) : Au.fv p v l = some (ME p v l) := by
 rw [Au.fv_eq, Rj p v hp hs hv, JE l hl hx]
 simp only [Option.bind_some, Au.j0v_eq, ME]
 cases ho : OG p v with
 | false => simp
 | true =>
  have h1 : 0 < v.length := by
   simp only [OG, Hv, Bool.and_eq_true, decide_eq_true_eq] at ho
   exact ho.1.2
  have h := Q2 p v hp hs hv h1 l [] [] (by simpa using hl) (by simp) hx
  simp only [List.nil_append, List.length_nil, Int.natCast_zero] at h
  cases isX l with
  | false => simp
  | true => simp [h]
end Go.Proofs.YtibmehnippjakaaGreat.Plain

/- PartHello, FallbackHello, HelloFor and GivenUp of the program. Condition: at most 10 to the 12 of each. -/
set_option linter.unusedSimpArgs false
set_option linter.unusedVariables false
namespace Go.Proofs.YtibmehnippjakaaGreat.Plain
open Go.RowKit Go.Proofs.YtibmehnippjakaaGreatW.PrintWords Go.Proofs.YtibmehnippjakaaGreat.Base Go.Proofs.YtibmehnippjakaaGreat.Print
theorem PX (t : List Int) (ht : t.length ≤ 1000000000000) (suf : List S81) : ∀ (pre out : List S81), (pre ++ suf).length ≤ 1000000000000 → out.length ≤ pre.length → F9 suf →
 AP.l0v out (pre ++ suf) ((pre ++ suf).length : Int) (pre.length : Int) t = some (out ++ suf.filter (fun x => !mem t x.f0)) := by
 induction suf with
 | nil =>
  intro pre out _ _ _
  rw [AP.l0v_eq, if_neg (E3 pre)]
  simp
 | cons x suf ih =>
  intro pre out hl ho hs
  have hn : pre.length < (pre ++ x :: suf).length := by simp
  have hx := hs x List.mem_cons_self
  have h2 : F9 suf := fun y hy => hs y (List.mem_cons_of_mem _ hy)
  rw [AP.l0v_eq, if_pos (EI pre suf x), if_pos (by omega), if_pos (EI pre suf x), HV, Dx.fv_eq, JQ _ _ ht]
  simp only [Option.bind_some]
  have hp : out.length < 1000000000000 := by omega
  rw [F' pre x hn hl]
  rw [Eg pre suf x] at hl ⊢
  by_cases hb : (!mem t x.f0) = true
  · rw [if_pos hb, if_pos (by simp; omega), if_pos (by omega)]
    have h := ih (pre ++ [x]) (out ++ [x]) hl (by simp; omega) h2
    rw [List.filter_cons_of_pos (by simpa using hb)]
    simpa using h
  · rw [if_neg hb]
    have h := ih (pre ++ [x]) out hl (by simp; omega) h2
    rw [List.filter_cons_of_neg (by simpa using hb)]
    simpa using h
def Oi (t : List Int) (l : List S81) : List S81 := l.filter (fun x => !mem t x.f0)
def part (v : List Int) (l : List S81) (a t : List Int) : List Int × List S81 × Bool := if isH v l && !decide ((wo v a).length = 0) then (wo v a, Oi t l, true) else ([], [], false)
theorem RU (v : List Int) (l : List S81) (a t : List Int) (hv : v.length ≤ 1000000000000) (hl : l.length ≤ 1000000000000) (hs : F9 l) (ha : a.length ≤ 1000000000000) (ht : t.length ≤ 1000000000000) : EG.fv v l a t = some (part v l a t) := by
 have h := PX t ht l [] [] (by simpa using hl) (by simp) hs
 simp only [List.nil_append, List.length_nil, Int.natCast_zero] at h
 rw [EG.fv_eq, Je v a hv ha, H3 v l hv hl hs, AP.fv_eq, h]
 simp only [Option.bind_some]
 unfold part Oi
 generalize wo v a = q
 have e : ((q.length : Int) = 0) ↔ (q.length = 0) := by omega
 cases isH v l <;> by_cases hq : q.length = 0 <;> simp only [e, hq] <;> simp
theorem VZ {t : List Int} {l : List S81} (h : F9 l) : F9 (Oi t l) := fun x hx => h x (List.mem_filter.mp hx).1
theorem U6 (t : List Int) (l : List S81) : (Oi t l).length ≤ l.length := List.length_filter_le _ _
theorem T0 (v : List Int) (l : List S81) (a t : List Int) (hs : F9 l) : (part v l a t).1.length ≤ v.length ∧ (part v l a t).2.1.length ≤ l.length ∧ F9 (part v l a t).2.1 := by
 unfold part
 split
 · exact ⟨NR v a, U6 t l, VZ hs⟩
 · exact ⟨Nat.zero_le _, Nat.zero_le _, fun x hx => by cases hx⟩
theorem UX (p : List S75) (v : List Int) (l : List S81) : (ME p v l).length ≤ l.length := by
 unfold ME
 split
 · rw [List.length_map]
   exact List.length_filter_le _ _
 · exact Nat.zero_le _
def fall (v : List Int) (l : List S81) (p : List S75) : List Int × List S81 × Bool := part v l (JO p v) (ME p (wo v (JO p v)) l)
def Jx (v : List Int) (l : List S81) (p : List S75) : List Int × List S81 × Int × Bool :=
 if isH v l then (if whole v l p then (v, l, 1, true) else if (fall v l p).2.2 && whole (fall v l p).1 (fall v l p).2.1 p then ((fall v l p).1, (fall v l p).2.1, 2, true) else ([], [], 2, false)) else ([], [], 0, false)
theorem TD (v : List Int) (l : List S81) (p : List S75) (hp : p.length ≤ 1000000000000) (hb : ∀ x ∈ p, okB x) (hv : v.length ≤ 1000000000000) (hl : l.length ≤ 1000000000000) (hs : F9 l) : CB.fv v l p = some (fall v l p) := by
 have h1 := Oj p v
 have h2 := NR v (JO p v)
 have h3 := UX p (wo v (JO p v)) l
 rw [CB.fv_eq, MD p v hp hb hv, Option.bind_some, Je v _ hv (by omega), Option.bind_some, S3 p _ l hp hb (by omega) hl hs, Option.bind_some, RU v l _ _ hv hl hs (by omega) (by omega)]
 rfl
theorem Uj (v : List Int) (l : List S81) (p : List S75) (hp : p.length ≤ 1000000000000) (hb : ∀ x ∈ p, okB x) (hv : v.length ≤ 1000000000000) (hl : l.length ≤ 1000000000000) (hs : F9 l) : EN.fv v l p = some (Jx v l p) := by
 have a0 : (fall v l p).1.length ≤ v.length ∧ (fall v l p).2.1.length ≤ l.length ∧ F9 (fall v l p).2.1 := T0 v l (JO p v) (ME p (wo v (JO p v)) l) hs
 obtain ⟨a1, a2, a3⟩ := a0
 rw [EN.fv_eq, H3 v l hv hl hs, KQ v l p hp hb hv hl hs, M1 v l hv hl hs, TD v l p hp hb hv hl hs]
 simp only [Option.bind_some]
 rw [KQ _ _ p hp hb (Nat.le_trans a1 hv) (Nat.le_trans a2 hl) a3]
 unfold Jx
 simp only [Option.bind_some]
 cases isH v l <;> cases whole v l p <;> cases (fall v l p).2.2 <;> cases whole (fall v l p).1 (fall v l p).2.1 p <;> rfl
theorem QI (g : List Int) (suf : List Int) : ∀ (pre out : List Int), (pre ++ suf).length ≤ 1000000000000 → out.length ≤ g.length + pre.length → g.length ≤ 1000000000000 → ∃ r, Be.l0v out (pre ++ suf) ((pre ++ suf).length : Int) (pre.length : Int) = some r := by
 induction suf with
 | nil =>
  intro pre out _ _ _
  rw [Be.l0v_eq, if_neg (E3 pre)]
  exact ⟨_, rfl⟩
 | cons x suf ih =>
  intro pre out hl ho hg
  have hn : pre.length < (pre ++ x :: suf).length := by simp
  have hq : out.length < 17592186044416 := by omega
  rw [Be.l0v_eq, if_pos (EI pre suf x), if_pos (by omega), if_pos (EI pre suf x), IP, Hj, Option.bind_some, F' pre x hn hl]
  rw [Eg pre suf x] at hl ⊢
  simp only [if_pos hq]
  split
  · exact ih (pre ++ [x]) _ hl (by simp; omega) hg
  · exact ih (pre ++ [x]) _ hl (by simp; omega) hg
theorem QG (v : List Int) (l : List S81) (v' : List Int) (l' : List S81) (hv : v.length ≤ 1000000000000) (hl : l.length ≤ 1000000000000) (hv' : v'.length ≤ 1000000000000) (hl' : l'.length ≤ 1000000000000) : ∃ r, Be.fv v l v' l' = some r := by
 rw [Be.fv_eq, Je v v' hv hv', IK l hl, IK l' hl']
 simp only [Option.bind_some]
 rw [Je _ _ (by simpa using hl) (by simpa using hl'), Option.bind_some]
 have h := NR (l.map (·.f0)) (l'.map (·.f0))
 rw [List.length_map] at h
 have h2 := NR v v'
 simpa using QI (wo v v') (wo (l.map (·.f0)) (l'.map (·.f0))) [] (wo v v') (by simp; omega) (by simp) (by omega)
end Go.Proofs.YtibmehnippjakaaGreat.Plain

/- A dial of the program: dealt (without edits), DialOnce, Dial. Condition: at most 10 to the 12 of each. -/
set_option linter.unusedSimpArgs false
set_option linter.unusedVariables false
namespace Go.Proofs.YtibmehnippjakaaGreat.Plain
open Go.RowKit Go.Proofs.YtibmehnippjakaaGreatW.PrintWords Go.Proofs.YtibmehnippjakaaGreat.Base Go.Proofs.YtibmehnippjakaaGreat.Print
abbrev TM := Bool × Int × List Int
def Jm : TM := (false, 0, [])
def deal (v : List Int) (l : List S81) (v' : List Int) (l' : List S81) (w t : List Int) (k : Int) : TM :=
 let c := choose w t v' l'
 let f := fin k [Hk v' l', J8 c.1 c.2.1]
 if c.2.2 && (fits v l c.1 c.2.1 && (!decide (f = 0) && decide (f = fin k [Hk v l, J8 c.1 c.2.1]))) then (true, c.1, c.2.1.map (·.f0)) else Jm
theorem Ud (w t v : List Int) (l : List S81) (hs : F9 l) : (choose w t v l).2.1.length ≤ l.length ∧ F9 (choose w t v l).2.1 := by
 unfold choose
 split
 · exact ⟨Rx t l, Un t hs⟩
 · exact ⟨Nat.zero_le _, fun x hx => by cases hx⟩
theorem Q9 (v : List Int) (l : List S81) (v' : List Int) (l' : List S81) (w t : List Int) (k : Int) (hv : v.length ≤ 1000000000000) (hl : l.length ≤ 1000000000000) (hs : F9 l) (hv' : v'.length ≤ 1000000000000) (hl' : l'.length ≤ 1000000000000) (hs' : F9 l') (hw : w.length ≤ 1000000000000) (ht : t.length ≤ 1000000000000) :
 Bw.fv v l v' l' w t k [] = some (deal v l v' l' w t k) := by
 obtain ⟨c1, c2⟩ := Ud w t v' l' hs'
 have c1 := Nat.le_trans c1 hl'
 have hb : ∀ (a : List Int) (m : List S81) (x : Int) (n : List S81), ∀ y ∈ [Hk a m, J8 x n], y.length ≤ 1000000 := fun a m x n y hy => by
  have h1 := S5 a m
  have h2 := VG x n
  simp only [List.mem_cons, List.not_mem_nil, or_false] at hy
  rcases hy with rfl | rfl <;> omega
 rw [Bw.fv_eq, Px w t v' l' hw ht hv' hl' hs', Option.bind_some]
 unfold deal
 generalize hc : choose w t v' l' = c at c1 c2 ⊢
 obtain ⟨a, m, o⟩ := c
 dsimp only at c1 c2 ⊢
 cases o with
 | false => rfl
 | true =>
  rw [if_pos rfl, Bw.l0v_eq, if_neg (by simp), LX v' l' hv' hl' hs', RY a m c1 c2]
  simp only [Option.bind_some]
  rw [O9 k _ (by simp) (hb _ _ _ _), Option.bind_some, TI v l a m hv hl hs c1 c2, LX v l hv hl hs]
  simp only [Option.bind_some]
  rw [PN k _ _ (by simp) (hb _ _ _ _), IK m c1]
  simp only [Option.bind_some]
  cases fits v l a m with
  | false => rfl
  | true =>
   rw [if_pos rfl]
   simp only [Bool.true_and]
   split <;> rfl
def TZ (v : List Int) (l : List S81) (p : List S75) (w t : List Int) (k : Int) : TM := if (Hy p v l).2.2 then deal v l (Hy p v l).1 (Hy p v l).2.1 w t k else Jm
theorem RQ (v : List Int) (l : List S81) (p : List S75) (w t : List Int) (k : Int) (hp : p.length ≤ 1000000000000) (hb : ∀ x ∈ p, okB x) (hv : v.length ≤ 1000000000000) (hl : l.length ≤ 1000000000000) (hs : F9 l) (hw : w.length ≤ 1000000000000) (ht : t.length ≤ 1000000000000) :
 EP.fv v l p w t k = some (TZ v l p w t k) := by
 obtain ⟨a1, a2, a3⟩ := Qh p v l hs
 rw [EP.fv_eq, JL p v l hp hb hv hl hs, Option.bind_some, Q9 v l _ _ w t k hv hl hs (Nat.le_trans a1 hv) (Nat.le_trans a2 hl) a3 hw ht]
 unfold TZ
 cases (Hy p v l).2.2 <;> rfl
def Kz (v : List Int) (l : List S81) (p : List S75) (w t : List Int) (k : Int) : TM := if (Jx v l p).2.2.2 then TZ (Jx v l p).1 (Jx v l p).2.1 p w t k else Jm
theorem Wn (v : List Int) (l : List S81) (p : List S75) (hs : F9 l) : (Jx v l p).1.length ≤ v.length ∧ (Jx v l p).2.1.length ≤ l.length ∧ F9 (Jx v l p).2.1 := by
 have h0 : ([] : List Int).length ≤ v.length ∧ ([] : List S81).length ≤ l.length ∧ F9 ([] : List S81) := ⟨Nat.zero_le _, Nat.zero_le _, fun x hx => by cases hx⟩
 unfold Jx
 split
 · split
   · exact ⟨Nat.le_refl _, Nat.le_refl _, hs⟩
   · split
     · exact T0 v l _ _ hs
     · exact h0
 · exact h0
theorem Qd (v : List Int) (l : List S81) (p : List S75) (w t : List Int) (k : Int) (hp : p.length ≤ 1000000000000) (hb : ∀ x ∈ p, okB x) (hv : v.length ≤ 1000000000000) (hl : l.length ≤ 1000000000000) (hs : F9 l) (hw : w.length ≤ 1000000000000) (ht : t.length ≤ 1000000000000) :
 ∃ g, Ei.fv v l p w t k = some ((Kz v l p w t k).1, (Kz v l p w t k).2.1, (Kz v l p w t k).2.2, (Jx v l p).2.2.1, g) := by
 obtain ⟨a1, a2, a3⟩ := Wn v l p hs
 have a1 := Nat.le_trans a1 hv
 have a2 := Nat.le_trans a2 hl
 obtain ⟨g, e⟩ := QG v l (Jx v l p).1 (Jx v l p).2.1 hv hl a1 a2
 rw [Ei.fv_eq, Uj v l p hp hb hv hl hs, Option.bind_some, RQ _ _ p w t k hp hb a1 a2 a3 hw ht, Option.bind_some, e]
 unfold Kz
 cases (Jx v l p).2.2.2 with
 | false => exact ⟨[], rfl⟩
 | true => exact ⟨g, rfl⟩
end Go.Proofs.YtibmehnippjakaaGreat.Plain

/- The greased hello, and an endpoint's dial, of the program. Condition: at most 10 to the 12 of each. -/
set_option linter.unusedSimpArgs false
set_option linter.unusedVariables false
namespace Go.Proofs.YtibmehnippjakaaGreat.Plain
open Go.RowKit Go.Proofs.YtibmehnippjakaaGreatW.PrintWords Go.Proofs.YtibmehnippjakaaGreat.Base Go.Proofs.YtibmehnippjakaaGreat.Print
def gext (s : Int) : S81 := ⟨gtag s, List.replicate (pick s 2 3).toNat (pick s 3 256)⟩
def gput (l : List S81) (s : Int) : List S81 := l.take (pick s 1 ((l.length : Int) + 1)).toNat ++ gext s :: l.drop (pick s 1 ((l.length : Int) + 1)).toNat
theorem Qn (s : Int) : (gext s).f1.length ≤ 2 := by
 have := Ju s 2 3 (by decide)
 simp only [gext, List.length_replicate]
 omega
theorem Uc (l : List S81) (s : Int) (hx : isX l = true) (hl : l.length ≤ 5) (ht : IQ l (gtag s) = false) : Dt.fv l s = some (gput l s) := by
 have hs : F9 l := fun x hxx => by
  have := (NV hx).2 x hxx
  omega
 have hl2 : l.length ≤ 1000000000000 := by omega
 obtain ⟨e, e1, e2⟩ := Lm l (gtag s) hl2
 rw [ht] at e2
 have e0 : ¬ 0 ≤ e := of_decide_eq_false e2
 have p2 := Ju s 2 3 (by decide)
 have p1 := Ju s 1 ((l.length : Int) + 1) (by omega)
 rw [Dt.fv_eq, We l hl2 hs, UZ, JE l hl2 hs, hx]
 simp only [Option.bind_some, if_true]
 rw [if_neg (by omega), e1, Option.bind_some, if_neg e0, Jr s 3 256 (by decide) (by decide), Jr s 2 3 (by decide) (by decide), w64 (by omega) (by omega), Jr s 1 _ (by omega) (by omega)]
 simp only [Option.bind_some]
 rw [if_pos p2.1, if_pos (by omega), if_pos p1.1, if_pos (by omega), if_pos (by omega)]
 rfl
theorem UT (t : List Int) (x : Int) : IQ (G9 t) x = mem t x := by
 induction t with
 | nil => simp [IQ, G9, mem]
 | cons y t ih =>
  rw [Ek, ← ih]
  rfl
theorem Xe (t : List Int) : ∀ (p : Int), asc (some p) t = true → ∀ x ∈ t, p < x := by
 induction t with
 | nil => intro p _ x hx; cases hx
 | cons y t ih =>
  intro p h x hx
  simp only [asc, above, Bool.and_eq_true, decide_eq_true_eq] at h
  cases hx with
  | head => exact h.1
  | tail _ hx =>
   have := ih y h.2 x hx
   omega
theorem UO (t : List Int) : ∀ (pre : List S81) (o : Option Int), asc o t = true → t.all (inR 0 255) = true → (∀ x ∈ t, IQ pre x = false) → Iy pre (G9 t) = true := by
 induction t with
 | nil => intro pre o _ _ _; rfl
 | cons x t ih =>
  intro pre o h1 h2 h3
  simp only [asc, Bool.and_eq_true] at h1
  simp only [List.all_cons, Bool.and_eq_true] at h2
  have hx := h3 x List.mem_cons_self
  have hr := ih (pre ++ [⟨x, []⟩]) (some x) h1.2 h2.2 (fun y hy => by
   have h4 := h3 y (List.mem_cons_of_mem _ hy)
   have h5 := Xe t x h1.2 y hy
   have h6 : IQ (pre ++ [⟨x, []⟩]) y = (IQ pre y || decide (x = y)) := by simp [IQ]
   rw [h6, h4]
   simp
   omega)
  show (inR 0 255 x && (!IQ pre x && (decide (([] : List Int).length ≤ 4) && (([] : List Int).all (inR 0 255) && Iy (pre ++ [⟨x, []⟩]) (G9 t))))) = true
  rw [h2.1, hx, hr]
  rfl
theorem Qm {t : List Int} (h5 : t.length ≤ 5) (h1 : asc none t = true) (h2 : t.all (inR 0 255) = true) : isX (G9 t) = true := by
 have h : (G9 t).length = t.length := by simp [G9]
 simp only [isX, Bool.and_eq_true, decide_eq_true_eq]
 exact ⟨UO t [] none h1 h2 (fun x _ => rfl), by omega⟩
theorem Kp (s : Int) : 0 ≤ gtag s ∧ gtag s ≤ 255 ∧ res (gtag s) = true := by
 have := Ju s 0 16 (by decide)
 have h : gtag s = 16 * pick s 0 16 + 10 := rfl
 refine ⟨by omega, by omega, ?_⟩
 have h2 : Int.tmod (gtag s) 16 = 10 := by
  rw [h, Int.tmod_eq_emod_of_nonneg (by omega)]
  omega
 simp only [res, Bool.and_eq_true, He, h2]
 exact ⟨by omega, rfl⟩
theorem Ih {v t : List Int} {p : List S75} {c : Int} (h : isE v t p c = true) : Hv v = true ∧ t.length ≤ 5 ∧ asc none t = true ∧ t.all (inR 0 255) = true ∧ t.any res = false ∧ p.length ≤ 4 ∧ p.all isB = true := by
 simp only [isE, Bool.and_eq_true, decide_eq_true_eq, Bool.not_eq_true'] at h
 exact ⟨h.1, h.2.1, h.2.2.1.1, h.2.2.1.2, h.2.2.2.1, h.2.2.2.2.1, h.2.2.2.2.2.1⟩
theorem Vv {t : List Int} (h : t.any res = false) (s : Int) : mem t (gtag s) = false := by
 cases hm : mem t (gtag s) with
 | false => rfl
 | true =>
  have h1 : gtag s ∈ t := of_decide_eq_true hm
  have h2 : t.any res = true := List.any_eq_true.mpr ⟨_, h1, (Kp s).2.2⟩
  rw [h] at h2
  cases h2
def hel (t : List Int) (s : Int) : List S81 := gput (G9 t) s
theorem Kt {v t : List Int} {p : List S75} {c : Int} (s : Int) (hp : ∀ x ∈ p, okB x) (h : isE v t p c = true) : Bj.fv v t p c s = some (v, hel t s) := by
 obtain ⟨h1, h2, h3, h4, h5, h6, h7⟩ := Ih h
 have hv := KT h1
 have e : Dt.fv (G9 t) s = some (hel t s) := Uc (G9 t) s (Qm h2 h3 h4) (by simpa [G9] using h2) (by rw [UT]; exact Vv h5 s)
 rw [Bj.fv_eq, Jb v t p c (by omega) (by omega) (by omega) hp, h, Option.bind_some, if_pos rfl]
 simpa [G9] using U3 s v p c (by omega) (hel t s) t [] (by simp; omega) (by simpa using e)
theorem LU (t : List Int) (s : Int) (h : t.length ≤ 5) : (hel t s).length ≤ 6 ∧ F9 (hel t s) := by
 have hb : (G9 t).length = t.length := by simp [G9]
 have hg := Qn s
 refine ⟨?_, fun x hx => ?_⟩
 · simp only [hel, gput, List.length_append, List.length_take, List.length_cons, List.length_drop]
   omega
 · rcases List.mem_append.1 hx with h | h
   · obtain ⟨z, _, rfl⟩ := List.mem_map.1 (List.mem_of_mem_take h)
     simp
   · rcases List.mem_cons.1 h with rfl | h
     · omega
     · obtain ⟨z, _, rfl⟩ := List.mem_map.1 (List.mem_of_mem_drop h)
       simp
theorem KU {v t : List Int} {p : List S75} {c : Int} (w u : List Int) (k s : Int) (hp : ∀ x ∈ p, okB x) (hw : w.length ≤ 1000000000000) (hu : u.length ≤ 1000000000000) (h : isE v t p c = true) :
 ∃ n g, DX.fv v t p c w u k s = some ((Kz v (hel t s) p w u k).1, (Kz v (hel t s) p w u k).2.1, (Kz v (hel t s) p w u k).2.2, n, g) := by
 obtain ⟨h1, h2, h3, h4, h5, h6, h7⟩ := Ih h
 have hv := KT h1
 obtain ⟨a1, a2⟩ := LU t s h2
 obtain ⟨g, e⟩ := Qd v (hel t s) p w u k (by omega) hp (by omega) (by omega) a2 hw hu
 rw [DX.fv_eq, Jb v t p c (by omega) (by omega) (by omega) hp, h, Option.bind_some, if_pos rfl, Kt s hp h, Option.bind_some, e]
 exact ⟨_, g, rfl⟩
theorem Jy {v t : List Int} {p : List S75} {c : Int} (w u : List Int) (k s : Int) (hv : v.length ≤ 1000000000000) (ht : t.length ≤ 1000000000000) (hl : p.length ≤ 1000000000000) (hp : ∀ x ∈ p, okB x) (h : isE v t p c = false) :
 DX.fv v t p c w u k s = some (false, 0, [], 0, []) := by
 rw [DX.fv_eq, Jb v t p c hv ht hl hp, h]
 rfl
end Go.Proofs.YtibmehnippjakaaGreat.Plain

/- No proof of a transcript that the law FnEndpoints draws is 0: counted by the kernel (written by wip/tools/gennum.py). No program. Condition: versions from 1 to 6, the drawn tags, the drawn grease, the keys 5 and 77. -/
set_option linter.unusedSimpArgs false
set_option linter.unusedVariables false
namespace Go.Proofs.YtibmehnippjakaaGreat.Plain
open Go.RowKit Go.Proofs.YtibmehnippjakaaGreatW.PrintWords Go.Proofs.YtibmehnippjakaaGreat.Base Go.Proofs.YtibmehnippjakaaGreat.Print
def stp (s v : Nat) : Nat := Nat.mod (Nat.add (Nat.add (Nat.mul s 1000003) v) 13) 2147483647
theorem QE (s v : Nat) : stp s v = (s * 1000003 + v + 13) % 2147483647 := rfl
attribute [local irreducible] stp
noncomputable def stl (l : List Nat) (s : Nat) : Nat := List.rec (motive := fun _ => Nat → Nat) (fun s => s) (fun v _ ih s => ih (stp s v)) l s
theorem PI (s : Nat) : stl [] s = s := rfl
theorem G' (v : Nat) (l : List Nat) (s : Nat) : stl (v :: l) s = stl l (stp s v) := by
 unfold stl
 with_reducible rfl
theorem P' (a b : List Nat) : ∀ s, stl (a ++ b) s = stl b (stl a s) := by
 induction a with
 | nil => intro s; rfl
 | cons x a ih => intro s; rw [List.cons_append, G', G', ih]
theorem Pv (s v : Nat) : stp s v < 2147483647 := by rw [QE]; exact Nat.mod_lt _ (by decide)
theorem R1 (l : List Nat) : ∀ s, s < 2147483647 → stl l s < 2147483647 := by
 induction l with
 | nil => intro s h; exact h
 | cons x l ih => intro s _; rw [G']; exact ih _ (Pv s x)
theorem Ux (s v : Nat) (hv : v < 2147483647) : hstep (s : Int) (v : Int) = ((stp s v : Nat) : Int) := by
 have hm : PY (v : Int) 2147483647 = v := by
  unfold PY
  have h1 : Int.tmod (v : Int) 2147483647 = v := by
   rw [Int.tmod_eq_emod_of_nonneg (by omega)]
   omega
  rw [h1, Int.tmod_eq_emod_of_nonneg (by omega)]
  omega
 rw [QE]
 unfold hstep
 rw [hm, Int.tmod_eq_emod_of_nonneg (by omega)]
 omega
def cs (l : List Nat) : List Int := List.map (fun v : Nat => (v : Int)) l
theorem IC (x : Nat) (l : List Nat) : cs (x :: l) = (x : Int) :: cs l := rfl
theorem Rh (h x : Int) (l : List Int) : Ik h (x :: l) = Ik (hstep h x) l := by rw [Ik]
theorem O0 (l : List Nat) (hl : ∀ v ∈ l, v < 2147483647) : ∀ s : Nat, Ik (s : Int) (cs l) = ((stl l s : Nat) : Int) := by
 induction l with
 | nil =>
  intro s
  rw [PI]
  rfl
 | cons x l ih =>
  intro s
  rw [IC, Rh, Ux s x (hl x List.mem_cons_self), ih (fun v hv => hl v (List.mem_cons_of_mem _ hv)), G']
inductive Tr where
 | lf
 | nd (l : Tr) (k : Nat) (r : Tr)
noncomputable def Lc (x : Nat) (t : Tr) : Bool := Tr.rec (motive := fun _ => Bool) false (fun _ k _ a b => Bool.rec (Bool.rec b a (Nat.ble x k)) true (Nat.beq x k)) t
noncomputable def Q0 {α : Type} (f : α → Bool) (l : List α) : Bool := List.rec (motive := fun _ => Bool) true (fun x _ ih => Bool.rec false ih (f x)) l
theorem J6 {α : Type} {f : α → Bool} {l : List α} (h : Q0 f l = true) : ∀ x ∈ l, f x = true := by
 induction l with
 | nil => intro x hx; cases hx
 | cons y l ih =>
  have e : Q0 f (y :: l) = Bool.rec (motive := fun _ => Bool) false (Q0 f l) (f y) := rfl
  rw [e] at h
  intro x hx
  cases hy : f y with
  | false => rw [hy] at h; cases h
  | true =>
   rw [hy] at h
   cases hx with
   | head => exact hy
   | tail _ hx => exact ih h x hx
def TT : Tr := (.nd (.nd (.nd (.nd (.nd (.nd (.nd (.nd (.nd .lf 446234 .lf) 4300000 (.nd .lf 16459873 .lf)) 17811888 (.nd (.nd .lf 22530939 .lf) 23064645 .lf)) 23837752 (.nd (.nd (.nd .lf 35945937 .lf) 41398277 .lf) 41448459 (.nd (.nd .lf 55529288 .lf) 58763931 .lf))) 59679398 (.nd (.nd (.nd (.nd .lf 68906880 .lf) 76897980 .lf) 81627395 (.nd (.nd .lf 87339169 .lf) 91107206 .lf)) 93679189 (.nd (.nd (.nd .lf 96481331 .lf) 109858923 .lf) 125056569 (.nd (.nd .lf 128291212 .lf) 129228310 .lf)))) 133208911 (.nd (.nd (.nd (.nd (.nd .lf 133629790 .lf) 134631232 (.nd .lf 137733442 .lf)) 138392253 (.nd (.nd .lf 147007382 .lf) 166008612 .lf)) 170180353 (.nd (.nd (.nd .lf 171779691 .lf) 173170149 .lf) 174581833 (.nd (.nd .lf 179344296 .lf) 180735327 .lf))) 187442371 (.nd (.nd (.nd (.nd .lf 187791060 .lf) 187959425 .lf) 196382143 (.nd (.nd .lf 202736192 .lf) 203157071 .lf)) 207919534 (.nd (.nd (.nd .lf 211730292 .lf) 215833944 .lf) 221154452 (.nd (.nd .lf 221687370 .lf) 228394414 .lf))))) 237334186 (.nd (.nd (.nd (.nd (.nd (.nd .lf 240554287 .lf) 244109114 (.nd .lf 245588335 .lf)) 248871577 (.nd (.nd .lf 262106495 .lf) 265208705 .lf)) 265542873 (.nd (.nd (.nd .lf 270360644 .lf) 274482645 .lf) 281257573 (.nd (.nd .lf 283305735 .lf) 286540378 .lf))) 293349983 (.nd (.nd (.nd (.nd .lf 299254954 .lf) 306494916 .lf) 308078044 (.nd (.nd .lf 311312687 .lf) 315434688 .lf)) 318122292 (.nd (.nd (.nd .lf 324257778 .lf) 334302026 .lf) 343309207 (.nd (.nd .lf 343588075 .lf) 349030087 .lf)))) 352583147 (.nd (.nd (.nd (.nd (.nd .lf 361406237 .lf) 362176545 (.nd .lf 377355456 .lf)) 380457666 (.nd (.nd .lf 380736534 .lf) 386178546 .lf)) 393297004 (.nd (.nd (.nd .lf 402358280 .lf) 405456877 .lf) 411885474 (.nd (.nd .lf 421409709 .lf) 421688577 .lf))) 434249047 (.nd (.nd (.nd (.nd .lf 435885970 .lf) 439506739 .lf) 446408920 (.nd (.nd .lf 452837517 .lf) 464279048 .lf)) 471063338 (.nd (.nd (.nd .lf 471397506 .lf) 472370151 .lf) 476838013 (.nd (.nd .lf 484530024 .lf) 489980858 .lf)))))) 508211797 (.nd (.nd (.nd (.nd (.nd (.nd (.nd .lf 509518610 .lf) 527079135 (.nd .lf 530932901 .lf)) 543092774 (.nd (.nd .lf 549163840 .lf) 549697546 .lf)) 550470653 (.nd (.nd (.nd .lf 568031178 .lf) 568081360 .lf) 585396832 (.nd (.nd .lf 586312299 .lf) 590649589 .lf))) 603530881 (.nd (.nd (.nd (.nd .lf 608260296 .lf) 609033403 .lf) 617740107 (.nd (.nd .lf 620312090 .lf) 623114232 .lf)) 627264342 (.nd (.nd (.nd .lf 636491824 .lf) 654924113 .lf) 655861211 (.nd (.nd .lf 659841812 .lf) 660262691 .lf)))) 661264133 (.nd (.nd (.nd (.nd (.nd .lf 664366343 .lf) 673640283 (.nd .lf 692641513 .lf)) 696813254 (.nd (.nd .lf 698412592 .lf) 699803050 .lf)) 700793855 (.nd (.nd (.nd .lf 701214734 .lf) 705318386 .lf) 705977197 (.nd (.nd .lf 714423961 .lf) 714592326 .lf))) 729369093 (.nd (.nd (.nd (.nd .lf 729789972 .lf) 738363193 .lf) 739364635 (.nd (.nd .lf 740755093 .lf) 742466845 .lf)) 747787353 (.nd (.nd (.nd .lf 748320271 .lf) 755027315 .lf) 755376004 (.nd (.nd .lf 763967087 .lf) 767187188 .lf))))) 770321136 (.nd (.nd (.nd (.nd (.nd (.nd .lf 770742015 .lf) 775504478 (.nd .lf 779315236 .lf)) 788739396 (.nd (.nd .lf 791841606 .lf) 792175774 .lf)) 796993545 (.nd (.nd (.nd .lf 801115546 .lf) 807890474 .lf) 813173279 (.nd (.nd .lf 819982884 .lf) 825887855 .lf))) 832793649 (.nd (.nd (.nd (.nd .lf 833127817 .lf) 834710945 .lf) 837945588 (.nd (.nd .lf 842067589 .lf) 844755193 .lf)) 848842517 (.nd (.nd (.nd .lf 850890679 .lf) 860934927 .lf) 866839898 (.nd (.nd .lf 869942108 .lf) 870220976 .lf)))) 875662988 (.nd (.nd (.nd (.nd (.nd .lf 879216048 .lf) 885707236 .lf) 888039138 (.nd (.nd .lf 888809446 .lf) 903988357 .lf)) 912811447 (.nd (.nd (.nd .lf 919929905 .lf) 920168091 .lf) 928991181 (.nd (.nd .lf 938518375 .lf) 948042610 .lf))) 948321478 (.nd (.nd (.nd (.nd .lf 953763490 .lf) 960881948 .lf) 966139640 (.nd (.nd .lf 973041821 .lf) 979470418 .lf)) 990911949 (.nd (.nd (.nd .lf 997696239 .lf) 998030407 .lf) 999003052 (.nd (.nd .lf 1003470914 .lf) 1007091683 .lf))))))) 1011162925 (.nd (.nd (.nd (.nd (.nd (.nd (.nd (.nd .lf 1038982450 .lf) 1052114968 (.nd .lf 1057565802 .lf)) 1069725675 (.nd (.nd .lf 1075796741 .lf) 1076330447 .lf)) 1077103554 (.nd (.nd (.nd .lf 1094664079 .lf) 1094714261 .lf) 1112029733 (.nd (.nd .lf 1112945200 .lf) 1117282490 .lf))) 1130163782 (.nd (.nd (.nd (.nd .lf 1134893197 .lf) 1135666304 .lf) 1144373008 (.nd (.nd .lf 1149747133 .lf) 1153897243 .lf)) 1163124725 (.nd (.nd (.nd .lf 1175845240 .lf) 1181557014 .lf) 1185325051 (.nd (.nd .lf 1186474713 .lf) 1187897034 .lf)))) 1190999244 (.nd (.nd (.nd (.nd (.nd .lf 1219274414 .lf) 1223446155 (.nd .lf 1225045493 .lf)) 1226435951 (.nd (.nd .lf 1227426756 .lf) 1227847635 .lf)) 1231951287 (.nd (.nd (.nd .lf 1232610098 .lf) 1241056862 .lf) 1241225227 (.nd (.nd .lf 1256001994 .lf) 1264996094 .lf))) 1265997536 (.nd (.nd (.nd (.nd .lf 1267387994 .lf) 1269099746 .lf) 1274953172 (.nd (.nd .lf 1281660216 .lf) 1282008905 .lf)) 1290599988 (.nd (.nd (.nd .lf 1293820089 .lf) 1296954037 .lf) 1297374916 (.nd (.nd .lf 1302137379 .lf) 1305948137 .lf))))) 1310051789 (.nd (.nd (.nd (.nd (.nd (.nd .lf 1315372297 .lf) 1318474507 (.nd .lf 1334523375 .lf)) 1334772132 (.nd (.nd .lf 1339806180 .lf) 1352520756 .lf)) 1359426550 (.nd (.nd (.nd .lf 1359760718 .lf) 1364578489 .lf) 1368700490 (.nd (.nd .lf 1371388094 .lf) 1375475418 .lf))) 1377523580 (.nd (.nd (.nd (.nd .lf 1387567828 .lf) 1393472799 .lf) 1396575009 (.nd (.nd .lf 1396853877 .lf) 1402295889 .lf)) 1405848949 (.nd (.nd (.nd .lf 1412340137 .lf) 1415442347 .lf) 1430621258 (.nd (.nd .lf 1437527052 .lf) 1437805920 .lf)))) 1439444348 (.nd (.nd (.nd (.nd (.nd .lf 1446800992 .lf) 1455624082 .lf) 1456394390 (.nd (.nd .lf 1471573301 .lf) 1474675511 .lf)) 1474954379 (.nd (.nd (.nd .lf 1480396391 .lf) 1487514849 .lf) 1492772541 (.nd (.nd .lf 1499674722 .lf) 1506103319 .lf))) 1517544850 (.nd (.nd (.nd (.nd .lf 1524329140 .lf) 1524663308 .lf) 1525635953 (.nd (.nd .lf 1530103815 .lf) 1533724584 .lf)) 1537795826 (.nd (.nd (.nd .lf 1558496893 .lf) 1565281183 .lf) 1565615351 (.nd (.nd .lf 1566587996 .lf) 1578747869 .lf)))))) 1584198703 (.nd (.nd (.nd (.nd (.nd (.nd (.nd .lf 1596358576 .lf) 1602429642 (.nd .lf 1603736455 .lf)) 1621296980 (.nd (.nd .lf 1637310619 .lf) 1638662634 .lf)) 1643915391 (.nd (.nd (.nd .lf 1656796683 .lf) 1661526098 .lf) 1662299205 (.nd (.nd .lf 1671005909 .lf) 1676380034 .lf))) 1679614677 (.nd (.nd (.nd (.nd .lf 1680530144 .lf) 1689757626 .lf) 1697748726 (.nd (.nd .lf 1702478141 .lf) 1708189915 .lf)) 1711957952 (.nd (.nd (.nd .lf 1714529935 .lf) 1717332077 .lf) 1730709669 (.nd (.nd .lf 1745907315 .lf) 1749141958 .lf)))) 1750079056 (.nd (.nd (.nd (.nd (.nd .lf 1754059657 .lf) 1754480536 (.nd .lf 1758584188 .lf)) 1759242999 (.nd (.nd .lf 1767858128 .lf) 1786859358 .lf)) 1792630437 (.nd (.nd (.nd .lf 1794020895 .lf) 1795732647 .lf) 1800195042 (.nd (.nd .lf 1801586073 .lf) 1808293117 .lf))) 1808641806 (.nd (.nd (.nd (.nd .lf 1817232889 .lf) 1820452990 .lf) 1823586938 (.nd (.nd .lf 1824007817 .lf) 1828770280 .lf)) 1832581038 (.nd (.nd (.nd .lf 1836684690 .lf) 1842005198 .lf) 1842538116 (.nd (.nd .lf 1849245160 .lf) 1858184932 .lf))))) 1861405033 (.nd (.nd (.nd (.nd (.nd (.nd .lf 1866439081 .lf) 1869722323 (.nd .lf 1886059451 .lf)) 1886393619 (.nd (.nd .lf 1891211390 .lf) 1895333391 .lf)) 1902108319 (.nd (.nd (.nd .lf 1904156481 .lf) 1907391124 .lf) 1914200729 (.nd (.nd .lf 1920105700 .lf) 1923207910 .lf))) 1923486778 (.nd (.nd (.nd (.nd .lf 1928928790 .lf) 1938973038 .lf) 1942075248 (.nd (.nd .lf 1945108524 .lf) 1957254159 .lf)) 1964159953 (.nd (.nd (.nd .lf 1964438821 .lf) 1973433893 .lf) 1982256983 (.nd (.nd .lf 1983027291 .lf) 1998206202 .lf)))) 2001308412 (.nd (.nd (.nd (.nd (.nd .lf 2001587280 .lf) 2007029292 .lf) 2014147750 (.nd (.nd .lf 2026307623 .lf) 2032736220 .lf)) 2042260455 (.nd (.nd (.nd .lf 2042539323 .lf) 2044177751 .lf) 2050962041 (.nd (.nd .lf 2052268854 .lf) 2056736716 .lf))) 2060357485 (.nd (.nd (.nd (.nd .lf 2067259666 .lf) 2085129794 .lf) 2091914084 (.nd (.nd .lf 2092248252 .lf) 2093220897 .lf)) 2097688759 (.nd (.nd (.nd .lf 2105380770 .lf) 2110831604 .lf) 2122991477 (.nd (.nd .lf 2129062543 .lf) 2130369356 .lf))))))))
def VS : List (List Nat) := [[], [6], [5], [5, 6], [4], [4, 6], [4, 5], [4, 5, 6], [3], [3, 6], [3, 5], [3, 5, 6], [3, 4], [3, 4, 6], [3, 4, 5], [3, 4, 5, 6], [2], [2, 6], [2, 5], [2, 5, 6], [2, 4], [2, 4, 6], [2, 4, 5], [2, 4, 5, 6], [2, 3], [2, 3, 6], [2, 3, 5], [2, 3, 5, 6], [2, 3, 4], [2, 3, 4, 6], [2, 3, 4, 5], [2, 3, 4, 5, 6], [1], [1, 6], [1, 5], [1, 5, 6], [1, 4], [1, 4, 6], [1, 4, 5], [1, 4, 5, 6], [1, 3], [1, 3, 6], [1, 3, 5], [1, 3, 5, 6], [1, 3, 4], [1, 3, 4, 6], [1, 3, 4, 5], [1, 3, 4, 5, 6], [1, 2], [1, 2, 6], [1, 2, 5], [1, 2, 5, 6], [1, 2, 4], [1, 2, 4, 6], [1, 2, 4, 5], [1, 2, 4, 5, 6], [1, 2, 3], [1, 2, 3, 6], [1, 2, 3, 5], [1, 2, 3, 5, 6], [1, 2, 3, 4], [1, 2, 3, 4, 6], [1, 2, 3, 4, 5], [1, 2, 3, 4, 5, 6]]
def TS : List (List Nat) := [[], [200], [40], [40, 200], [3], [3, 200], [3, 40], [3, 40, 200], [2], [2, 200], [2, 40], [2, 40, 200], [2, 3], [2, 3, 200], [2, 3, 40], [2, 3, 40, 200], [1], [1, 200], [1, 40], [1, 40, 200], [1, 3], [1, 3, 200], [1, 3, 40], [1, 3, 40, 200], [1, 2], [1, 2, 200], [1, 2, 40], [1, 2, 40, 200], [1, 2, 3], [1, 2, 3, 200], [1, 2, 3, 40], [1, 2, 3, 40, 200], [255]]
def GS : List (Nat × List Nat) := [(154, [92, 92]), (202, []), (250, [226]), (42, [37, 37]), (90, []), (138, [171]), (186, [238, 238]), (234, []), (26, [116]), (74, [183, 183]), (122, []), (170, [61]), (218, [128, 128]), (10, []), (58, [6]), (106, [73, 73]), (154, []), (202, [207]), (250, [18, 18]), (42, []), (90, [152]), (138, [219, 219]), (186, []), (234, [97]), (26, [164, 164]), (74, []), (122, [42]), (170, [109, 109]), (218, []), (10, [243]), (58, [54, 54]), (106, []), (154, [188]), (202, [255, 255]), (250, []), (42, [133]), (90, [200, 200]), (138, []), (186, [78]), (234, [145, 145]), (26, []), (74, [23]), (122, [90, 90]), (170, []), (218, [224]), (10, [35, 35]), (58, []), (106, [169]), (154, [236, 236]), (202, []), (250, [114]), (42, [181, 181]), (90, []), (138, [59]), (186, [126, 126]), (234, []), (26, [4]), (74, [71, 71]), (122, []), (170, [205]), (218, [16, 16])]
noncomputable def xbN (t : List Nat) : List Nat := List.rec (motive := fun _ => List Nat) [] (fun x _ ih => x :: 0 :: ih) t
noncomputable def stx (t : List Nat) (s : Nat) : Nat := List.rec (motive := fun _ => Nat → Nat) (fun s => s) (fun x _ ih s => ih (stp (stp s x) 0)) t s
theorem Q8 (x : Nat) (t : List Nat) (s : Nat) : stx (x :: t) s = stx t (stp (stp s x) 0) := by
 unfold stx
 with_reducible rfl
theorem KR (x : Nat) (t : List Nat) : xbN (x :: t) = x :: 0 :: xbN t := rfl
theorem TA (t : List Nat) : ∀ s, stx t s = stl (xbN t) s := by
 induction t with
 | nil => intro s; rfl
 | cons x t ih => intro s; rw [Q8, KR, G', G', ih]
noncomputable def Kr {α : Type} (t : List α) : Nat := List.rec (motive := fun _ => Nat) 0 (fun _ _ ih => Nat.succ ih) t
theorem Js {α : Type} (t : List α) : Kr t = t.length := by
 induction t with
 | nil => rfl
 | cons x t ih => exact congrArg Nat.succ ih
noncomputable def Rz (T : Tr) (g t : List Nat) (s : Nat) : Bool := List.rec (motive := fun _ => Nat → Bool) (fun s => Lc (stl g s) T) (fun x t' ih s => Bool.rec (ih (stp (stp s x) 0)) true (Lc (stx (x :: t') (stl g s)) T)) t s
theorem WU (T : Tr) (g : List Nat) (t : List Nat) : ∀ s, Rz T g t s = false → ∀ a b, a ++ b = t → Lc (stx b (stl g (stx a s))) T = false := by
 induction t with
 | nil =>
  intro s h a b hab
  obtain ⟨rfl, rfl⟩ := List.append_eq_nil_iff.mp hab
  exact h
 | cons x t ih =>
  intro s h a b hab
  have e : Rz T g (x :: t) s = Bool.rec (motive := fun _ => Bool) (Rz T g t (stp (stp s x) 0)) true (Lc (stx (x :: t) (stl g s)) T) := by
   unfold Rz
   with_reducible rfl
  rw [e] at h
  cases hm : Lc (stx (x :: t) (stl g s)) T with
  | true => rw [hm] at h; cases h
  | false =>
   rw [hm] at h
   cases a with
   | nil =>
    rw [List.nil_append] at hab
    subst hab
    exact hm
   | cons y a =>
    rw [List.cons_append, List.cons.injEq] at hab
    obtain ⟨rfl, hab⟩ := hab
    rw [Q8]
    exact ih _ h a b hab
noncomputable def OQ (v : List Nat) (n : Nat) : Nat := stl v (stp (stp (stp 11 1) n) (Kr v))
noncomputable def Ue (T : Tr) (v t : List Nat) : Bool := Bool.rec (Q0 (fun g => Bool.rec true false (Rz T (g.1 :: Kr g.2 :: g.2) t (stp (OQ v (Kr v + 4 + Kr g.2 + 2 * Kr t)) (Kr t + 1)))) GS) false (Lc (stx t (stp (OQ v (Kr v + 2 + 2 * Kr t)) (Kr t))) T)
noncomputable def Gk (v : List Nat) : Bool := Q0 (Ue TT v) TS
set_option maxRecDepth 100000 in
theorem Zd : Gk [] = true := by kernel_rfl
theorem ZT : Gk [6] = true := by kernel_rfl
theorem Zb : Gk [5] = true := by kernel_rfl
theorem Zk : Gk [5, 6] = true := by kernel_rfl
theorem ZR : Gk [4] = true := by kernel_rfl
theorem ZP : Gk [4, 6] = true := by kernel_rfl
theorem ZV : Gk [4, 5] = true := by kernel_rfl
theorem Zf : Gk [4, 5, 6] = true := by kernel_rfl
theorem Za : Gk [3] = true := by kernel_rfl
theorem Zh : Gk [3, 6] = true := by kernel_rfl
theorem YE : Gk [3, 5] = true := by kernel_rfl
theorem ZH : Gk [3, 5, 6] = true := by kernel_rfl
theorem ZJ : Gk [3, 4] = true := by kernel_rfl
theorem Ya : Gk [3, 4, 6] = true := by kernel_rfl
theorem Yh : Gk [3, 4, 5] = true := by kernel_rfl
theorem Y9 : Gk [3, 4, 5, 6] = true := by kernel_rfl
theorem YT : Gk [2] = true := by kernel_rfl
theorem ZA : Gk [2, 6] = true := by kernel_rfl
theorem Y1 : Gk [2, 5] = true := by kernel_rfl
theorem Y' : Gk [2, 5, 6] = true := by kernel_rfl
theorem ZL : Gk [2, 4] = true := by kernel_rfl
theorem YD : Gk [2, 4, 6] = true := by kernel_rfl
theorem Yr : Gk [2, 4, 5] = true := by kernel_rfl
theorem Yj : Gk [2, 4, 5, 6] = true := by kernel_rfl
theorem YX : Gk [2, 3] = true := by kernel_rfl
theorem YQ : Gk [2, 3, 6] = true := by kernel_rfl
theorem ZI : Gk [2, 3, 5] = true := by kernel_rfl
theorem Yn : Gk [2, 3, 5, 6] = true := by kernel_rfl
theorem YP : Gk [2, 3, 4] = true := by kernel_rfl
theorem Yu : Gk [2, 3, 4, 6] = true := by kernel_rfl
theorem YF : Gk [2, 3, 4, 5] = true := by kernel_rfl
theorem ZF : Gk [2, 3, 4, 5, 6] = true := by kernel_rfl
theorem YH : Gk [1] = true := by kernel_rfl
theorem Yf : Gk [1, 6] = true := by kernel_rfl
theorem ZM : Gk [1, 5] = true := by kernel_rfl
theorem Yk : Gk [1, 5, 6] = true := by kernel_rfl
theorem Yw : Gk [1, 4] = true := by kernel_rfl
theorem YJ : Gk [1, 4, 6] = true := by kernel_rfl
theorem Yy : Gk [1, 4, 5] = true := by kernel_rfl
theorem Yt : Gk [1, 4, 5, 6] = true := by kernel_rfl
theorem ZB : Gk [1, 3] = true := by kernel_rfl
theorem Y5 : Gk [1, 3, 6] = true := by kernel_rfl
theorem Yz : Gk [1, 3, 5] = true := by kernel_rfl
theorem Ys : Gk [1, 3, 5, 6] = true := by kernel_rfl
theorem Yi : Gk [1, 3, 4] = true := by kernel_rfl
theorem ZK : Gk [1, 3, 4, 6] = true := by kernel_rfl
theorem YS : Gk [1, 3, 4, 5] = true := by kernel_rfl
theorem YZ : Gk [1, 3, 4, 5, 6] = true := by kernel_rfl
theorem Yp : Gk [1, 2] = true := by kernel_rfl
theorem YK : Gk [1, 2, 6] = true := by kernel_rfl
theorem ZG : Gk [1, 2, 5] = true := by kernel_rfl
theorem YN : Gk [1, 2, 5, 6] = true := by kernel_rfl
theorem ZC : Gk [1, 2, 4] = true := by kernel_rfl
theorem Yl : Gk [1, 2, 4, 6] = true := by kernel_rfl
theorem Y8 : Gk [1, 2, 4, 5] = true := by kernel_rfl
theorem YM : Gk [1, 2, 4, 5, 6] = true := by kernel_rfl
theorem YW : Gk [1, 2, 3] = true := by kernel_rfl
theorem Yx : Gk [1, 2, 3, 6] = true := by kernel_rfl
theorem Yo : Gk [1, 2, 3, 5] = true := by kernel_rfl
theorem Yd : Gk [1, 2, 3, 5, 6] = true := by kernel_rfl
theorem Yg : Gk [1, 2, 3, 4] = true := by kernel_rfl
theorem YL : Gk [1, 2, 3, 4, 6] = true := by kernel_rfl
theorem Yc : Gk [1, 2, 3, 4, 5] = true := by kernel_rfl
theorem Y0 : Gk [1, 2, 3, 4, 5, 6] = true := by kernel_rfl
theorem XJ : ∀ v ∈ VS, Gk v = true := by
 intro v hv
 simp only [VS, List.mem_cons, List.not_mem_nil, or_false] at hv
 rcases hv with rfl | rfl | rfl | rfl | rfl | rfl | rfl | rfl | rfl | rfl | rfl | rfl | rfl | rfl | rfl | rfl | rfl | rfl | rfl | rfl | rfl | rfl | rfl | rfl | rfl | rfl | rfl | rfl | rfl | rfl | rfl | rfl | rfl | rfl | rfl | rfl | rfl | rfl | rfl | rfl | rfl | rfl | rfl | rfl | rfl | rfl | rfl | rfl | rfl | rfl | rfl | rfl | rfl | rfl | rfl | rfl | rfl | rfl | rfl | rfl | rfl | rfl | rfl | rfl
 · exact Zd
 · exact ZT
 · exact Zb
 · exact Zk
 · exact ZR
 · exact ZP
 · exact ZV
 · exact Zf
 · exact Za
 · exact Zh
 · exact YE
 · exact ZH
 · exact ZJ
 · exact Ya
 · exact Yh
 · exact Y9
 · exact YT
 · exact ZA
 · exact Y1
 · exact Y'
 · exact ZL
 · exact YD
 · exact Yr
 · exact Yj
 · exact YX
 · exact YQ
 · exact ZI
 · exact Yn
 · exact YP
 · exact Yu
 · exact YF
 · exact ZF
 · exact YH
 · exact Yf
 · exact ZM
 · exact Yk
 · exact Yw
 · exact YJ
 · exact Yy
 · exact Yt
 · exact ZB
 · exact Y5
 · exact Yz
 · exact Ys
 · exact Yi
 · exact ZK
 · exact YS
 · exact YZ
 · exact Yp
 · exact YK
 · exact ZG
 · exact YN
 · exact ZC
 · exact Yl
 · exact Y8
 · exact YM
 · exact YW
 · exact Yx
 · exact Yo
 · exact Yd
 · exact Yg
 · exact YL
 · exact Yc
 · exact Y0
theorem VV {T : Tr} {v t : List Nat} (h : Ue T v t = true) : Lc (stx t (stp (OQ v (v.length + 2 + 2 * t.length)) t.length)) T = false := by
 unfold Ue at h
 rw [Js, Js] at h
 cases hm : Lc (stx t (stp (OQ v (v.length + 2 + 2 * t.length)) t.length)) T with
 | false => rfl
 | true => rw [hm] at h; cases h
theorem X' {T : Tr} {v t : List Nat} (h : Ue T v t = true) {g : Nat × List Nat} (hg : g ∈ GS) {a b : List Nat} (hab : a ++ b = t) : Lc (stx b (stl (g.1 :: g.2.length :: g.2) (stx a (stp (OQ v (v.length + 4 + g.2.length + 2 * t.length)) (t.length + 1))))) T = false := by
 have h1 := VV h
 unfold Ue at h
 rw [Js, Js, h1] at h
 have h2 := J6 h g hg
 have h3 : Rz T (g.1 :: Kr g.2 :: g.2) t (stp (OQ v (v.length + 4 + Kr g.2 + 2 * t.length)) (t.length + 1)) = false := by
  cases hi : Rz T (g.1 :: Kr g.2 :: g.2) t (stp (OQ v (v.length + 4 + Kr g.2 + 2 * t.length)) (t.length + 1)) with
  | false => rfl
  | true => rw [hi] at h2; cases h2
 rw [Js] at h3
 exact WU T _ t _ h3 a b hab
def ivs (r v : Nat) : Nat := Nat.mod (Nat.mul (Nat.sub (Nat.sub (Nat.add r 4294967294) v) 13) 1523789695) 2147483647
def ivv (r s : Nat) : Nat := Nat.mod (Nat.sub (Nat.add r 2147483647) (Nat.mod (Nat.add (Nat.mul s 1000003) 13) 2147483647)) 2147483647
theorem X5 (r v : Nat) : ivs r v = ((r + 4294967294 - v - 13) * 1523789695) % 2147483647 := rfl
theorem Xw (r s : Nat) : ivv r s = (r + 2147483647 - (s * 1000003 + 13) % 2147483647) % 2147483647 := rfl
attribute [local irreducible] ivs ivv
theorem Vx (s v : Nat) (hs : s < 2147483647) (hv : v < 2147483647) : ivs (stp s v) v = s := by
 rw [X5, QE]
 obtain ⟨q, hq⟩ : ∃ q, q = (s * 1000003 + v + 13) / 2147483647 := ⟨_, rfl⟩
 obtain ⟨r, hr⟩ : ∃ r, r = (s * 1000003 + v + 13) % 2147483647 := ⟨_, rfl⟩
 have h1 : s * 1000003 + v + 13 = 2147483647 * q + r := by rw [hq, hr, Nat.div_add_mod]
 rw [← hr]
 have hr2 : r < 2147483647 := by rw [hr]; exact Nat.mod_lt _ (by decide)
 have h2 : ((r + 4294967294 - v - 13 : Nat) : Int) = (s : Int) * 1000003 + 2147483647 * (2 - (q : Int)) := by omega
 have h3 : (((r + 4294967294 - v - 13) * 1523789695 : Nat) : Int) = (s : Int) + 2147483647 * ((s : Int) * 709572 + (2 - (q : Int)) * 1523789695) := by
  rw [Int.natCast_mul, h2]
  generalize (2 - (q : Int)) = z
  show ((s : Int) * 1000003 + 2147483647 * z) * 1523789695 = _
  omega
 have h4 : (((r + 4294967294 - v - 13) * 1523789695 % 2147483647 : Nat) : Int) = (s : Int) := by
  rw [Int.natCast_emod, h3, show ((2147483647 : Nat) : Int) = 2147483647 from rfl, Int.add_mul_emod_self_left]
  exact Int.emod_eq_of_lt (by omega) (by omega)
 exact Int.ofNat.inj h4
theorem VM (s v : Nat) (hv : v < 2147483647) : ivv (stp s v) s = v := by
 rw [Xw, QE]
 omega
noncomputable def ivl (l : List Nat) (r : Nat) : Nat := List.rec (motive := fun _ => Nat → Nat) (fun r => r) (fun v _ ih r => ivs (ih r) v) l r
theorem Xk (l : List Nat) (hl : ∀ v ∈ l, v < 2147483647) : ∀ s, s < 2147483647 → ivl l (stl l s) = s := by
 induction l with
 | nil => intro s _; rfl
 | cons x l ih =>
  intro s hs
  rw [G', show ivl (x :: l) (stl l (stp s x)) = ivs (ivl l (stl l (stp s x))) x from by unfold ivl; with_reducible rfl, ih (fun v hv => hl v (List.mem_cons_of_mem _ hv)) _ (Pv s x)]
  exact Vx s x hs (hl x List.mem_cons_self)
noncomputable def tgt (k : Nat) (b : List Nat) : Nat := ivv (ivl b (ivv (ivs 0 k) (stl [k, 1] 11))) 11
theorem Xc (k h : Nat) (b : List Nat) (hk : k < 2147483647) (hh : h < 2147483647) (hb : ∀ v ∈ b, v < 2147483647) (h0 : stl [k, 1, stl (h :: b) 11, k] 11 = 0) : h = tgt k b := by
 have e1 : stp (stp (stl [k, 1] 11) (stl (h :: b) 11)) k = 0 := by
  rw [G', G', G', G', PI] at h0
  rw [G', G', PI]
  exact h0
 have e2 := Vx (stp (stl [k, 1] 11) (stl (h :: b) 11)) k (Pv _ _) hk
 rw [e1] at e2
 have e3 := VM (stl [k, 1] 11) (stl (h :: b) 11) (R1 _ _ (by decide))
 rw [← e2] at e3
 have e4 : ivl b (stl (h :: b) 11) = stp 11 h := by
  rw [G']
  exact Xk b hb (stp 11 h) (Pv _ _)
 unfold tgt
 rw [e3, e4, VM 11 h hh]
set_option maxRecDepth 100000 in
theorem W9 : Q0 (fun k => Q0 (fun a => Q0 (fun t => Lc (tgt k ((2 + 2 * Kr t) :: a :: Kr t :: xbN t)) TT) TS) [1, 2, 3, 4, 5, 6]) [5, 77] = true := by kernel_rfl
theorem YA {t : List Nat} (ht : ∀ x ∈ t, x < 2147483647) : ∀ x ∈ xbN t, x < 2147483647 := by
 induction t with
 | nil => intro x hx; cases hx
 | cons y t ih =>
  intro x hx
  rw [KR] at hx
  rcases List.mem_cons.1 hx with rfl | hx
  · exact ht x List.mem_cons_self
  · rcases List.mem_cons.1 hx with rfl | hx
    · decide
    · exact ih (fun x hx => ht x (List.mem_cons_of_mem _ hx)) x hx
theorem V' : ∀ t ∈ TS, ∀ x ∈ t, x < 256 := by decide
theorem Wc {k a h : Nat} {t : List Nat} (hk : k ∈ [5, 77]) (ha : a ∈ [1, 2, 3, 4, 5, 6]) (ht : t ∈ TS) (hh : h < 2147483647) (hm : Lc h TT = false) : stl [k, 1, stl (h :: (2 + 2 * t.length) :: a :: t.length :: xbN t) 11, k] 11 ≠ 0 := by
 intro h0
 have hl : t.length < 100 := by
  have : ∀ t ∈ TS, t.length < 100 := by decide
  exact this t ht
 have hb : ∀ v ∈ (2 + 2 * t.length) :: a :: t.length :: xbN t, v < 2147483647 := by
  intro v hv
  rcases List.mem_cons.1 hv with rfl | hv
  · omega
  · rcases List.mem_cons.1 hv with rfl | hv
    · have : ∀ a ∈ [1, 2, 3, 4, 5, 6], a < 2147483647 := by decide
      exact this v ha
    · rcases List.mem_cons.1 hv with rfl | hv
      · omega
      · exact YA (fun x hx => by have := V' t ht x hx; omega) v hv
 have hk2 : k < 2147483647 := by
  have : ∀ k ∈ [5, 77], k < 2147483647 := by decide
  exact this k hk
 have h1 := Xc k h _ hk2 hh hb h0
 have h2 := J6 (J6 (J6 W9 k hk) a ha) t ht
 rw [Js] at h2
 rw [← h1, hm] at h2
 cases h2
set_option maxRecDepth 100000 in
theorem YI : (List.range 61).map (fun s : Nat => ((gtag (s : Int)).toNat, (gext (s : Int)).f1.map Int.toNat)) = GS := by kernel_rfl
end Go.Proofs.YtibmehnippjakaaGreat.Plain

/- What comes through a path of boxes in form: the versions that it lets through, the extensions that it leaves alone. No program. Condition: a hello in form, at most 4 boxes. -/
set_option linter.unusedSimpArgs false
set_option linter.unusedVariables false
namespace Go.Proofs.YtibmehnippjakaaGreat.Plain
open Go.RowKit Go.Proofs.YtibmehnippjakaaGreatW.PrintWords Go.Proofs.YtibmehnippjakaaGreat.Base Go.Proofs.YtibmehnippjakaaGreat.Print
theorem QU (f : S81 → Bool) (l : List S81) : ∀ pre pre' : List S81, (∀ t, IQ pre' t = true → IQ pre t = true) → Iy pre l = true → Iy pre' (l.filter f) = true := by
 induction l with
 | nil => intro pre pre' _ _; rfl
 | cons x l ih =>
  intro pre pre' hp h
  simp only [Iy, Bool.and_eq_true, Bool.not_eq_true'] at h
  have hs : ∀ (q : List S81) (t : Int), IQ (q ++ [x]) t = (IQ q t || decide (x.f0 = t)) := fun q t => by simp [IQ]
  cases hf : f x with
  | true =>
   rw [List.filter_cons_of_pos hf]
   simp only [Iy, Bool.and_eq_true, Bool.not_eq_true']
   refine ⟨h.1, ?_, h.2.2.1, h.2.2.2.1, ih _ _ (fun t ht => ?_) h.2.2.2.2⟩
   · cases hh : IQ pre' x.f0 with
     | false => rfl
     | true => rw [hp _ hh] at h; exact h.2.1
   · rw [hs, Bool.or_eq_true] at ht ⊢
     exact ht.imp (hp t) id
  | false =>
   rw [List.filter_cons_of_neg (by simp [hf])]
   exact ih _ _ (fun t ht => by rw [hs, hp t ht]; rfl) h.2.2.2.2
theorem Iq (f : S81 → Bool) {l : List S81} (h : isX l = true) : isX (l.filter f) = true := by
 simp only [isX, Bool.and_eq_true, decide_eq_true_eq] at h ⊢
 exact ⟨QU f l [] [] (fun _ h => h) h.1, Nat.le_trans (List.length_filter_le _ _) h.2⟩
def clr (b : S75) (x : Int) : Bool := isB b && !(!decide (b.f0 = 0) && decide (x > b.f0))
def tch (b : S75) (t : Int) : Bool := drops b t || mem b.f2 t
theorem X4 {b : S75} {x y : Int} (h : clr b x = true) (hy : y ≤ x) : clr b y = true := by
 simp only [clr, Bool.and_eq_true, Bool.not_eq_true', Bool.and_eq_false_iff, Bool.not_eq_false', decide_eq_true_eq, decide_eq_false_iff_not] at h ⊢
 exact ⟨h.1, h.2.imp id (fun h => by omega)⟩
theorem VY (b : S75) (v : List Int) (m : List S81) (h : isH v m = true) : pass b v m = if clr b (v.getLastD 0) && !(m.any (fun x => drops b x.f0)) then (v, kept b m, true) else ([], [], false) := by
 unfold pass clr lose
 rw [h]
 cases isB b <;> cases (!decide (b.f0 = 0) && decide (v.getLastD 0 > b.f0)) <;> cases m.any (fun x => drops b x.f0) <;> rfl
theorem VW (p : List S75) : goP p false [] [] = ([], [], false) := by
 cases p <;> simp [goP]
theorem T' (p : List S75) (v : List Int) (m : List S81) (h : isH v m = true) : p.all (fun b => clr b (v.getLastD 0)) = true → (∀ x ∈ m, p.any (fun b => tch b x.f0) = false) → goP p true v m = (v, m, true) := by
 induction p with
 | nil => intro _ _; rfl
 | cons b p ih =>
  intro h1 h2
  simp only [List.all_cons, Bool.and_eq_true] at h1
  simp only [List.any_cons, Bool.or_eq_false_iff, tch] at h2
  have h3 : m.any (fun x => drops b x.f0) = false := by
   rw [List.any_eq_false]
   intro x hx
   simp [(h2 x hx).1.1]
  have h4 : kept b m = m := by
   unfold kept
   rw [List.filter_eq_self]
   intro x hx
   simp [(h2 x hx).1.2]
  rw [goP, if_pos rfl, VY b v m h, h1.1, h3]
  simp only [Bool.not_false, Bool.and_self, if_true, h4]
  exact ih h1.2 (fun x hx => by simpa [tch] using (h2 x hx).2)
theorem Q5 (p : List S75) : ∀ (v : List Int) (m : List S81), isH v m = true → F9 m → (p.all (fun b => clr b (v.getLastD 0)) && m.all (fun x => !(p.any (fun b => tch b x.f0)))) = false → (goP p true v m).2.2 = false ∨ (goP p true v m).2.1.length < m.length := by
 induction p with
 | nil =>
  intro v m _ _ h
  simp at h
 | cons b p ih =>
  intro v m h ho hc
  rw [goP, if_pos rfl, VY b v m h]
  cases h1 : (clr b (v.getLastD 0) && !(m.any (fun x => drops b x.f0))) with
  | false =>
   left
   simp [VW]
  | true =>
   rw [if_pos rfl]
   simp only [Bool.and_eq_true, Bool.not_eq_true'] at h1
   have hk : isH v (kept b m) = true := by
    simp only [isH, Bool.and_eq_true] at h ⊢
    exact ⟨h.1, Iq _ h.2⟩
   have hlen := (VK p true v (kept b m) (Tu ho)).2.1
   rcases Nat.lt_or_ge (kept b m).length m.length with hl | hl
   · right
     exact Nat.lt_of_le_of_lt hlen hl
   · have he : kept b m = m := by
      unfold kept at hl ⊢
      exact List.filter_sublist.eq_of_length_le hl
     rw [he]
     refine ih v m h ho ?_
     have h5 : ∀ x ∈ m, tch b x.f0 = false := fun x hx => by
      have a1 := List.any_eq_false.mp h1.2 x hx
      have a2 : mem b.f2 x.f0 = false := by
       have := List.filter_eq_self.mp he x hx
       simpa using this
      simp only [tch, a2, Bool.or_false]
      simpa using a1
     rw [← hc, List.all_cons, h1.1, Bool.true_and]
     congr 1
     rw [Bool.eq_iff_iff, List.all_eq_true, List.all_eq_true]
     refine forall_congr' fun x => forall_congr' fun hx => ?_
     rw [List.any_cons, h5 x hx, Bool.false_or]
theorem U4 (l : List S81) : NY l l = true := by
 induction l with
 | nil => rfl
 | cons x l ih => simp [NY, eqX, ih]
theorem LO {v : List Int} {l : List S81} {p : List S75} (h : isH v l = true) (ho : F9 l) (hp : p.length ≤ 4) : whole v l p = (p.all (fun b => clr b (v.getLastD 0)) && l.all (fun x => !(p.any (fun b => tch b x.f0)))) := by
 have e : Hy p v l = goP p true v l := by
  unfold Hy
  rw [h, if_pos (by simp [hp])]
 unfold whole
 rw [e]
 cases hc : (p.all (fun b => clr b (v.getLastD 0)) && l.all (fun x => !(p.any (fun b => tch b x.f0)))) with
 | true =>
  simp only [Bool.and_eq_true] at hc
  rw [T' p v l h hc.1 (fun x hx => by simpa using List.all_eq_true.mp hc.2 x hx)]
  simp [U4]
 | false =>
  rcases Q5 p v l h ho hc with h1 | h1
  · rw [h1, Bool.false_and]
  · rw [Qy (by omega)]
    simp
def okV (p : List S75) (v : List Int) : List Int := v.filter (fun x => p.all (fun b => clr b x))
def okE (p : List S75) (l : List S81) : List S81 := l.filter (fun x => !(p.any (fun b => tch b x.f0)))
theorem UG {l : List Int} : ∀ {q : Int}, vers q l = true → ∀ x ∈ l, x ≤ l.getLastD 0 := by
 induction l with
 | nil => intro q _ x hx; cases hx
 | cons y l ih =>
  intro q h x hx
  simp only [vers, Bool.and_eq_true, decide_eq_true_eq] at h
  rw [It]
  cases l with
  | nil =>
   cases hx with
   | head => exact Int.le_refl _
   | tail _ hx => cases hx
  | cons z l =>
   rw [It]
   have hz := NH h.2.2
   have h3 := ih h.2.2
   rw [It] at h3
   cases hx with
   | head =>
    have h1 := hz z List.mem_cons_self
    have h2 := h3 z List.mem_cons_self
    omega
   | tail _ hx => exact h3 x hx
theorem Pg {x : Int} (h : Hv [x] = true) : isH [x] [] = true := by
 rw [isH, h]
 decide
theorem Og {p : List S75} {x : Int} (h : Hv [x] = true) (hp : p.length ≤ 4) : (Hy p [x] []).2.2 = p.all (fun b => clr b x) := by
 have e := LO (p := p) (Pg h) (fun x hx => by cases hx) hp
 unfold whole at e
 simp only [List.all_nil, Bool.and_true] at e
 rw [show ([x] : List Int).getLastD 0 = x from rfl] at e
 cases hc : p.all (fun b => clr b x) with
 | true =>
  rw [hc] at e
  simp only [Bool.and_eq_true] at e
  exact e.1
 | false =>
  have e2 : Hy p [x] [] = goP p true [x] [] := by
   unfold Hy
   rw [Pg h, if_pos (by simp [hp])]
  rw [e2]
  rcases Q5 p [x] [] (Pg h) (fun x hx => by cases hx) (by rw [show ([x] : List Int).getLastD 0 = x from rfl, hc]; rfl) with h1 | h1
  · exact h1
  · exact absurd h1 (Nat.not_lt_zero _)
theorem T8 {l : List Int} {x : Int} : mem l x = true ↔ x ∈ l := by simp [mem]
theorem XZ {l : List Int} {x : Int} : mem l x = false ↔ x ∉ l := by simp [mem]
theorem Tc {p : List S75} {v : List Int} (h : Hv v = true) (hp : p.length ≤ 4) : wo v (JO p v) = okV p v := by
 unfold wo okV
 refine List.filter_congr fun x hx => ?_
 have e := Og (Ql h hx) hp
 unfold JO
 rw [if_pos h]
 cases hc : p.all (fun b => clr b x) with
 | true =>
  rw [hc] at e
  rw [Bool.not_eq_true', XZ]
  intro hm
  have := (List.mem_filter.mp hm).2
  rw [e] at this
  cases this
 | false =>
  rw [hc] at e
  rw [Bool.not_eq_false', T8]
  exact List.mem_filter.mpr ⟨hx, by rw [e]; rfl⟩
theorem Tj {p : List S75} {v : List Int} (h : Hv v = true) (hn : okV p v ≠ []) : Hv (okV p v) = true := by
 simp only [Hv, Bool.and_eq_true, decide_eq_true_eq] at h ⊢
 exact ⟨M3 _ h.1, List.length_pos_iff.mpr hn⟩
theorem Qf {p : List S75} {v : List Int} (hn : okV p v ≠ []) : p.all (fun b => clr b ((okV p v).getLastD 0)) = true := (List.mem_filter.mp (Ol (okV p v) hn 0)).2
theorem UD {p : List S75} {l : List S81} : (okE p l).all (fun x => !(p.any (fun b => tch b x.f0))) = true := List.all_eq_true.mpr fun x hx => (List.mem_filter.mp hx).2
theorem X0 {p : List S75} {l : List S81} (h : F9 l) : F9 (okE p l) := fun x hx => h x (List.mem_filter.mp hx).1
theorem NB {p : List S75} {v : List Int} {l : List S81} (h : isH v l = true) (ho : F9 l) (hp : p.length ≤ 4) (hn : okV p v ≠ []) : isH (okV p v) (okE p l) = true ∧ whole (okV p v) (okE p l) p = true ∧ Hy p (okV p v) (okE p l) = (okV p v, okE p l, true) := by
 simp only [isH, Bool.and_eq_true] at h
 have h1 : isH (okV p v) (okE p l) = true := by
  simp only [isH, Bool.and_eq_true]
  exact ⟨Tj h.1 hn, Iq _ h.2⟩
 refine ⟨h1, ?_, ?_⟩
 · rw [LO h1 (X0 ho) hp, Qf hn, UD]
   rfl
 · unfold Hy
   rw [h1, if_pos (by simp [hp])]
   exact T' p _ _ h1 (Qf hn) (fun x hx => by simpa using List.all_eq_true.mp (UD (p := p) (l := l)) x hx)
theorem XH {x : S81} {l : List S81} (h : isX l = true) (hx : x ∈ l) : isX [x] = true := by
 have h1 : ∀ (l pre : List S81), Iy pre l = true → ∀ x ∈ l, Iy [] [x] = true := by
  intro l
  induction l with
  | nil => intro pre _ x hx; cases hx
  | cons y l ih =>
   intro pre h x hx
   simp only [Iy, Bool.and_eq_true, decide_eq_true_eq] at h
   cases hx with
   | head =>
    simp only [Iy, Bool.and_eq_true, decide_eq_true_eq]
    exact ⟨h.1, rfl, h.2.2.1, h.2.2.2.1, trivial⟩
   | tail _ hx => exact ih _ h.2.2.2.2 x hx
 simp only [isX, Bool.and_eq_true, decide_eq_true_eq] at h ⊢
 exact ⟨h1 l [] h.1 x hx, by simp⟩
theorem R7 {p : List S75} {v : List Int} {l : List S81} (h : isH v l = true) (ho : F9 l) (hp : p.length ≤ 4) (hn : okV p v ≠ []) : Oi (ME p (okV p v) l) l = okE p l := by
 simp only [isH, Bool.and_eq_true] at h
 have hv := Tj h.1 hn
 obtain ⟨x0, rest, he⟩ : ∃ x0 rest, okV p v = x0 :: rest := by
  cases hq : okV p v with
  | nil => exact absurd hq hn
  | cons x0 rest => exact ⟨x0, rest, rfl⟩
 have hx0 : x0 ∈ okV p v := by rw [he]; exact List.mem_cons_self
 have h0 : Hv [x0] = true := Ql hv hx0
 have hc : p.all (fun b => clr b x0) = true := (List.mem_filter.mp hx0).2
 have ht : (okV p v).take 1 = [x0] := by rw [he]; rfl
 have hop : OG p (okV p v) = true := by
  unfold OG
  rw [hv, ht, Og h0 hp, hc]
  rfl
 have hw : ∀ x ∈ l, whole [x0] [x] p = !(p.any (fun b => tch b x.f0)) := fun x hx => by
  have h1 : isH [x0] [x] = true := by rw [isH, h0, XH h.2 hx]; rfl
  rw [LO h1 (fun y hy => by rw [List.mem_singleton.1 hy]; exact ho x hx) hp, show ([x0] : List Int).getLastD 0 = x0 from rfl, hc]
  simp
 unfold Oi okE ME
 rw [hop, h.2, ht]
 simp only [Bool.and_self, if_true]
 refine List.filter_congr fun x hx => ?_
 cases hq : p.any (fun b => tch b x.f0) with
 | true =>
  rw [Bool.not_true, Bool.not_eq_false', T8]
  exact List.mem_map.mpr ⟨x, List.mem_filter.mpr ⟨hx, by rw [hw x hx, hq]; rfl⟩, rfl⟩
 | false =>
  rw [Bool.not_false, Bool.not_eq_true', XZ]
  intro hm
  obtain ⟨y, hy, hyx⟩ := List.mem_map.mp hm
  have h1 := List.mem_filter.mp hy
  have h2 := h1.2
  rw [hw y h1.1, show y.f0 = x.f0 from hyx, hq] at h2
  cases h2
theorem WN {p : List S75} {v : List Int} {l : List S81} (h : isH v l = true) (ho : F9 l) (hp : p.length ≤ 4) : if okV p v = [] then (Jx v l p).2.2.2 = false else (Jx v l p).1 = okV p v ∧ (Jx v l p).2.1 = okE p l ∧ (Jx v l p).2.2.2 = true := by
 have h' := h
 simp only [isH, Bool.and_eq_true] at h'
 have hne : v ≠ [] := fun e => by
  rw [e] at h'
  exact absurd h'.1 (by decide)
 have ef : fall v l p = if okV p v = [] then ([], [], false) else (okV p v, okE p l, true) := by
  unfold fall part
  rw [h, Tc h'.1 hp]
  by_cases hn : okV p v = []
  · rw [if_pos hn, hn]
    rfl
  · have hl : ¬ (okV p v).length = 0 := fun e => hn (List.eq_nil_of_length_eq_zero e)
    rw [if_neg hn, R7 h ho hp hn]
    simp [hl]
 have e0 : Jx v l p = if whole v l p then (v, l, 1, true) else if (fall v l p).2.2 && whole (fall v l p).1 (fall v l p).2.1 p then ((fall v l p).1, (fall v l p).2.1, 2, true) else ([], [], 2, false) := by
  unfold Jx
  rw [if_pos h]
 cases hw : whole v l p with
 | true =>
  rw [hw, if_pos rfl] at e0
  rw [LO h ho hp] at hw
  simp only [Bool.and_eq_true] at hw
  have hv := h'.1
  simp only [Hv, Bool.and_eq_true] at hv
  have e1 : okV p v = v := by
   unfold okV
   rw [List.filter_eq_self]
   intro x hx
   exact List.all_eq_true.mpr fun b hb => X4 (List.all_eq_true.mp hw.1 b hb) (UG hv.1 x hx)
  have e2 : okE p l = l := List.filter_eq_self.mpr fun x hx => List.all_eq_true.mp hw.2 x hx
  rw [e1, e2, if_neg hne, e0]
  exact ⟨rfl, rfl, rfl⟩
 | false =>
  rw [hw, if_neg (by simp), ef] at e0
  by_cases hn : okV p v = []
  · rw [if_pos hn]
    rw [if_pos hn] at e0
    rw [e0]
    rfl
  · rw [if_neg hn]
    rw [if_neg hn, (NB h ho hp hn).2.1] at e0
    rw [e0]
    exact ⟨rfl, rfl, rfl⟩
end Go.Proofs.YtibmehnippjakaaGreat.Plain

/- What an endpoint's dial comes to. No program. Condition: an endpoint in form. -/
set_option linter.unusedSimpArgs false
set_option linter.unusedVariables false
namespace Go.Proofs.YtibmehnippjakaaGreat.Plain
open Go.RowKit Go.Proofs.YtibmehnippjakaaGreatW.PrintWords Go.Proofs.YtibmehnippjakaaGreat.Base Go.Proofs.YtibmehnippjakaaGreat.Print
theorem KY {w v : List Int} (h : best w v ≠ 0) : Hv w = true ∧ Hv v = true ∧ best w v ∈ w ∧ best w v ∈ v := by
 unfold best at h ⊢
 split at h
 · rename_i hc
   rw [if_pos hc]
   simp only [Bool.and_eq_true] at hc
   have hn : com w v ≠ [] := fun e => h (by rw [e]; rfl)
   have hm := List.mem_filter.mp (Ol (com w v) hn 0)
   exact ⟨hc.1, hc.2, hm.1, T8.mp hm.2⟩
 · exact absurd rfl h
def Pm (p : List S75) (t u : List Int) : List Int := t.filter (fun x => !(p.any (fun b => tch b x)) && (mem u x && !res x))
theorem NK (f : S81 → Bool) (l : List S81) (s : Int) (h : f (gext s) = false) : (gput l s).filter f = l.filter f := by
 unfold gput
 rw [List.filter_append, List.filter_cons_of_neg (by simp [h]), ← List.filter_append, List.take_append_drop]
theorem Rb (p : List S75) (t u : List Int) (s : Int) : (answer u (okE p (hel t s))).map (·.f0) = Pm p t u := by
 unfold answer okE hel
 rw [List.filter_filter, List.filter_filter, NK _ _ _ (by
  show ((!res (gtag s) && _) && _) = false
  rw [(Kp s).2.2]
  rfl)]
 unfold G9 Pm
 rw [List.filter_map, List.map_map]
 have e : ((fun x : S81 => x.f0) ∘ fun x : Int => (⟨x, []⟩ : S81)) = id := rfl
 rw [e, List.map_id]
 refine List.filter_congr fun x _ => ?_
 simp only [Function.comp]
 cases p.any (fun b => tch b x) <;> cases mem u x <;> cases res x <;> rfl
theorem QH {t : List Int} {s : Int} (h5 : t.length ≤ 5) (h1 : asc none t = true) (h2 : t.all (inR 0 255) = true) (h3 : t.any res = false) : isX (hel t s) = true := by
 have hlen := (LU t s h5).1
 have hg := Kp s
 have hgl := Qn s
 have hp := Ju s 3 256 (by decide)
 have hx := Qm h5 h1 h2
 simp only [isX, Bool.and_eq_true, decide_eq_true_eq] at hx ⊢
 refine ⟨?_, hlen⟩
 have key : ∀ (b a pre : List S81), Iy pre (a ++ b) = true → (∀ x ∈ pre ++ (a ++ b), x.f0 ≠ gtag s) → Iy pre (a ++ gext s :: b) = true := by
  intro b a
  induction a with
  | nil =>
   intro pre h hn
   have hb : ∀ (b pre pre' : List S81), Iy pre b = true → (∀ t, IQ pre' t = true → IQ pre t = true ∨ t = gtag s) → (∀ x ∈ b, x.f0 ≠ gtag s) → Iy pre' b = true := by
    intro b
    induction b with
    | nil => intro _ _ _ _ _; rfl
    | cons y b ih =>
     intro pre pre' h hh hn
     simp only [Iy, Bool.and_eq_true, Bool.not_eq_true'] at h ⊢
     refine ⟨h.1, ?_, h.2.2.1, h.2.2.2.1, ih _ _ h.2.2.2.2 (fun t ht => ?_) (fun x hx => hn x (List.mem_cons_of_mem _ hx))⟩
     · cases hq : IQ pre' y.f0 with
       | false => rfl
       | true =>
        rcases hh _ hq with h4 | h4
        · rw [h4] at h; exact h.2.1
        · exact absurd h4 (hn y List.mem_cons_self)
     · have hs : ∀ (q : List S81) (t : Int), IQ (q ++ [y]) t = (IQ q t || decide (y.f0 = t)) := fun q t => by simp [IQ]
       rw [hs, Bool.or_eq_true] at ht ⊢
       rcases ht with ht | ht
       · rcases hh t ht with h4 | h4
         · exact .inl (.inl h4)
         · exact .inr h4
       · exact .inl (.inr ht)
   simp only [List.nil_append] at h hn ⊢
   have h0 : IQ pre (gtag s) = false := by
    cases hq : IQ pre (gtag s) with
    | false => rfl
    | true =>
     obtain ⟨x, hx, hx2⟩ := List.any_eq_true.mp hq
     exact absurd (of_decide_eq_true hx2) (hn x (List.mem_append_left _ hx))
   show (inR 0 255 (gtag s) && (!IQ pre (gtag s) && (decide ((gext s).f1.length ≤ 4) && ((gext s).f1.all (inR 0 255) && Iy (pre ++ [gext s]) b)))) = true
   rw [He.mpr ⟨hg.1, hg.2.1⟩, h0, decide_eq_true (by omega), hb b pre (pre ++ [gext s]) h (fun t ht => by
    have : IQ (pre ++ [gext s]) t = (IQ pre t || decide (gtag s = t)) := by simp [IQ, gext]
    rw [this, Bool.or_eq_true, decide_eq_true_eq] at ht
    exact ht.imp id Eq.symm) (fun x hx => hn x (List.mem_append_right _ hx))]
   have : (gext s).f1.all (inR 0 255) = true := by
    rw [List.all_eq_true]
    intro x hx
    rw [List.eq_of_mem_replicate hx]
    exact He.mpr ⟨by omega, by omega⟩
   rw [this]
   rfl
  | cons y a ih =>
   intro pre h hn
   simp only [List.cons_append, Iy, Bool.and_eq_true] at h ⊢
   exact ⟨h.1, h.2.1, h.2.2.1, h.2.2.2.1, ih (pre ++ [y]) h.2.2.2.2 (by simpa using hn)⟩
 unfold hel gput
 refine key _ _ [] (by rw [List.take_append_drop]; exact hx.1) (fun x hx => ?_)
 rw [List.nil_append, List.take_append_drop] at hx
 obtain ⟨z, hz, rfl⟩ := List.mem_map.1 hx
 intro e
 have := List.any_eq_false.mp h3 z hz
 rw [show z = gtag s from e, hg.2.2] at this
 exact this rfl
theorem V5 (l : List S81) : ∀ pre, Iy pre l = true → (xb l).all (inR 0 255) = true := by
 induction l with
 | nil => intro _ _; rfl
 | cons x l ih =>
  intro pre h
  simp only [Iy, Bool.and_eq_true, decide_eq_true_eq] at h
  simp only [xb, List.all_cons, List.all_append, Bool.and_eq_true]
  exact ⟨h.1, He.mpr ⟨by omega, by omega⟩, h.2.2.2.1, ih _ h.2.2.2.2⟩
theorem Nl {l : List S81} (h : isX l = true) : (Nr l).all (inR 0 255) = true := by
 have h' := h
 simp only [isX, Bool.and_eq_true, decide_eq_true_eq] at h'
 simp only [Nr, List.all_cons, Bool.and_eq_true]
 exact ⟨He.mpr ⟨by omega, by omega⟩, V5 l [] h'.1⟩
theorem Ye (v : List Int) (l : List S81) (a : Int) (m : List S81) : QY [Hk v l, J8 a m] = true := by
 have h1 : (Hk v l).all (inR 0 255) = true := by
  unfold Hk
  split
  · rename_i h
    simp only [isH, Bool.and_eq_true] at h
    have hl := KT h.1
    simp only [List.all_cons, List.all_append, Bool.and_eq_true]
    refine ⟨He.mpr ⟨by omega, by omega⟩, List.all_eq_true.mpr fun x hx => ?_, Nl h.2⟩
    have := J1 h.1 x hx
    exact He.mpr ⟨by omega, by omega⟩
  · rfl
 have h2 : (J8 a m).all (inR 0 255) = true := by
  unfold J8
  split
  · rename_i h
    simp only [isA, Bool.and_eq_true, He] at h
    simp only [List.all_cons, Bool.and_eq_true]
    exact ⟨He.mpr ⟨by omega, by omega⟩, Nl h.2⟩
  · rfl
 simp [QY, h1, h2]
def Wt (p : List S75) (v t w u : List Int) (k s : Int) : Int := Ik 11 [k, 1, trH 1 [Hk (okV p v) (okE p (hel t s)), J8 (best w (okV p v)) (answer u (okE p (hel t s)))], k]
theorem VN {v t : List Int} {p : List S75} {c : Int} (w u : List Int) (k s : Int) (h : isE v t p c = true) : Kz v (hel t s) p w u k =
 if best w (okV p v) ≠ 0 ∧ inR 1 2147483646 k = true ∧ Wt p v t w u k s ≠ 0 then (true, best w (okV p v), Pm p t u) else Jm := by
 obtain ⟨h1, h2, h3, h4, h5, h6, h7⟩ := Ih h
 have hX : isX (hel t s) = true := QH h2 h3 h4 h5
 have hH : isH v (hel t s) = true := by rw [isH, h1, hX]; rfl
 have hl := LU t s h2
 have hf := WN (p := p) hH hl.2 h6
 unfold Kz
 by_cases hn : okV p v = []
 · rw [if_pos hn] at hf
   rw [hf, if_neg (by simp), if_neg]
   rw [hn]
   rintro ⟨hb, _⟩
   have := (KY hb).2.1
   exact absurd this (by decide)
 · rw [if_neg hn] at hf
   obtain ⟨hH2, _, hp2⟩ := NB (p := p) hH hl.2 h6 hn
   rw [hf.1, hf.2.1, hf.2.2, if_pos rfl]
   unfold TZ
   rw [hp2]
   simp only [if_true]
   unfold deal choose
   rw [hH2]
   by_cases hb : best w (okV p v) = 0
   · rw [if_neg (show ¬ (best w (okV p v) ≠ 0 ∧ _) from fun h => h.1 hb)]
     simp [hb]
   · obtain ⟨b1, b2, b3, b4⟩ := KY hb
     have b5 := J1 b2 _ b4
     simp only [hb, decide_false, Bool.not_false, Bool.and_self, if_true]
     have hXa : isX (answer u (okE p (hel t s))) = true := by
      simp only [isH, Bool.and_eq_true] at hH2
      exact Iq _ (Iq _ hH2.2)
     have hA : isA (best w (okV p v)) (answer u (okE p (hel t s))) = true := by
      rw [isA, hXa, He.mpr ⟨by omega, by omega⟩]
      rfl
     have hfit : fits (okV p v) (okE p (hel t s)) (best w (okV p v)) (answer u (okE p (hel t s))) = true := by
      have q1 : wo ((answer u (okE p (hel t s))).map (·.f0)) ((okE p (hel t s)).map (·.f0)) = [] := by
       unfold wo
       rw [List.filter_eq_nil_iff]
       intro x hx
       obtain ⟨y, hy, rfl⟩ := List.mem_map.mp hx
       have hy2 := (List.mem_filter.mp (List.mem_filter.mp hy).1).1
       simpa [mem] using ⟨y, hy2, rfl⟩
      have q2 : ((answer u (okE p (hel t s))).map (·.f0)).any res = false := by
       rw [List.any_eq_false]
       intro x hx
       obtain ⟨y, hy, rfl⟩ := List.mem_map.mp hx
       have := (List.mem_filter.mp hy).2
       simpa using this
      unfold fits
      rw [hH2, hA, T8.mpr b4, q1, q2]
      rfl
     rw [hfit, Rb]
     unfold fin
     rw [Ye]
     simp only [Bool.true_and, Bool.and_true]
     unfold Wt
     cases hk : inR 1 2147483646 k with
     | false => simp
     | true =>
      simp only [if_true, decide_true, Bool.and_true]
      by_cases hz : Ik 11 [k, 1, trH 1 [Hk (okV p v) (okE p (hel t s)), J8 (best w (okV p v)) (answer u (okE p (hel t s)))], k] = 0
      · rw [if_neg (by simp [hz]), if_neg (fun h => h.2.2 hz)]
      · rw [if_pos (by simp [hz]), if_pos ⟨hb, trivial, hz⟩]
end Go.Proofs.YtibmehnippjakaaGreat.Plain

/- The numbers that the laws draw from bytes: each draw comes to an answer, in its range, and leaves a place in the bytes. Condition: at most 2 to the 40 bytes; the place lies in the bytes. -/
set_option linter.unusedSimpArgs false
set_option linter.unusedVariables false
namespace Go.Proofs.YtibmehnippjakaaGreat.Plain
open Go.RowKit Go.Proofs.YtibmehnippjakaaGreatW.PrintWords Go.Proofs.YtibmehnippjakaaGreat.Base Go.Proofs.YtibmehnippjakaaGreat.Print
def St (l : List Int) (p : Int) : Prop := 0 ≤ p ∧ p ≤ l.length ∧ l.length ≤ 1000000000000
theorem PZ (x : Int) : 0 ≤ Go.bits .and .i64 x 255 ∧ Go.bits .and .i64 x 255 ≤ 255 := by
 have hle : (BitVec.ofInt 64 x &&& BitVec.ofInt 64 255).toNat ≤ 255 := by
  rw [BitVec.toNat_and]
  exact Nat.and_le_right
 have h : Go.bits .and .i64 x 255 = wrap64 ((BitVec.ofInt 64 x &&& BitVec.ofInt 64 255).toNat : Int) := by
  unfold wrap64
  exact Go.IntKind.wrap_i64 _
 rw [h, w64 (by omega) (by omega)]
 omega
theorem MC (l : List Int) (p r : Int) (h : St l p) : ∃ b p' r', G2.f l p r = some (b, p', r') ∧ St l p' ∧ 0 ≤ b ∧ b ≤ 255 := by
 obtain ⟨h0, h1, h2⟩ := h
 unfold G2.f
 by_cases hp : p < (l.length : Int)
 · rw [if_pos hp, if_pos h0]
   refine ⟨_, _, _, rfl, ⟨?_, ?_, h2⟩, (PZ _).1, (PZ _).2⟩
   · rw [w64 (by omega) (by omega)]
     omega
   · rw [w64 (by omega) (by omega)]
     omega
 · rw [if_neg hp]
   exact ⟨_, _, _, rfl, ⟨h0, h1, h2⟩, (PZ _).1, (PZ _).2⟩
theorem Tn (x n : Int) (hx : 0 ≤ x) (hn : 0 < n) : 0 ≤ Int.tmod x n ∧ Int.tmod x n < n := ⟨Int.tmod_nonneg _ hx, Int.tmod_lt_of_pos _ hn⟩
theorem HG (l : List Int) (p r n : Int) (h : St l p) (hn : 0 < n) : ∃ b p' r', Cc.f l p r n = some (b, p', r') ∧ St l p' ∧ 0 ≤ b ∧ b < n := by
 unfold Cc.f
 rw [if_neg (by omega)]
 obtain ⟨b, p', r', e, h', b0, b1⟩ := MC l p r h
 rw [e]
 by_cases h256 : n ≤ 256
 · rw [if_pos h256]
   simp only [Option.bind_some]
   rw [if_neg (by omega)]
   exact ⟨_, _, _, rfl, h', Tn _ _ b0 hn⟩
 · rw [if_neg h256]
   simp only [Option.bind_some]
   obtain ⟨c, p2, r2, e2, h2, c0, c1⟩ := MC l p' r' h'
   rw [e2]
   simp only [Option.bind_some]
   obtain ⟨d, p3, r3, e3, h3, d0, d1⟩ := MC l p2 r2 h2
   rw [e3]
   simp only [Option.bind_some]
   rw [if_neg (by omega)]
   refine ⟨_, _, _, rfl, h3, Tn _ _ ?_ hn⟩
   rw [w64 (x := b * 65536) (by omega) (by omega), w64 (x := c * 256) (by omega) (by omega), w64 (x := b * 65536 + c * 256) (by omega) (by omega), w64 (by omega) (by omega)]
   omega
theorem I3 (l : List Int) (p r : Int) (xs : List Int) (h : St l p) (hx : xs ≠ []) : ∃ b p' r', D'.f l p r xs = some (b, p', r') ∧ St l p' ∧ b ∈ xs := by
 unfold D'.f
 have hl : 0 < xs.length := List.length_pos_iff.mpr hx
 obtain ⟨b, p', r', e, h', b0, b1⟩ := HG l p r (xs.length : Int) h (by omega)
 rw [e]
 simp only [Option.bind_some]
 rw [if_pos b0, if_pos b1]
 refine ⟨_, _, _, rfl, h', ?_⟩
 have hb : b.toNat < xs.length := by omega
 have e1 : rd xs b = xs[b.toNat] := by simp [rd, hb]
 rw [e1]
 exact List.getElem_mem hb
theorem VL (suf : List Int) : ∀ (pre : List Int) (s : Int), (pre ++ suf).length ≤ 1000000000000 → ∃ r, CE.l0v (pre ++ suf) s (pre.length : Int) = some (pre ++ suf, 0, r) := by
 induction suf with
 | nil =>
  intro pre s _
  rw [CE.l0v_eq, if_neg (E3 pre)]
  exact ⟨_, rfl⟩
 | cons x suf ih =>
  intro pre s hl
  have hn : pre.length < (pre ++ x :: suf).length := by simp
  rw [CE.l0v_eq, if_pos (EI pre suf x)]
  by_cases h4 : (pre.length : Int) < 4000
  · rw [if_pos h4, if_pos (by omega), F' pre x hn hl]
    rw [Eg pre suf x] at hl ⊢
    exact ih (pre ++ [x]) _ hl
  · rw [if_neg h4]
    exact ⟨_, rfl⟩
theorem Vi (l : List Int) (hl : l.length ≤ 1000000000000) : ∃ r, CE.fv l = some (l, 0, r) ∧ St l 0 := by
 rw [CE.fv_eq]
 obtain ⟨r, h⟩ := VL l [] (wrap64 (193017 + (l.length : Int))) (by simpa using hl)
 exact ⟨r, h, by omega, by omega, hl⟩
end Go.Proofs.YtibmehnippjakaaGreat.Plain

/- The lists of versions that the laws draw from bytes: each draw comes to an answer, and the lists are short. Condition: at most 2 to the 40 bytes; the place lies in the bytes. -/
set_option linter.unusedSimpArgs false
set_option linter.unusedVariables false
namespace Go.Proofs.YtibmehnippjakaaGreat.Plain
open Go.RowKit Go.Proofs.YtibmehnippjakaaGreatW.PrintWords Go.Proofs.YtibmehnippjakaaGreat.Base Go.Proofs.YtibmehnippjakaaGreat.Print
theorem YC (x : Int) (l : List Int) (hl : l.length ≤ 1000) (m : Nat) : ∀ i : Nat, i + m = l.length → ∃ r, BZ.l0v l x (i : Int) = some r ∧ l.length ≤ r.length ∧ r.length ≤ l.length + 1 := by
 induction m with
 | zero =>
  intro i hi
  rw [BZ.l0v_eq, if_neg (by omega)]
  simp only [Option.bind_some, List.nil_append, List.length_nil, Nat.zero_add, List.length_append, List.length_take, List.length_drop, List.length_cons, Int.toNat_natCast]
  rw [if_pos (by omega), if_pos (by omega), if_pos (by omega), if_pos (by omega), if_pos (by omega)]
  refine ⟨_, rfl, ?_, ?_⟩ <;> simp only [List.length_append, List.length_take, List.length_drop, List.length_cons, List.length_nil] <;> omega
 | succ m ih =>
  intro i hi
  rw [BZ.l0v_eq, if_pos (by omega), if_pos (by omega)]
  by_cases h1 : rd l (i : Int) < x
  · rw [if_pos h1, w64 (by omega) (by omega)]
    exact ih (i + 1) (by omega)
  · rw [if_neg h1]
    by_cases h2 : rd l (i : Int) = x
    · rw [if_pos h2]
      simp only [Option.bind_some, List.nil_append, List.length_nil, Nat.zero_add]
      rw [if_pos (by omega)]
      exact ⟨_, rfl, by omega, by omega⟩
    · rw [if_neg h2]
      simp only [Option.bind_some, List.nil_append, List.length_nil, Nat.zero_add, List.length_append, List.length_take, List.length_drop, List.length_cons, Int.toNat_natCast]
      rw [if_pos (by omega), if_pos (by omega), if_pos (by omega), if_pos (by omega)]
      refine ⟨_, rfl, ?_, ?_⟩ <;> simp only [List.length_append, List.length_take, List.length_drop, List.length_cons, List.length_nil] <;> omega
theorem Xt (x : Int) (l : List Int) (hl : l.length ≤ 1000) : ∃ r, BZ.fv l x = some r ∧ l.length ≤ r.length ∧ r.length ≤ l.length + 1 := by
 rw [BZ.fv_eq]
 exact YC x l hl l.length 0 (by omega)
end Go.Proofs.YtibmehnippjakaaGreat.Plain

/- The lists of tags that the laws draw from bytes: each draw comes to an answer, and the lists are short. Condition: at most 10 to the 12 bytes; the place lies in the bytes. -/
set_option linter.unusedSimpArgs false
set_option linter.unusedVariables false
namespace Go.Proofs.YtibmehnippjakaaGreat.Plain
open Go.RowKit Go.Proofs.YtibmehnippjakaaGreatW.PrintWords Go.Proofs.YtibmehnippjakaaGreat.Base Go.Proofs.YtibmehnippjakaaGreat.Print
theorem SL (m : Nat) : ∀ (xs l : List Int) (p r : Int), St l p → xs.length + m ≤ 900 → ∃ ys p' r', Bc.l0v xs (m : Int) l p r = some (ys, p', r') ∧ St l p' ∧ ys.length ≤ xs.length + m := by
 induction m with
 | zero =>
  intro xs l p r h hx
  rw [Bc.l0v_eq, if_neg (by omega)]
  exact ⟨_, _, _, rfl, h, by omega⟩
 | succ m ih =>
  intro xs l p r h hx
  rw [Bc.l0v_eq, if_pos (by omega)]
  obtain ⟨b, p', r', e, h', _⟩ := I3 l p r [1, 2, 3, 10, 40, 200] h (by simp)
  rw [e]
  simp only [Option.bind_some]
  obtain ⟨zs, ez, z1, z2⟩ := Xt b xs (by omega)
  rw [ez]
  simp only [Option.bind_some]
  rw [w64 (by omega) (by omega), show ((m + 1 : Nat) : Int) - 1 = (m : Int) by omega]
  obtain ⟨ys, p2, r2, e2, h2, y2⟩ := ih zs l p' r' h' (by omega)
  exact ⟨ys, p2, r2, e2, h2, by omega⟩
theorem NU (l : List Int) (p r : Int) (h : St l p) : ∃ ys p' r', Bc.fv l p r = some (ys, p', r') ∧ St l p' ∧ ys.length ≤ 5 := by
 rw [Bc.fv_eq]
 obtain ⟨b, p1, r1, e1, h1, b0, b1⟩ := HG l p r 5 h (by decide)
 rw [e1]
 simp only [Option.bind_some]
 obtain ⟨n, rfl⟩ : ∃ n : Nat, b = (n : Int) := ⟨b.toNat, by omega⟩
 obtain ⟨ys, p3, r3, e3, h3, y2⟩ := SL n [] l p1 r1 h1 (by simp; omega)
 exact ⟨ys, p3, r3, e3, h3, by simp only [List.length_nil] at y2; omega⟩
end Go.Proofs.YtibmehnippjakaaGreat.Plain

/- The boxes and paths that the laws draw from bytes: each draw comes to an answer, and its rows are short. Condition: at most 2 to the 40 bytes; the place lies in the bytes. -/
set_option linter.unusedSimpArgs false
set_option linter.unusedVariables false
namespace Go.Proofs.YtibmehnippjakaaGreat.Plain
open Go.RowKit Go.Proofs.YtibmehnippjakaaGreatW.PrintWords Go.Proofs.YtibmehnippjakaaGreat.Base Go.Proofs.YtibmehnippjakaaGreat.Print
theorem Nc (l : List Int) (p r : Int) (h : St l p) : ∃ a d s f p' r', EA.fv l p r = some (a, d, s, f, p', r') ∧ St l p' ∧ d.length ≤ 5 ∧ s.length ≤ 5 := by
 rw [EA.fv_eq]
 obtain ⟨c, p1, r1, e1, h1, c0, c1⟩ := HG l p r 7 h (by decide)
 rw [e1]
 simp only [Option.bind_some]
 by_cases k0 : c = 0
 · rw [if_pos k0]
   obtain ⟨b, p2, r2, e2, h2, _, _⟩ := HG l p1 r1 6 h1 (by decide)
   rw [e2]
   exact ⟨_, _, _, _, _, _, rfl, h2, by simp, by simp⟩
 · rw [if_neg k0]
   obtain ⟨ys, p2, r2, e2, h2, hy⟩ := NU l p1 r1 h1
   by_cases k1 : c = 1
   · rw [if_pos k1, e2]
     exact ⟨_, _, _, _, _, _, rfl, h2, hy, by simp⟩
   · rw [if_neg k1]
     by_cases k2 : c = 2
     · rw [if_pos k2, e2]
       exact ⟨_, _, _, _, _, _, rfl, h2, by simp, hy⟩
     · rw [if_neg k2]
       by_cases k3 : c = 3
       · rw [if_pos k3]
         exact ⟨_, _, _, _, _, _, rfl, h1, by simp, by simp⟩
       · rw [if_neg k3]
         exact ⟨_, _, _, _, _, _, rfl, h1, by simp, by simp⟩
def Vg (p : List S75) : Prop := p.length ≤ 1000 ∧ ∀ x ∈ p, x.f1.length ≤ 1000 ∧ x.f2.length ≤ 1000
theorem Ww {p : List S75} (h : Vg p) : p.length ≤ 1000000000000 ∧ ∀ x ∈ p, okB x := ⟨by have := h.1; omega, fun x hx => by
 have := h.2 x hx
 exact ⟨by omega, by omega⟩⟩
theorem Ua {p : List S75} {b : S75} (h : ∀ x ∈ p, x.f1.length ≤ 1000 ∧ x.f2.length ≤ 1000) (h1 : b.f1.length ≤ 1000) (h2 : b.f2.length ≤ 1000) : ∀ x ∈ p ++ [b], x.f1.length ≤ 1000 ∧ x.f2.length ≤ 1000 := by
 intro y hy
 rcases List.mem_append.1 hy with hy | hy
 · exact h y hy
 · rw [List.mem_singleton.1 hy]
   exact ⟨h1, h2⟩
theorem RR (m : Nat) : ∀ (xs : List S75) (l : List Int) (p r : Int), St l p → xs.length + m ≤ 900 → (∀ x ∈ xs, x.f1.length ≤ 1000 ∧ x.f2.length ≤ 1000) → ∃ ys p' r', Br.l0v xs (m : Int) l p r = some (ys, p', r') ∧ St l p' ∧ (∀ x ∈ ys, x.f1.length ≤ 1000 ∧ x.f2.length ≤ 1000) ∧ ys.length ≤ xs.length + m := by
 induction m with
 | zero =>
  intro xs l p r h hx hy
  rw [Br.l0v_eq, if_neg (by omega)]
  exact ⟨_, _, _, rfl, h, hy, by omega⟩
 | succ m ih =>
  intro xs l p r h hx hy
  rw [Br.l0v_eq, if_pos (by omega)]
  obtain ⟨a, d, s, f, p1, r1, e1, h1, hd, hs⟩ := Nc l p r h
  rw [e1]
  simp only [Option.bind_some]
  rw [if_pos (by omega), w64 (by omega) (by omega), show ((m + 1 : Nat) : Int) - 1 = (m : Int) by omega]
  obtain ⟨ys, p2, r2, e2, h2, y1, y2⟩ := ih (xs ++ [⟨a, d, s, f⟩]) l p1 r1 h1 (by simp; omega) (Ua hy (by show d.length ≤ _; omega) (by show s.length ≤ _; omega))
  exact ⟨ys, p2, r2, e2, h2, y1, by simp only [List.length_append, List.length_cons, List.length_nil] at y2; omega⟩
theorem SR (l : List Int) (p r : Int) (h : St l p) : ∃ ys p' r', Br.fv l p r = some (ys, p', r') ∧ St l p' ∧ Vg ys ∧ ys.length ≤ 4 := by
 rw [Br.fv_eq]
 obtain ⟨b, p1, r1, e1, h1, b0, b1⟩ := HG l p r 4 h (by decide)
 rw [e1]
 simp only [Option.bind_some]
 obtain ⟨n, rfl⟩ : ∃ n : Nat, b = (n : Int) := ⟨b.toNat, by omega⟩
 obtain ⟨ys, p2, r2, e2, h2, y1, y2⟩ := RR n [] l p1 r1 h1 (by simp; omega) (fun x hx => by cases hx)
 simp only [List.length_nil] at y2
 exact ⟨ys, p2, r2, e2, h2, ⟨by omega, y1⟩, by omega⟩
end Go.Proofs.YtibmehnippjakaaGreat.Plain

/- What the law FnEndpoints draws from bytes: versions, tags, a path, a key, a seed. Condition: at most 10 to the 12 bytes. -/
set_option linter.unusedSimpArgs false
set_option linter.unusedVariables false
namespace Go.Proofs.YtibmehnippjakaaGreat.Plain
open Go.RowKit Go.Proofs.YtibmehnippjakaaGreatW.PrintWords Go.Proofs.YtibmehnippjakaaGreat.Base Go.Proofs.YtibmehnippjakaaGreat.Print
def Up (l : List Int) : Prop := l.Pairwise (· < ·)
theorem XN (x : Int) (suf : List Int) : ∀ (pre : List Int), (pre ++ suf).length ≤ 1000 → Up (pre ++ suf) → (∀ y ∈ pre, y < x) →
 ∃ r, BZ.l0v (pre ++ suf) x (pre.length : Int) = some r ∧ Up r ∧ (∀ y ∈ r, y = x ∨ y ∈ pre ++ suf) ∧ 1 ≤ r.length ∧ r.length ≤ (pre ++ suf).length + 1 := by
 induction suf with
 | nil =>
  intro pre hl hu hp
  rw [BZ.l0v_eq, if_neg (E3 pre)]
  simp only [Option.bind_some, List.append_nil, List.nil_append, List.length_nil, Nat.zero_add, Int.toNat_natCast, List.take_length, List.drop_length, List.length_append, List.length_cons]
  rw [List.append_nil] at hl hu
  rw [if_pos (by omega), if_pos (by omega), if_pos (by omega), if_pos (by omega), if_pos (by omega)]
  refine ⟨_, rfl, ?_, fun y hy => ?_, by simp, by simp⟩
  · unfold Up at hu ⊢
    rw [List.pairwise_append]
    exact ⟨hu, List.pairwise_singleton _ _, fun a ha b hb => by rw [List.mem_singleton.1 hb]; exact hp a ha⟩
  · rcases List.mem_append.1 hy with h | h
    · exact .inr h
    · exact .inl (List.mem_singleton.1 h)
 | cons y suf ih =>
  intro pre hl hu hp
  have hn : pre.length < (pre ++ y :: suf).length := by simp
  rw [BZ.l0v_eq, if_pos (EI pre suf y), if_pos (by omega), IP]
  by_cases h1 : y < x
  · rw [if_pos h1, F' pre y hn (by omega)]
    rw [Eg pre suf y] at hl hu ⊢
    exact ih (pre ++ [y]) hl hu (fun z hz => by
     rcases List.mem_append.1 hz with h | h
     · exact hp z h
     · rw [List.mem_singleton.1 h]; exact h1)
  · rw [if_neg h1]
    by_cases h2 : y = x
    · rw [if_pos h2]
      simp only [Option.bind_some, List.nil_append, List.length_nil, Nat.zero_add]
      rw [if_pos (by omega)]
      exact ⟨_, rfl, hu, fun z hz => .inr hz, by omega, by omega⟩
    · rw [if_neg h2]
      have e1 : (pre ++ y :: suf).take pre.length = pre := by simp
      have e2 : (pre ++ y :: suf).drop pre.length = y :: suf := by simp
      simp only [Option.bind_some, List.nil_append, List.length_nil, Nat.zero_add, Int.toNat_natCast, e1, e2]
      have hl2 := hl
      simp only [List.length_append, List.length_cons] at hl2
      rw [if_pos (by omega), if_pos (by omega), if_pos (by simp; omega), if_pos (by simp; omega)]
      refine ⟨_, rfl, ?_, fun z hz => ?_, by simp; omega, by simp; omega⟩
      · unfold Up at hu ⊢
        rw [List.pairwise_append] at hu
        obtain ⟨u1, u2, u3⟩ := hu
        rw [List.pairwise_cons] at u2
        rw [List.append_assoc, List.pairwise_append, List.singleton_append, List.pairwise_cons, List.pairwise_cons]
        refine ⟨u1, ⟨fun z hz => ?_, u2⟩, fun a ha b hb => ?_⟩
        · rcases List.mem_cons.1 hz with rfl | hz
          · omega
          · have := u2.1 z hz
            omega
        · rcases List.mem_cons.1 hb with rfl | hb
          · exact hp a ha
          · exact u3 a ha b hb
      · rcases List.mem_append.1 hz with h | h
        · rcases List.mem_append.1 h with h | h
          · exact .inr (List.mem_append_left _ h)
          · exact .inl (List.mem_singleton.1 h)
        · exact .inr (List.mem_append_right _ h)
theorem YV (x : Int) (l : List Int) (hl : l.length ≤ 1000) (hu : Up l) : ∃ r, BZ.fv l x = some r ∧ Up r ∧ (∀ y ∈ r, y = x ∨ y ∈ l) ∧ 1 ≤ r.length ∧ r.length ≤ l.length + 1 := by
 rw [BZ.fv_eq]
 exact XN x l [] hl hu (fun y hy => by cases hy)
theorem WX (m : Nat) : ∀ (xs l : List Int) (p r : Int), St l p → xs.length + m ≤ 900 → Up xs → (∀ y ∈ xs, 1 ≤ y ∧ y ≤ 6) → 1 ≤ xs.length → ∃ ys p' r', BW.l0v xs (m : Int) l p r = some (ys, p', r') ∧ St l p' ∧ Up ys ∧ (∀ y ∈ ys, 1 ≤ y ∧ y ≤ 6) ∧ 1 ≤ ys.length ∧ ys.length ≤ xs.length + m := by
 induction m with
 | zero =>
  intro xs l p r h hx hu hi h1
  rw [BW.l0v_eq, if_neg (by omega)]
  exact ⟨_, _, _, rfl, h, hu, hi, h1, by omega⟩
 | succ m ih =>
  intro xs l p r h hx hu hi h1
  rw [BW.l0v_eq, if_pos (by omega)]
  obtain ⟨b, p', r', e, h', b0, b1⟩ := HG l p r 6 h (by decide)
  rw [e]
  simp only [Option.bind_some]
  have hw : wrap64 (1 + b) = 1 + b := w64 (by omega) (by omega)
  obtain ⟨zs, ez, z1, z2, z3, z4⟩ := YV (wrap64 (1 + b)) xs (by omega) hu
  rw [ez]
  simp only [Option.bind_some]
  rw [w64 (by omega) (by omega), show ((m + 1 : Nat) : Int) - 1 = (m : Int) by omega]
  obtain ⟨ys, p2, r2, e2, h2, y1, y2, y3, y4⟩ := ih zs l p' r' h' (by omega) z1 (fun y hy => by
   rcases z2 y hy with rfl | hy
   · omega
   · exact hi y hy) z3
  exact ⟨ys, p2, r2, e2, h2, y1, y2, y3, by omega⟩
theorem Xi (l : List Int) (p r : Int) (h : St l p) : ∃ ys p' r', BW.fv l p r = some (ys, p', r') ∧ St l p' ∧ Up ys ∧ (∀ y ∈ ys, 1 ≤ y ∧ y ≤ 6) ∧ 1 ≤ ys.length ∧ ys.length ≤ 4 := by
 rw [BW.fv_eq]
 obtain ⟨b, p1, r1, e1, h1, b0, b1⟩ := HG l p r 4 h (by decide)
 rw [e1]
 simp only [Option.bind_some]
 obtain ⟨c, p2, r2, e2, h2, c0, c1⟩ := HG l p1 r1 4 h1 (by decide)
 rw [e2]
 simp only [Option.bind_some]
 obtain ⟨n, rfl⟩ : ∃ n : Nat, c = (n : Int) := ⟨c.toNat, by omega⟩
 have hw : wrap64 (1 + b) = 1 + b := w64 (by omega) (by omega)
 obtain ⟨ys, p3, r3, e3, h3, y1, y2, y3, y4⟩ := WX n [wrap64 (1 + b)] l p2 r2 h2 (by simp; omega) (List.pairwise_singleton _ _) (fun y hy => by rw [List.mem_singleton.1 hy]; omega) (by simp)
 exact ⟨ys, p3, r3, e3, h3, y1, y2, y3, by simp only [List.length_cons, List.length_nil] at y4; omega⟩
def Tl6 (v : List Int) : Prop := v.length ≤ 5 ∧ ∀ x ∈ v.drop 1, x ≤ 6
theorem Rn {v : List Int} (h : ∀ y ∈ v, 1 ≤ y ∧ y ≤ 6) (hl : v.length ≤ 5) : Tl6 v := ⟨hl, fun x hx => (h x (List.mem_of_mem_drop hx)).2⟩
theorem Wx (l : List Int) (p r : Int) (h : St l p) : ∃ ys p' r', Eo.fv l p r = some (ys, p', r') ∧ St l p' ∧ Tl6 ys := by
 rw [Eo.fv_eq]
 obtain ⟨xs, p1, r1, e1, h1, x1, x2, x3, x4⟩ := Xi l p r h
 rw [e1]
 simp only [Option.bind_some]
 obtain ⟨c, p2, r2, e2, h2, c0, c1⟩ := HG l p1 r1 9 h1 (by decide)
 rw [e2]
 simp only [Option.bind_some]
 by_cases k0 : c = 0
 · rw [if_pos k0]
   obtain ⟨b, p3, r3, e3, h3, _⟩ := I3 l p2 r2 [0, (-1), 9, 10] h2 (by simp)
   rw [e3]
   simp only [Option.bind_some]
   rw [if_pos (by omega)]
   refine ⟨_, _, _, rfl, h3, by simp; omega, fun x hx => ?_⟩
   cases xs with
   | nil => simp at hx
   | cons y xs =>
    have h5 : x ∈ xs := by simpa using hx
    exact (x2 x (List.mem_cons_of_mem _ h5)).2
 · rw [if_neg k0]
   by_cases k1 : c = 1
   · rw [if_pos k1, if_pos (by omega), if_pos (by omega)]
     refine ⟨_, _, _, rfl, h2, Rn (fun y hy => ?_) (by simp; omega)⟩
     rcases List.mem_append.1 hy with hy | hy
     · exact x2 y hy
     · rw [List.mem_singleton.1 hy]
       cases xs with
       | nil => simp at x3
       | cons z xs =>
        have : rd (z :: xs) 0 = z := by simp [rd]
        rw [this]
        exact x2 z List.mem_cons_self
   · rw [if_neg k1]
     by_cases k2 : c = 2
     · rw [if_pos k2]
       exact ⟨_, _, _, rfl, h2, by simp, fun x hx => by simp at hx⟩
     · rw [if_neg k2]
       exact ⟨_, _, _, rfl, h2, Rn x2 (by omega)⟩
theorem WW (l : List Int) (p r : Int) (h : St l p) : ∃ a d s f p' r', Eu.fv l p r = some (a, d, s, f, p', r') ∧ St l p' ∧ d.length ≤ 1000 ∧ s.length ≤ 1000 := by
 rw [Eu.fv_eq]
 obtain ⟨a, d, s, f, p1, r1, e1, h1, hd, hs⟩ := Nc l p r h
 rw [e1]
 simp only [Option.bind_some]
 obtain ⟨c, p2, r2, e2, h2, _, _⟩ := HG l p1 r1 12 h1 (by decide)
 rw [e2]
 simp only [Option.bind_some]
 by_cases k0 : c = 0
 · rw [if_pos k0]
   obtain ⟨b, p3, r3, e3, h3, _⟩ := I3 l p2 r2 [(-1), 9, 10] h2 (by simp)
   rw [e3]
   exact ⟨_, _, _, _, _, _, rfl, h3, by omega, by omega⟩
 · rw [if_neg k0]
   by_cases k1 : c = 1
   · rw [if_pos k1]
     obtain ⟨b, p3, r3, e3, h3, _⟩ := I3 l p2 r2 [(-1), 255, 256] h2 (by simp)
     rw [e3]
     exact ⟨_, _, _, _, _, _, rfl, h3, by simp, by omega⟩
   · rw [if_neg k1]
     by_cases k2 : c = 2
     · rw [if_pos k2]
       exact ⟨_, _, _, _, _, _, rfl, h2, by omega, by simp⟩
     · rw [if_neg k2]
       exact ⟨_, _, _, _, _, _, rfl, h2, by omega, by omega⟩
def Vj (t : List Int) : Prop := Up t ∧ ∀ y ∈ t, y ∈ ([1, 2, 3, 40, 200] : List Int)
theorem Wh (m : Nat) : ∀ (l : List Int) (p r : Int) (v t : List Int) (q : List S75) (c : Int), St l p → t.length + m ≤ 900 → Vj t →
 ∃ t' p' r', Bg.l0v (m : Int) l p r v t q c = some (v, t', q, c, p', r') ∧ St l p' ∧ Vj t' ∧ t'.length ≤ t.length + m := by
 induction m with
 | zero =>
  intro l p r v t q c h hx hf
  rw [Bg.l0v_eq, if_neg (by omega)]
  exact ⟨_, _, _, rfl, h, hf, by omega⟩
 | succ m ih =>
  intro l p r v t q c h hx hf
  rw [Bg.l0v_eq, if_pos (by omega)]
  obtain ⟨b, p', r', e, h', hb⟩ := I3 l p r [1, 2, 3, 40, 200] h (by simp)
  rw [e]
  simp only [Option.bind_some]
  obtain ⟨zs, ez, z1, z2, z3, z4⟩ := YV b t (by omega) hf.1
  rw [ez]
  simp only [Option.bind_some]
  rw [w64 (by omega) (by omega), show ((m + 1 : Nat) : Int) - 1 = (m : Int) by omega]
  obtain ⟨ys, p2, r2, e2, h2, y1, y2⟩ := ih l p' r' v zs q c h' (by omega) ⟨z1, fun y hy => by
   rcases z2 y hy with rfl | hy
   · exact hb
   · exact hf.2 y hy⟩
  exact ⟨ys, p2, r2, e2, h2, y1, by omega⟩
theorem ZZ (l : List Int) (p r : Int) (h : St l p) : ∃ v t q c p' r', Bg.fv l p r = some (v, t, q, c, p', r') ∧ St l p' ∧ Tl6 v ∧ Vj t ∧ t.length ≤ 6 ∧ Vg q ∧ q.length ≤ 4 := by
 rw [Bg.fv_eq]
 obtain ⟨v, p1, r1, e1, h1, v1, v2, v3, v4⟩ := Xi l p r h
 rw [e1, Option.bind_some]
 obtain ⟨q, p2, r2, e2, h2, hq, hq2⟩ := SR l p1 r1 h1
 rw [e2, Option.bind_some]
 obtain ⟨c, p3, r3, e3, h3, _, _⟩ := HG l p2 r2 6 h2 (by decide)
 rw [e3, Option.bind_some]
 obtain ⟨b, p4, r4, e4, h4, b0, b1⟩ := HG l p3 r3 4 h3 (by decide)
 rw [e4, Option.bind_some]
 obtain ⟨n, rfl⟩ : ∃ n : Nat, b = (n : Int) := ⟨b.toNat, by omega⟩
 obtain ⟨t, p5, r5, e5, h5, t1, t2⟩ := Wh n l p4 r4 v [] q c h4 (by simp; omega) ⟨List.Pairwise.nil, fun y hy => by cases hy⟩
 simp only [List.length_nil] at t2
 exact ⟨_, _, _, _, _, _, e5, h5, Rn v2 (by omega), t1, by omega, hq, hq2⟩
def Np (t : List Int) : Prop := Vj t ∨ (∃ x, t = [x] ∧ x ∈ ([(-1), 10, 255, 256] : List Int)) ∨ t = [1, 2, 3, 4, 5, 6]
theorem XR (l : List Int) (p r : Int) (h : St l p) : ∃ v t q c p' r', EC.fv l p r = some (v, t, q, c, p', r') ∧ St l p' ∧ Tl6 v ∧ Np t ∧ t.length ≤ 6 ∧ Vg q := by
 rw [EC.fv_eq]
 obtain ⟨v, t, q, c, p1, r1, e1, h1, hv, ht, ht2, hq, hq2⟩ := ZZ l p r h
 rw [e1, Option.bind_some]
 obtain ⟨b, p2, r2, e2, h2, _, _⟩ := HG l p1 r1 10 h1 (by decide)
 rw [e2, Option.bind_some]
 by_cases k0 : b = 0
 · rw [if_pos k0]
   obtain ⟨v', p3, r3, e3, h3, hv'⟩ := Wx l p2 r2 h2
   rw [e3]
   exact ⟨_, _, _, _, _, _, rfl, h3, hv', .inl ht, ht2, hq⟩
 · rw [if_neg k0]
   by_cases k1 : b = 1
   · rw [if_pos k1]
     obtain ⟨x, p3, r3, e3, h3, hx⟩ := I3 l p2 r2 [(-1), 10, 255, 256] h2 (by simp)
     rw [e3]
     exact ⟨_, _, _, _, _, _, rfl, h3, hv, .inr (.inl ⟨x, rfl, hx⟩), by simp, hq⟩
   · rw [if_neg k1]
     by_cases k2 : b = 2
     · rw [if_pos k2]
       exact ⟨_, _, _, _, _, _, rfl, h2, hv, .inr (.inr rfl), by simp, hq⟩
     · rw [if_neg k2]
       by_cases k3 : b = 3
       · rw [if_pos k3]
         obtain ⟨x, p3, r3, e3, h3, _⟩ := I3 l p2 r2 [(-1), 5, 6] h2 (by simp)
         rw [e3]
         exact ⟨_, _, _, _, _, _, rfl, h3, hv, .inl ht, ht2, hq⟩
       · rw [if_neg k3]
         by_cases k4 : b = 4
         · rw [if_pos k4]
           obtain ⟨a, d, s, f, p3, r3, e3, h3, hd, hs⟩ := WW l p2 r2 h2
           rw [e3]
           simp only [Option.bind_some]
           rw [if_pos (by simp; omega)]
           refine ⟨_, _, _, _, _, _, rfl, h3, hv, .inl ht, ht2, by simp; omega, fun x hx => ?_⟩
           rcases List.mem_append.1 hx with hx | hx
           · exact hq.2 x hx
           · rcases List.mem_cons.1 hx with rfl | hx
             · exact ⟨hd, hs⟩
             · rw [List.mem_singleton.1 hx]
               exact ⟨Nat.zero_le _, Nat.zero_le _⟩
         · rw [if_neg k4]
           exact ⟨_, _, _, _, _, _, rfl, h2, hv, .inl ht, ht2, hq⟩
theorem Re (l : List Int) (hl : l.length ≤ 1000000000000) : ∃ v t q c w u k s, DF.fv l = some (v, t, q, c, w, u, k, s) ∧ Tl6 v ∧ Np t ∧ t.length ≤ 6 ∧ Vg q ∧ (∀ y ∈ w, 1 ≤ y ∧ y ≤ 6) ∧ w.length ≤ 4 ∧ u.length ≤ 5 ∧ k ∈ ([5, 77, 0] : List Int) ∧ 0 ≤ s ∧ s < 60 := by
 obtain ⟨r0, e0, h0⟩ := Vi l hl
 obtain ⟨v, t, q, c, p1, r1, e1, h1, hv, ht, ht2, hq⟩ := XR l 0 r0 h0
 obtain ⟨s, p2, r2, e2, h2, s0, s1⟩ := HG l p1 r1 60 h1 (by decide)
 have e3 : Dy.fv l = some (v, t, q, c, s) := by
  rw [Dy.fv_eq, e0, Option.bind_some, e1, Option.bind_some, e2]
  rfl
 obtain ⟨w, p4, r4, e4, h4, w1, w2, w3, w4⟩ := Xi l 0 r0 h0
 obtain ⟨u, p5, r5, e5, h5, hu⟩ := NU l p4 r4 h4
 obtain ⟨k, p6, r6, e6, h6, hk⟩ := I3 l p5 r5 [5, 77, 0] h5 (by simp)
 rw [DF.fv_eq, e3, Option.bind_some, e0, Option.bind_some, e4, Option.bind_some, e5, Option.bind_some, e6]
 exact ⟨_, _, _, _, _, _, _, _, rfl, hv, ht, ht2, hq, w2, w4, hu, hk, s0, s1⟩
end Go.Proofs.YtibmehnippjakaaGreat.Plain

/- No proof that a drawn endpoint and a drawn server exchange is 0. No program. Condition: as the law FnEndpoints draws. -/
set_option linter.unusedSimpArgs false
set_option linter.unusedVariables false
namespace Go.Proofs.YtibmehnippjakaaGreat.Plain
open Go.RowKit Go.Proofs.YtibmehnippjakaaGreatW.PrintWords Go.Proofs.YtibmehnippjakaaGreat.Base Go.Proofs.YtibmehnippjakaaGreat.Print
def subs : List Int → List (List Int)
 | [] => [[]]
 | x :: l => subs l ++ (subs l).map (x :: ·)
theorem V2 (S : List Int) : ∀ l : List Int, Up S → Up l → (∀ x ∈ l, x ∈ S) → l ∈ subs S := by
 induction S with
 | nil =>
  intro l _ _ h
  cases l with
  | nil => simp [subs]
  | cons x l => exact absurd (h x List.mem_cons_self) (by simp)
 | cons y S ih =>
  intro l hS hl h
  unfold Up at hS hl
  rw [List.pairwise_cons] at hS
  rw [subs, List.mem_append]
  by_cases hy : y ∈ l
  · right
    cases l with
    | nil => cases hy
    | cons x l =>
     rw [List.pairwise_cons] at hl
     have hxy : x = y := by
      rcases List.mem_cons.1 hy with e | hy'
      · exact e.symm
      · have h1 := hl.1 y hy'
        rcases List.mem_cons.1 (h x List.mem_cons_self) with e | hx
        · exact e
        · have h2 := hS.1 x hx
          omega
     subst hxy
     refine List.mem_map.mpr ⟨l, ih l hS.2 hl.2 (fun z hz => ?_), rfl⟩
     rcases List.mem_cons.1 (h z (List.mem_cons_of_mem _ hz)) with e | hz'
     · have := hl.1 z hz
       omega
     · exact hz'
  · left
    refine ih l hS.2 hl (fun z hz => ?_)
    rcases List.mem_cons.1 (h z hz) with e | hz'
    · subst e
      exact absurd hz hy
    · exact hz'
theorem WL : subs [1, 2, 3, 4, 5, 6] = VS.map cs := by kernel_rfl
theorem W8 : subs [1, 2, 3, 40, 200] ++ [[255]] = TS.map cs := by kernel_rfl
theorem WI {l : List Int} : ∀ {q : Int}, vers q l = true → Up l := by
 induction l with
 | nil => intro q _; exact List.Pairwise.nil
 | cons x l ih =>
  intro q h
  simp only [vers, Bool.and_eq_true, decide_eq_true_eq] at h
  unfold Up
  rw [List.pairwise_cons]
  exact ⟨fun y hy => (NH h.2.2 y hy).2.2, ih h.2.2⟩
theorem Oh {l : List Int} (f : Int → Bool) (h : Up l) : Up (l.filter f) := List.Pairwise.filter f h
theorem Xu {p : List S75} {v w : List Int} (hv : Hv v = true) (h6 : Tl6 v) (hw : ∀ y ∈ w, 1 ≤ y ∧ y ≤ 6) (hb : best w (okV p v) ≠ 0) : ∃ vn ∈ VS, okV p v = cs vn := by
 obtain ⟨b1, b2, b3, b4⟩ := KY hb
 have hB := hw _ b3
 have hv' := hv
 simp only [Hv, Bool.and_eq_true] at hv'
 have hup : Up v := WI hv'.1
 have hall : ∀ x ∈ okV p v, 1 ≤ x ∧ x ≤ 6 := by
  intro x hx
  have hxv := (List.mem_filter.mp hx).1
  have h1 := J1 hv x hxv
  refine ⟨h1.1, ?_⟩
  have hBv := (List.mem_filter.mp b4).1
  generalize best w (okV p v) = B at hB hBv
  cases v with
  | nil => cases hxv
  | cons b rest =>
   rcases List.mem_cons.1 hxv with rfl | hxr
   · cases rest with
     | nil =>
      rw [List.mem_singleton.1 hBv] at hB
      exact hB.2
     | cons z rest =>
      unfold Up at hup
      rw [List.pairwise_cons] at hup
      have h2 := hup.1 z List.mem_cons_self
      have h3 := h6.2 z (by simp)
      omega
   · exact h6.2 x (by simpa using hxr)
 have hs : okV p v ∈ subs [1, 2, 3, 4, 5, 6] := V2 _ _ (by unfold Up; decide) (Oh _ hup) (fun x hx => by
  have := hall x hx
  have hc : x = 1 ∨ x = 2 ∨ x = 3 ∨ x = 4 ∨ x = 5 ∨ x = 6 := by omega
  simpa using hc)
 rw [WL] at hs
 obtain ⟨vn, h1, h2⟩ := List.mem_map.1 hs
 exact ⟨vn, h1, h2.symm⟩
def XW (t : List Int) : Prop := Vj t ∨ t = [255]
theorem QP {v t : List Int} {p : List S75} {c : Int} (h : isE v t p c = true) (hd : Np t) : XW t := by
 obtain ⟨_, h2, _, h4, h5, _⟩ := Ih h
 rcases hd with h | ⟨x, rfl, hx⟩ | rfl
 · exact .inl h
 · right
   simp only [List.mem_cons, List.not_mem_nil, or_false] at hx
   rcases hx with rfl | rfl | rfl | rfl
   · exact absurd h4 (by decide)
   · exact absurd h5 (by decide)
   · rfl
   · exact absurd h4 (by decide)
 · exact absurd h2 (by decide)
theorem Q6 {t : List Int} (h : XW t) (f : Int → Bool) : ∃ tn ∈ TS, t.filter f = cs tn := by
 have hs : t.filter f ∈ subs [1, 2, 3, 40, 200] ++ [[255]] := by
  rw [List.mem_append]
  rcases h with h | rfl
  · exact .inl (V2 _ _ (by unfold Up; decide) (Oh f h.1) (fun x hx => h.2 x (List.mem_filter.mp hx).1))
  · cases hf : f 255 with
    | true => exact .inr (by simp [hf])
    | false => exact .inl (by simp [hf, subs])
 rw [W8] at hs
 obtain ⟨tn, h1, h2⟩ := List.mem_map.1 hs
 exact ⟨tn, h1, h2.symm⟩
theorem VO {a b : List Int} {tn : List Nat} (h : a ++ b = cs tn) : ∃ an bn, an ++ bn = tn ∧ a = cs an ∧ b = cs bn := by
 refine ⟨tn.take a.length, tn.drop a.length, List.take_append_drop _ _, ?_, ?_⟩
 · unfold cs at h ⊢
   rw [List.map_take, ← h, List.take_left']
   rfl
 · unfold cs at h ⊢
   rw [List.map_drop, ← h, List.drop_left']
   rfl
theorem X9 (l m : List S81) : xb (l ++ m) = xb l ++ xb m := by
 induction l with
 | nil => rfl
 | cons x l ih => simp [xb, ih]
theorem M' (a : List Nat) : xb (G9 (cs a)) = cs (xbN a) := by
 induction a with
 | nil => rfl
 | cons x a ih =>
  rw [KR, IC, IC, IC, ← ih]
  rfl
theorem NQ (a b : List Nat) : cs (a ++ b) = cs a ++ cs b := List.map_append
theorem Jj (a : List Nat) : (cs a).length = a.length := List.length_map _
theorem LP (a : List Int) : (G9 a).length = a.length := List.length_map _
theorem Wz {s : Int} (h0 : 0 ≤ s) (h1 : s ≤ 60) : ∃ g ∈ GS, gtag s = (g.1 : Int) ∧ (gext s).f1 = cs g.2 := by
 obtain ⟨n, rfl⟩ : ∃ n : Nat, s = (n : Int) := ⟨s.toNat, by omega⟩
 refine ⟨((gtag (n : Int)).toNat, (gext (n : Int)).f1.map Int.toNat), ?_, ?_, ?_⟩
 · rw [← YI]
   exact List.mem_map.mpr ⟨n, List.mem_range.mpr (by omega), rfl⟩
 · have := Kp (n : Int)
   exact (Int.toNat_of_nonneg this.1).symm
 · have hp := Ju (n : Int) 3 256 (by decide)
   have e : (gext (n : Int)).f1 = List.replicate (pick (n : Int) 2 3).toNat (pick (n : Int) 3 256) := by
    unfold gext
    with_reducible rfl
   have hc : ∀ (m : Nat) (z : Int), 0 ≤ z → List.replicate m z = cs ((List.replicate m z).map Int.toNat) := fun m z hz => by
    unfold cs
    rw [List.map_replicate, List.map_replicate, Int.toNat_of_nonneg hz]
   rw [e]
   exact hc _ _ hp.1
theorem Ll (t : List Nat) : (xbN t).length = 2 * t.length := by
 induction t with
 | nil => rfl
 | cons x t ih => rw [KR]; simp only [List.length_cons, ih]; omega
theorem VE (l : List Nat) (h : ∀ v ∈ l, v < 256) (s : Nat) (a : Nat) (b : Nat) (ha : a < 2147483647) (hb : b < 2147483647) : Ik (s : Int) ((a : Int) :: (b : Int) :: cs l) = ((stl (a :: b :: l) s : Nat) : Int) := by
 rw [← IC, ← IC]
 refine O0 _ (fun v hv => ?_) s
 rcases List.mem_cons.1 hv with rfl | hv
 · exact ha
 · rcases List.mem_cons.1 hv with rfl | hv
   · exact hb
   · have := h v hv
     omega
theorem ZE : ∀ v ∈ VS, v.length < 100 ∧ ∀ x ∈ v, x < 256 := by decide
theorem Y6 : ∀ g ∈ GS, g.1 < 256 ∧ g.2.length < 100 ∧ ∀ x ∈ g.2, x < 256 := by decide
theorem WE : ∀ t ∈ TS, t.length < 100 := by decide
theorem M7 {t : List Nat} (ht : ∀ x ∈ t, x < 256) : ∀ x ∈ xbN t, x < 256 := by
 induction t with
 | nil => intro x hx; cases hx
 | cons y t ih =>
  intro x hx
  rw [KR] at hx
  rcases List.mem_cons.1 hx with rfl | hx
  · exact ht x List.mem_cons_self
  · rcases List.mem_cons.1 hx with rfl | hx
    · decide
    · exact ih (fun x hx => ht x (List.mem_cons_of_mem _ hx)) x hx
theorem WQ (v : List Nat) (n : Nat) (r : List Nat) : stl (1 :: n :: v.length :: (v ++ r)) 11 = stl r (OQ v n) := by
 rw [G', G', G', P', OQ, Js]
theorem Ul {p : List S75} {v w t : List Int} {c s : Int} (h : isE v t p c = true) (h6 : Tl6 v) (hd : Np t) (hw : ∀ y ∈ w, 1 ≤ y ∧ y ≤ 6) (hb : best w (okV p v) ≠ 0) (h0 : 0 ≤ s) (h1 : s ≤ 60) (hH : isH (okV p v) (okE p (hel t s)) = true) :
 ∃ hn : Nat, Ik 11 (1 :: ((Hk (okV p v) (okE p (hel t s))).length : Int) :: Hk (okV p v) (okE p (hel t s))) = (hn : Int) ∧ hn < 2147483647 ∧ Lc hn TT = false := by
 obtain ⟨vn, hvn, ev⟩ := Xu (Ih h).1 h6 hw hb
 obtain ⟨v1, v2⟩ := ZE vn hvn
 have hg := QP h hd
 obtain ⟨f, hf⟩ : ∃ f : Int → Bool, f = fun x => !(p.any (fun b => tch b x)) := ⟨_, rfl⟩
 obtain ⟨tn, htn, et⟩ := Q6 hg f
 have t1 := WE tn htn
 have t2 := V' tn htn
 have hc : Ue TT vn tn = true := J6 (XJ vn hvn) tn htn
 obtain ⟨i, hi⟩ : ∃ i, i = (pick s 1 (((G9 t).length : Int) + 1)).toNat := ⟨_, rfl⟩
 have hsp : (t.take i).filter f ++ (t.drop i).filter f = cs tn := by
  rw [← List.filter_append, List.take_append_drop, et]
 obtain ⟨an, bn, hab, ea, eb⟩ := VO hsp
 have hbare : ∀ l : List Int, (G9 l).filter (fun x => !(p.any (fun b => tch b x.f0))) = G9 (l.filter f) := fun l => by
  unfold G9
  rw [List.filter_map, hf]
  rfl
 have hokE : okE p (hel t s) = G9 (cs an) ++ ((if f (gtag s) then [gext s] else []) ++ G9 (cs bn)) := by
  unfold okE hel gput
  rw [← hi, show (G9 t).take i = G9 (t.take i) from (List.map_take).symm, show (G9 t).drop i = G9 (t.drop i) from (List.map_drop).symm]
  rw [List.filter_append, hbare, ea]
  congr 1
  have e1 : (!(p.any (fun b => tch b (gext s).f0))) = f (gtag s) := by rw [hf]; rfl
  cases hq : f (gtag s) with
  | true =>
   rw [List.filter_cons_of_pos (by rw [e1]; exact hq), hbare, eb]
   rfl
  | false =>
   rw [List.filter_cons_of_neg (by rw [e1, hq]; simp), hbare, eb]
   rfl
 have hlt : ∀ x ∈ an ++ bn, x < 256 := by rw [hab]; exact t2
 have han : ∀ x ∈ an, x < 256 := fun x hx => hlt x (List.mem_append_left _ hx)
 have hbn : ∀ x ∈ bn, x < 256 := fun x hx => hlt x (List.mem_append_right _ hx)
 have hl : an.length + bn.length = tn.length := by rw [← hab, List.length_append]
 have hfin : ∀ r : List Nat, Hk (okV p v) (okE p (hel t s)) = cs (vn.length :: (vn ++ r)) → (∀ x ∈ r, x < 256) → r.length < 1000 → Lc (stl r (OQ vn (vn.length + 1 + r.length))) TT = false →
  ∃ hn : Nat, Ik 11 (1 :: ((Hk (okV p v) (okE p (hel t s))).length : Int) :: Hk (okV p v) (okE p (hel t s))) = (hn : Int) ∧ hn < 2147483647 ∧ Lc hn TT = false := by
  intro r e hr hrl hm
  have hlen : (cs (vn.length :: (vn ++ r))).length = vn.length + 1 + r.length := by
   rw [Jj, List.length_cons, List.length_append]
   omega
  refine ⟨stl (1 :: (vn.length + 1 + r.length) :: vn.length :: (vn ++ r)) 11, ?_, R1 _ _ (by decide), ?_⟩
  · rw [e, hlen]
    refine VE (vn.length :: (vn ++ r)) (fun x hx => ?_) 11 1 (vn.length + 1 + r.length) (by decide) (by omega)
    rcases List.mem_cons.1 hx with rfl | hx
    · omega
    · rcases List.mem_append.1 hx with hx | hx
      · exact v2 x hx
      · exact hr x hx
  · rw [WQ]
    exact hm
 cases hq : f (gtag s) with
 | false =>
  rw [hq] at hokE
  simp only [Bool.false_eq_true, if_false, List.nil_append] at hokE
  have e2 : okE p (hel t s) = G9 (cs tn) := by
   rw [hokE, ← hab, NQ]
   exact (List.map_append).symm
  refine hfin (tn.length :: xbN tn) ?_ (fun x hx => ?_) (by rw [List.length_cons, Ll]; omega) ?_
  · unfold Hk
    rw [if_pos hH, e2, ev]
    unfold Nr
    rw [M', LP, Jj, Jj, IC, NQ, IC]
  · rcases List.mem_cons.1 hx with rfl | hx
    · omega
    · exact M7 t2 x hx
  · have := VV hc
    rw [TA] at this
    rw [G', List.length_cons, Ll, show vn.length + 1 + (2 * tn.length + 1) = vn.length + 2 + 2 * tn.length by omega]
    exact this
 | true =>
  rw [hq] at hokE
  simp only [if_true, List.singleton_append] at hokE
  obtain ⟨g, hgs, g1, g2⟩ := Wz h0 h1
  obtain ⟨l1, l2, l3⟩ := Y6 g hgs
  refine hfin ((tn.length + 1) :: (xbN an ++ (g.1 :: g.2.length :: g.2) ++ xbN bn)) ?_ (fun x hx => ?_) (by
   simp only [List.length_cons, List.length_append, Ll]
   omega) ?_
  · unfold Hk
    rw [if_pos hH, hokE, ev]
    unfold Nr
    have eg : xb (gext s :: G9 (cs bn)) = (g.1 : Int) :: (g.2.length : Int) :: (cs g.2 ++ cs (xbN bn)) := by
     show gtag s :: ((gext s).f1.length : Int) :: ((gext s).f1 ++ xb (G9 (cs bn))) = _
     rw [g1, g2, Jj, M']
    have el : ((G9 (cs an) ++ gext s :: G9 (cs bn)).length : Int) = ((tn.length + 1 : Nat) : Int) := by
     rw [List.length_append, List.length_cons, LP, LP, Jj, Jj]
     omega
    rw [X9, M', eg, el, Jj, IC, NQ, IC, NQ, NQ, IC, IC]
    simp
  · rcases List.mem_cons.1 hx with rfl | hx
    · omega
    · rcases List.mem_append.1 hx with hx | hx
      · rcases List.mem_append.1 hx with hx | hx
        · exact M7 han x hx
        · rcases List.mem_cons.1 hx with rfl | hx
          · exact l1
          · rcases List.mem_cons.1 hx with rfl | hx
            · omega
            · exact l3 x hx
      · exact M7 hbn x hx
  · have := X' hc hgs hab
    rw [TA, TA] at this
    have e3 : vn.length + 1 + ((tn.length + 1) :: (xbN an ++ (g.1 :: g.2.length :: g.2) ++ xbN bn)).length = vn.length + 4 + g.2.length + 2 * tn.length := by
     simp only [List.length_cons, List.length_append, Ll]
     omega
    rw [G', e3, P', P']
    exact this
theorem Xm {p : List S75} {v w t : List Int} {c s k : Int} (u : List Int) (h : isE v t p c = true) (h6 : Tl6 v) (hd : Np t) (hw : ∀ y ∈ w, 1 ≤ y ∧ y ≤ 6) (hb : best w (okV p v) ≠ 0) (h0 : 0 ≤ s) (h1 : s ≤ 60) (hk : k = 5 ∨ k = 77) : Wt p v t w u k s ≠ 0 := by
 obtain ⟨e1, e2, e3, e4, e5, e6, e7⟩ := Ih h
 have hX : isX (hel t s) = true := QH e2 e3 e4 e5
 have hHv : isH v (hel t s) = true := by rw [isH, e1, hX]; rfl
 have hn : okV p v ≠ [] := fun e => by
  have := (KY hb).2.1
  rw [e] at this
  exact absurd this (by decide)
 obtain ⟨hH, _, _⟩ := NB (p := p) hHv (LU t s e2).2 e6 hn
 obtain ⟨hn', q1, q2, q3⟩ := Ul h h6 hd hw hb h0 h1 hH
 have hB := hw _ (KY hb).2.2.1
 obtain ⟨an, ha, eA⟩ : ∃ an ∈ [1, 2, 3, 4, 5, 6], best w (okV p v) = ((an : Nat) : Int) := by
  refine ⟨(best w (okV p v)).toNat, ?_, by omega⟩
  have hc : (best w (okV p v)).toNat = 1 ∨ (best w (okV p v)).toNat = 2 ∨ (best w (okV p v)).toNat = 3 ∨ (best w (okV p v)).toNat = 4 ∨ (best w (okV p v)).toNat = 5 ∨ (best w (okV p v)).toNat = 6 := by omega
  simpa using hc
 have hans : answer u (okE p (hel t s)) = G9 (Pm p t u) := by
  unfold answer okE hel
  rw [List.filter_filter, List.filter_filter, NK _ _ _ (by
   show ((!res (gtag s) && _) && _) = false
   rw [(Kp s).2.2]
   rfl)]
  unfold G9 Pm
  rw [List.filter_map]
  congr 1
  refine List.filter_congr fun x _ => ?_
  simp only [Function.comp]
  cases p.any (fun b => tch b x) <;> cases mem u x <;> cases res x <;> rfl
 obtain ⟨tn, htn, et⟩ := Q6 (QP h hd) (fun x => !(p.any (fun b => tch b x)) && (mem u x && !res x))
 have t1 := WE tn htn
 have t2 := V' tn htn
 have hA : isA (best w (okV p v)) (answer u (okE p (hel t s))) = true := by
  have hH' := hH
  simp only [isH, Bool.and_eq_true] at hH'
  have hXa : isX (answer u (okE p (hel t s))) = true := Iq _ (Iq _ hH'.2)
  rw [isA, hXa, He.mpr ⟨by omega, by omega⟩]
  rfl
 have eans : J8 (best w (okV p v)) (answer u (okE p (hel t s))) = cs (an :: tn.length :: xbN tn) := by
  unfold J8
  rw [if_pos hA, hans, show Pm p t u = cs tn from et, eA]
  unfold Nr
  rw [M', LP, Jj, IC, IC]
 have ha6 : an < 256 := by
  have : ∀ a ∈ [1, 2, 3, 4, 5, 6], a < 256 := by decide
  exact this an ha
 obtain ⟨kn, hkn, ek⟩ : ∃ kn ∈ [5, 77], k = ((kn : Nat) : Int) := by
  rcases hk with rfl | rfl
  · exact ⟨5, by simp, rfl⟩
  · exact ⟨77, by simp, rfl⟩
 have hk2 : kn < 256 := by
  have : ∀ a ∈ [5, 77], a < 256 := by decide
  exact this kn hkn
 have hlt : ∀ x ∈ an :: tn.length :: xbN tn, x < 256 := fun x hx => by
  rcases List.mem_cons.1 hx with rfl | hx
  · exact ha6
  · rcases List.mem_cons.1 hx with rfl | hx
    · omega
    · exact M7 t2 x hx
 have e8 : trH 1 [Hk (okV p v) (okE p (hel t s)), J8 (best w (okV p v)) (answer u (okE p (hel t s)))] = ((stl (hn' :: (2 + 2 * tn.length) :: an :: tn.length :: xbN tn) 11 : Nat) : Int) := by
  show Ik 11 (Ik 11 (1 :: ((Hk (okV p v) (okE p (hel t s))).length : Int) :: Hk (okV p v) (okE p (hel t s))) :: ((J8 (best w (okV p v)) (answer u (okE p (hel t s)))).length : Int) :: J8 (best w (okV p v)) (answer u (okE p (hel t s)))) = _
  rw [q1, eans, Jj, show (an :: tn.length :: xbN tn).length = 2 + 2 * tn.length by simp only [List.length_cons, Ll]; omega]
  exact VE _ hlt 11 hn' (2 + 2 * tn.length) q2 (by omega)
 unfold Wt
 rw [e8, ek]
 have e9 := O0 [kn, 1, stl (hn' :: (2 + 2 * tn.length) :: an :: tn.length :: xbN tn) 11, kn] (fun x hx => by
  have hst := R1 (hn' :: (2 + 2 * tn.length) :: an :: tn.length :: xbN tn) 11 (by decide)
  simp only [List.mem_cons, List.not_mem_nil, or_false] at hx
  rcases hx with rfl | rfl | rfl | rfl <;> omega) 11
 intro hz
 have e10 : Ik 11 [(kn : Int), 1, ((stl (hn' :: (2 + 2 * tn.length) :: an :: tn.length :: xbN tn) 11 : Nat) : Int), (kn : Int)] = ((stl [kn, 1, stl (hn' :: (2 + 2 * tn.length) :: an :: tn.length :: xbN tn) 11, kn] 11 : Nat) : Int) := e9
 rw [hz] at e10
 exact Wc hkn ha htn q2 q3 (by omega)
end Go.Proofs.YtibmehnippjakaaGreat.Plain

/- FnEndpoints: whatever the bytes that the law draws from, values in motion never change what an endpoint gets. No condition. -/
set_option linter.unusedSimpArgs false
set_option linter.unusedVariables false
namespace Go.Proofs.YtibmehnippjakaaGreat.Pure
open Go.RowKit Go.Proofs.YtibmehnippjakaaGreatW.PrintWords Go.Proofs.YtibmehnippjakaaGreat.Base Go.Proofs.YtibmehnippjakaaGreat.Print Go.Proofs.YtibmehnippjakaaGreat.Plain
theorem O6 (a b : Bool) (m n : Int) (x y : List Int) (hx : x.length ≤ 1000000000000) : D6.fv a m x b n y = some (decide (a = b) && (decide (m = n) && decide (x = y))) := by
 rw [D6.fv_eq, JZ x y hx]
 cases a <;> cases b <;> by_cases h : m = n <;> simp [h]
theorem Uh (v t : List Int) (p : List S75) (c : Int) (w : List Int) (hv : v.length ≤ 1000000000000) (ht : t.length ≤ 1000000000000) (hp : p.length ≤ 1000000000000) (hs : ∀ x ∈ p, okB x) (hw : w.length ≤ 1000000000000) :
 Df.fv v t p c w = some (if isE v t p c then best w (wo v (JO p v)) else 0) := by
 have h1 := Oj p v
 have h2 := NR v (JO p v)
 rw [Df.fv_eq, Jb v t p c hv ht hp hs, Option.bind_some]
 cases isE v t p c with
 | false => rfl
 | true =>
  rw [if_pos rfl, MD p v hp hs hv, Option.bind_some, Je v _ hv (by omega), Option.bind_some, K4 w _ hw (by omega)]
  rfl
def clear (b : S75) : Bool := decide (b.f0 = 0) && (decide (b.f1.length = 0) && (decide (b.f2.length = 0) && !b.f3))
theorem UE (b : S75) : H6.f b.f0 b.f1 b.f2 b.f3 = some (clear b) := by
 unfold H6.f clear
 have e1 : ((b.f1.length : Int) = 0) ↔ b.f1.length = 0 := by omega
 have e2 : ((b.f2.length : Int) = 0) ↔ b.f2.length = 0 := by omega
 by_cases h0 : b.f0 = 0 <;> by_cases h1 : b.f1.length = 0 <;> by_cases h2 : b.f2.length = 0 <;> simp [h0, h1, h2, e1, e2]
theorem U7 (suf : List S75) : ∀ (pre : List S75), (pre ++ suf).length ≤ 1000000000000 →
 ∃ r, AB.l0v (pre ++ suf) ((pre ++ suf).length : Int) (pre.length : Int) = some r ∧ decide (r ≥ 0) = !(suf.all clear) := by
 induction suf with
 | nil =>
  intro pre _
  refine ⟨-1, ?_, by simp⟩
  rw [AB.l0v_eq, if_neg (E3 pre)]
 | cons x suf ih =>
  intro pre hl
  have hn : pre.length < (pre ++ x :: suf).length := by simp
  rw [AB.l0v_eq, if_pos (EI pre suf x), if_pos (by omega), if_pos (EI pre suf x), Lp]
  unfold G0.f
  rw [UE]
  simp only [Option.bind_some]
  cases hx : clear x with
  | false =>
   rw [if_pos (show (!false) = true from rfl)]
   exact ⟨(pre.length : Int), rfl, by simp [hx]⟩
  | true =>
   rw [if_neg (by simp), F' pre x hn hl]
   rw [Eg pre suf x] at hl ⊢
   obtain ⟨r, h1, h2⟩ := ih (pre ++ [x]) hl
   exact ⟨r, h1, by rw [h2]; simp [hx]⟩
theorem Vn (l : List S75) (hl : l.length ≤ 1000000000000) : Dn.fv l = some (decide (l.length ≤ 4) && l.all clear) := by
 obtain ⟨r, h1, h2⟩ := U7 l [] (by simpa using hl)
 rw [Dn.fv_eq, Ag.fv_eq, AB.fv_eq]
 simp only [List.nil_append, List.length_nil, Int.natCast_zero] at h1
 rw [h1]
 simp only [Option.bind_some, h2]
 by_cases h : l.length ≤ 4
 · rw [if_pos (by omega)]
   simp [h]
 · rw [if_neg (by omega)]
   simp [h]
theorem UK {p : List S75} {v : List Int} (h : p.all clear = true) (hb : p.all isB = true) : okV p v = v := by
 unfold okV
 rw [List.filter_eq_self]
 intro x _
 rw [List.all_eq_true]
 intro b hbm
 have h1 := List.all_eq_true.mp h b hbm
 have h2 := List.all_eq_true.mp hb b hbm
 simp only [clear, Bool.and_eq_true, decide_eq_true_eq] at h1
 simp [clr, h2, h1.1]
theorem WJ (k : Int) (hk : k ∈ ([5, 77, 0] : List Int)) : (inR 1 2147483646 k = true ∧ (k = 5 ∨ k = 77)) ∨ inR 1 2147483646 k = false := by
 simp only [List.mem_cons, List.not_mem_nil, or_false] at hk
 rcases hk with rfl | rfl | rfl
 · exact .inl ⟨rfl, .inl rfl⟩
 · exact .inl ⟨rfl, .inr rfl⟩
 · exact .inr rfl
theorem Wj {w v : List Int} (h : best w v ≠ 0) : best w v > 0 := by
 have h1 := KY h
 have := J1 h1.2.1 _ h1.2.2.2
 omega
theorem FnEndpoints : laws_FnEndpoints.Pure := by
 intro l _ _ _
 refine ends (g := fun k => laws_FnEndpoints.f k l) ?_
 show laws_FnEndpoints.fv l = some true
 rw [laws_FnEndpoints.fv_eq]
 unfold JG.f
 simp only [Option.bind_some, decide_eq_true_eq]
 split
 · rfl
 · have hl : l.length ≤ 1000000000000 := by omega
   obtain ⟨v, t, p, c, w, u, k, s, e, hv, ht, ht6, hp, hw, hw4, hu, hk, s0, s1⟩ := Re l hl
   obtain ⟨p1, p2⟩ := Ww hp
   have hvl := hv.1
   have hjc : ∀ q : Int, (isE v t p c = true → q = best w (okV p v)) → isE v t p c = true → laws_FnEndpoints.j0v w q false v t p c = some true := by
    intro q hq he
    obtain ⟨i1, i2, i3, i4, i5, i6, i7⟩ := Ih he
    rw [laws_FnEndpoints.j0v_eq, if_neg (by simp), Vn p p1, Option.bind_some]
    split
    · rename_i hc
      simp only [Bool.and_eq_true] at hc
      rw [K4 w v (by omega) (by omega), Option.bind_some, hq he, UK hc.2 i7]
      simp
    · rfl
   rw [e, Option.bind_some]
   dsimp only
   rw [w64 (by omega) (by omega), Uh v t p c w (by omega) (by omega) p1 p2 (by omega), Jb v t p c (by omega) (by omega) p1 p2]
   cases he : isE v t p c with
   | false =>
    rw [Jy w u k s (by omega) (by omega) p1 p2 he, Jy w u k (s + 1) (by omega) (by omega) p1 p2 he]
    simp only [Option.bind_some]
    rw [O6 _ _ _ _ _ _ (by simp)]
    simp
   | true =>
    obtain ⟨i1, i2, i3, i4, i5, i6, i7⟩ := Ih he
    obtain ⟨n1, g1, d1⟩ := KU w u k s p2 (by omega) (by omega) he
    obtain ⟨n2, g2, d2⟩ := KU w u k (s + 1) p2 (by omega) (by omega) he
    have hX : isX (hel t s) = true := QH i2 i3 i4 i5
    have hL := LU t s i2
    have hH : isH v (hel t s) = true := by rw [isH, i1, hX]; rfl
    have hG : ((hel t s).map (·.f0)).any res = true := by
     rw [List.any_eq_true]
     refine ⟨gtag s, List.mem_map.mpr ⟨gext s, ?_, rfl⟩, (Kp s).2.2⟩
     unfold hel gput
     exact List.mem_append_right _ List.mem_cons_self
    have hD : ∀ s' : Int, 0 ≤ s' → s' ≤ 60 → Kz v (hel t s') p w u k = if best w (okV p v) ≠ 0 ∧ inR 1 2147483646 k = true then (true, best w (okV p v), Pm p t u) else Jm := by
     intro s' h0 h1
     rw [VN w u k s' he]
     by_cases hb : best w (okV p v) ≠ 0
     · rcases WJ k hk with ⟨k1, k2⟩ | k1
       · rw [if_pos ⟨hb, k1, Xm u he hv ht hw hb h0 h1 k2⟩, if_pos ⟨hb, k1⟩]
       · rw [if_neg (fun h => by rw [k1] at h; cases h.2.1), if_neg (fun h => by rw [k1] at h; cases h.2)]
     · rw [if_neg (fun h => hb h.1), if_neg (fun h => hb h.1)]
    rw [d1, d2, hD s s0 (by omega), hD (s + 1) (by omega) (by omega)]
    simp only [Option.bind_some]
    have htl : (Pm p t u).length ≤ 6 := Nat.le_trans (List.length_filter_le _ _) ht6
    rw [O6 _ _ _ _ _ _ (by split <;> simp [Jm]; omega)]
    simp only [decide_true, Bool.and_self, Option.bind_some, if_true]
    rw [Kt s p2 he]
    simp only [Option.bind_some]
    rw [H3 v (hel t s) (by omega) (by omega) hL.2, Ns _ (by omega), hH, hG, Tc i1 i6]
    simp only [Option.bind_some, if_true]
    unfold Ey.f
    rw [Hj]
    simp only [Option.bind_some]
    have hj := hjc (best w (okV p v)) (fun _ => rfl) he
    generalize hq : (if best w (okV p v) ≠ 0 ∧ inR 1 2147483646 k = true then (true, best w (okV p v), Pm p t u) else Jm) = q
    by_cases hb : best w (okV p v) ≠ 0
    · have hpos := Wj hb
      rw [if_pos hpos]
      cases hi : inR 1 2147483646 k with
      | true =>
       rw [if_pos ⟨hb, hi⟩] at hq
       subst hq
       simpa using hj
      | false =>
       rw [if_neg (fun h => by rw [hi] at h; cases h.2)] at hq
       subst hq
       simpa [Jm] using hj
    · have hz : best w (okV p v) = 0 := Decidable.not_not.mp hb
      rw [if_neg (fun h => hb h.1)] at hq
      subst hq
      rw [if_neg (by omega)]
      simpa [Jm] using hj
end Go.Proofs.YtibmehnippjakaaGreat.Pure
