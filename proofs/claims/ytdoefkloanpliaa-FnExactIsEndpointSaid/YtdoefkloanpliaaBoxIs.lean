/- When a box, a list of tags and an endpoint are in form. No program. No condition. -/
import Derived.Test.YtdoefkloanpliaaBoxEq
import Derived.Test.YtdoefkloanpliaaVersions
set_option linter.unusedSimpArgs false
set_option linter.unusedVariables false
namespace Go.Proofs.Ytdoefkloanpliaa.Plain
open Go.RowKit Go.Proofs.YtdoefkloanpliaaW.PrintWords Go.Proofs.Ytdoefkloanpliaa.Base Go.Proofs.Ytdoefkloanpliaa.Print

def isB (b : S67) : Bool := inR 0 9 b.f0 && (decide (b.f1.length ≤ 6) && (decide (b.f2.length ≤ 6) && (b.f1.all (inR 0 255) && b.f2.all (inR 0 255))))
/-- Is a tag one of those that mean nothing? -/
def res (x : Int) : Bool := inR 0 255 x && (Int.tmod x 16 == 10)
/-- Is x above the one before it? -/
def above : Option Int → Int → Bool
  | none, _ => true
  | some p, x => decide (p < x)
def asc : Option Int → List Int → Bool
  | _, [] => true
  | o, x :: l => above o x && asc (some x) l
/-- The same with all that the reference asks of a tag. -/
def tagsS : Option Int → List Int → Bool
  | _, [] => true
  | o, x :: l => inR 0 255 x && (!res x && (above o x && tagsS (some x) l))
theorem tagsS_eq (l : List Int) : ∀ o, tagsS o l = ((asc o l && l.all (inR 0 255)) && !(l.any res)) := by
  induction l with
  | nil =>
    intro o
    rfl
  | cons x l ih =>
    intro o
    simp only [tagsS, asc, List.all_cons, List.any_cons, ih]
    cases inR 0 255 x <;> cases res x <;> cases above o x <;> cases asc (some x) l <;> cases l.all (inR 0 255) <;> cases l.any res <;> rfl
/-- Is an endpoint in form? -/
def isE (v t : List Int) (p : List S67) (c : Int) : Bool :=
  areV v && (decide (t.length ≤ 5) && ((asc none t && t.all (inR 0 255)) && (!(t.any res) && (decide (p.length ≤ 4) && (p.all isB && inR 0 5 c)))))
theorem lastO (pre suf : List Int) (h : pre ≠ []) : pre.getLast? = some (rd (pre ++ suf) ((pre.length : Int) - 1)) := by
  rw [rd_lastD pre suf h, List.getLast?_eq_some_getLast h]
  cases pre with
  | nil => exact absurd rfl h
  | cons x l => rfl
end Go.Proofs.Ytdoefkloanpliaa.Plain
