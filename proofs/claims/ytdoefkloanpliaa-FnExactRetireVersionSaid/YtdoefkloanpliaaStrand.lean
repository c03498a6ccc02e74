/- Whom a server without one version leaves behind. No program. No condition. -/
import Derived.Test.YtdoefkloanpliaaUseOf
set_option linter.unusedSimpArgs false
set_option linter.unusedVariables false
namespace Go.Proofs.Ytdoefkloanpliaa.Plain
open Go.RowKit Go.Proofs.YtdoefkloanpliaaW.PrintWords Go.Proofs.Ytdoefkloanpliaa.Base Go.Proofs.Ytdoefkloanpliaa.Print

/-- The server without v. -/
def drop (s : List Int) (v : Int) : List Int := s.filter (fun x => !decide (x = v))
/-- Is this list left behind? -/
def left (s t : List Int) (l : List Int) : Bool := decide (best s l > 0) && decide (best t l = 0)
/-- The places of the lists left behind, from n on. -/
def lefts (s t : List Int) : Int → List (List Int) → List Int
  | _, [] => []
  | n, l :: r => if left s t l then n :: lefts s t (n + 1) r else lefts s t (n + 1) r
/-- May a version be retired? -/
def mayR (s : List Int) (r : List (List Int)) (v p : Int) : Bool :=
  areV s && (mem s v && (!decide (s.length = 1) && (inR 0 1000 p && (decide ((lefts s (drop s v) 0 r).length = 0) && decide (wrap64 (1000 * (if v < 1 then 0 else uses s v r)) ≤ wrap64 (p * (r.length : Int)))))))
theorem lefts_len (s t : List Int) (r : List (List Int)) : ∀ n, (lefts s t n r).length ≤ r.length := by
  induction r with
  | nil =>
    intro n
    simp [lefts]
  | cons l r ih =>
    intro n
    have := ih (n + 1)
    simp only [lefts]
    split
    · simp only [List.length_cons]
      omega
    · simp only [List.length_cons]
      omega
theorem drop_len (s : List Int) (v : Int) : (drop s v).length ≤ s.length := List.length_filter_le _ _
end Go.Proofs.Ytdoefkloanpliaa.Plain
