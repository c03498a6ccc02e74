/- HideSmall and HiddenIn, of the program and of the reference. Condition: the slice has at most 10 to the 12 numbers. -/
import Derived.Test.YtaggmlokldaclaaCounts
import Derived.Test.YtaggmlokldaclaaSums
import Derived.Test.YtaggmlokldaclaaShareOf
import Derived.Test.YtaggmlokldaclaaLim4
import Derived.Test.YtaggmlokldaclaaLim5
set_option linter.unusedSimpArgs false
set_option linter.unusedVariables false
namespace Go.Proofs.Ytaggmlokldaclaa.Plain
open Go.RowKit Go.Proofs.YtaggmlokldaclaaW.PrintWords Go.Proofs.Ytaggmlokldaclaa.Base Go.Proofs.Ytaggmlokldaclaa.Print

/-- A count that is small is hidden. -/
def hid (a c : Int) : Int := if c < a then 0 else c
/-- The counts, the small ones hidden; none if they cannot be counts. -/
def hide (l : List Int) (a : Int) : List Int := if areC l && inR 0 10000 a then l.map (hid a) else []
theorem hide_len (l : List Int) (a : Int) : (hide l a).length ≤ l.length := by
  unfold hide
  split <;> simp
theorem canHide_v (l : List Int) (a : Int) (hl : l.length ≤ 1000000000000) : impl_canHide.fv l a = some (areC l && inR 0 10000 a) := by
  rw [impl_canHide.fv_eq, implAreCounts_v l hl, inRange_f]
  cases areC l <;> simp
theorem implHide_l0 (a : Int) (suf : List Int) : ∀ (pre xs : List Int), (pre ++ suf).length ≤ 1000000000000 → xs.length = pre.length → impl_HideSmall.l0v a xs (pre ++ suf) ((pre ++ suf).length : Int) (pre.length : Int) = some (xs ++ suf.map (hid a)) := by
  induction suf with
  | nil =>
    intro pre xs _ _
    rw [impl_HideSmall.l0v_eq, if_neg (nlt_end pre)]
    simp
  | cons x suf ih =>
    intro pre xs hl hx
    have hn : pre.length < (pre ++ x :: suf).length := by simp
    rw [impl_HideSmall.l0v_eq, if_pos (lt_mid pre suf x), if_pos (by omega), if_pos (lt_mid pre suf x), rd_mid, up_mid pre x hn hl, if_pos (show xs.length < 17592186044416 by omega), if_pos (show xs.length < 17592186044416 by omega)]
    rw [mid_snoc pre suf x] at hl ⊢
    have h1 := fun y => ih (pre ++ [x]) (xs ++ [y]) hl (by simp [hx])
    rw [h1, h1]
    by_cases hc : x < a <;> simp [hid, hc]
theorem implHide_v (l : List Int) (a : Int) (hl : l.length ≤ 1000000000000) : impl_HideSmall.fv l a = some (hide l a) := by
  rw [impl_HideSmall.fv_eq, canHide_v l a hl]
  have h := implHide_l0 a l [] [] (by simpa using hl) rfl
  simp only [Option.bind_some, hide, List.nil_append, List.length_nil, Int.natCast_zero] at h ⊢
  rw [h]
  cases areC l && inR 0 10000 a <;> simp
theorem specHide_l0 (a : Int) (suf : List Int) : ∀ (pre xs : List Int), (pre ++ suf).length ≤ 1000000000000 → xs.length = pre.length → areC (pre ++ suf) = true → inR 0 10000 a = true → spec_HideSmall.l0v (pre ++ suf) a xs (pre.length : Int) = some (xs ++ suf.map (hid a)) := by
  induction suf with
  | nil =>
    intro pre xs _ _ _ _
    rw [spec_HideSmall.l0v_eq, if_neg (nlt_end pre), spec_HideSmall.j1v_eq]
    simp
  | cons x suf ih =>
    intro pre xs hl hx hc ha
    have hn : pre.length < (pre ++ x :: suf).length := by simp
    rw [spec_HideSmall.l0v_eq, if_pos (lt_mid pre suf x), specAreCounts_v _ hl, hc, l1In_f, ha]
    simp only [Option.bind_some, if_true]
    rw [spec_HideSmall.j1v_eq, if_pos rfl, if_pos (by omega), if_pos (lt_mid pre suf x), rd_mid, up_mid pre x hn hl, if_pos (show xs.length < 17592186044416 by omega), if_pos (show xs.length < 17592186044416 by omega)]
    rw [mid_snoc pre suf x] at hl hc ⊢
    have h1 := fun y => ih (pre ++ [x]) (xs ++ [y]) hl (by simp [hx]) hc ha
    rw [h1, h1]
    by_cases hc : x < a <;> simp [hid, hc]
theorem specHide_v (l : List Int) (a : Int) (hl : l.length ≤ 1000000000000) : spec_HideSmall.fv l a = some (hide l a) := by
  rw [spec_HideSmall.fv_eq]
  unfold hide
  cases hc : areC l && inR 0 10000 a with
  | true =>
    rw [Bool.and_eq_true] at hc
    simpa using specHide_l0 a l [] [] (by simpa using hl) rfl (by simpa using hc.1) hc.2
  | false =>
    rw [spec_HideSmall.l0v_eq, specAreCounts_v l hl, l1In_f]
    simp only [Option.bind_some, spec_HideSmall.j1v_eq]
    cases h1 : areC l with
    | false => simp
    | true =>
      have h2 : inR 0 10000 a = false := by simpa [h1] using hc
      simp [h2]
end Go.Proofs.Ytaggmlokldaclaa.Plain
