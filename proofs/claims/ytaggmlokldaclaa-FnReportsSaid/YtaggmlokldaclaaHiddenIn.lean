/- HiddenIn, of the program and of the reference. Condition: the slice has at most 10 to the 12 numbers. -/
import Derived.Test.YtaggmlokldaclaaHides
import Derived.Test.YtaggmlokldaclaaLim5
set_option linter.unusedSimpArgs false
set_option linter.unusedVariables false
namespace Go.Proofs.Ytaggmlokldaclaa.Plain
open Go.RowKit Go.Proofs.YtaggmlokldaclaaW.PrintWords Go.Proofs.Ytaggmlokldaclaa.Base Go.Proofs.Ytaggmlokldaclaa.Print

/-- What is hidden, in all. -/
def hidden (l : List Int) (a : Int) : Int := if areC l && inR 0 10000 a then wrap64 (l.sum - (l.map (hid a)).sum) else 0
theorem implHiddenIn_v (l : List Int) (a : Int) (hl : l.length ≤ 1000000000000) : impl_HiddenIn.fv l a = some (hidden l a) := by
  have hh := hide_len l a
  rw [impl_HiddenIn.fv_eq, canHide_v l a hl, implSumOf_v l hl, implHide_v l a hl]
  simp only [Option.bind_some, implSumOf_v (hide l a) (by omega), sumW_0, hidden, wrap_sub, wrap_sub']
  cases h : areC l && inR 0 10000 a with
  | false => simp
  | true => simp [hide, h]
theorem specHiddenIn_l0 (a : Int) (suf : List Int) : ∀ (pre qre : List Int) (s : Int), (pre ++ suf).length ≤ 1000000000000 → qre.length = pre.length → wrap64 s = s → spec_HiddenIn.l0v (pre ++ suf) (qre ++ suf.map (hid a)) s (pre.length : Int) = some (wrap64 (s + (suf.sum - (suf.map (hid a)).sum))) := by
  induction suf with
  | nil =>
    intro pre qre s _ hq hs
    rw [spec_HiddenIn.l0v_eq, if_neg (by simp [hq])]
    simp [hs]
  | cons x suf ih =>
    intro pre qre s hl hq hs
    have hn : pre.length < (pre ++ x :: suf).length := by simp
    have h1 := lt_mid qre (suf.map (hid a)) (hid a x)
    have h2 := rd_mid qre (suf.map (hid a)) (hid a x)
    rw [hq] at h1 h2
    rw [spec_HiddenIn.l0v_eq, List.map_cons, if_pos h1, if_pos (by omega), if_pos (lt_mid pre suf x), rd_mid, h2, up_mid pre x hn hl]
    rw [mid_snoc pre suf x] at hl ⊢
    rw [mid_snoc qre, ih (pre ++ [x]) (qre ++ [hid a x]) _ hl (by simp [hq]) (wrap_wrap _), wrap_sub, wrap_add, List.sum_cons, List.sum_cons]
    congr 2
    omega
theorem specHiddenIn_v (l : List Int) (a : Int) (hl : l.length ≤ 1000000000000) : spec_HiddenIn.fv l a = some (hidden l a) := by
  rw [spec_HiddenIn.fv_eq, specHide_v l a hl]
  simp only [Option.bind_some, hidden]
  cases h : areC l && inR 0 10000 a with
  | false =>
    rw [hide, h, if_neg (by simp), spec_HiddenIn.l0v_eq, if_neg (by simp)]
    simp
  | true =>
    have h1 := specHiddenIn_l0 a l [] [] 0 (by simpa using hl) rfl (w64 (by decide) (by decide))
    rw [hide, h, if_pos rfl]
    simpa using h1
end Go.Proofs.Ytaggmlokldaclaa.Plain
