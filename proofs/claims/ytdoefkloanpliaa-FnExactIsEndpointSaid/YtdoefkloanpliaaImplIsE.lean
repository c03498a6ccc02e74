/- IsBox, areTags, IsHardened and IsEndpoint, of the program. Condition: at most 10 to the 12 of each. -/
import Derived.Test.YtdoefkloanpliaaImplIsB
import Derived.Test.YtdoefkloanpliaaBoxes
import Derived.Test.YtdoefkloanpliaaImplVers
import Derived.Test.YtdoefkloanpliaaLim5
import Derived.Test.YtdoefkloanpliaaLim6
set_option linter.unusedSimpArgs false
set_option linter.unusedVariables false
namespace Go.Proofs.Ytdoefkloanpliaa.Plain
open Go.RowKit Go.Proofs.YtdoefkloanpliaaW.PrintWords Go.Proofs.Ytdoefkloanpliaa.Base Go.Proofs.Ytdoefkloanpliaa.Print

theorem implRes_f (x : Int) : impl_IsReserved.f x = some (res x) := by
  unfold impl_IsReserved.f res
  rw [inRange_f]
  cases inR 0 255 x <;> simp
theorem implHard_l0 (suf : List Int) : ∀ (pre : List Int), (pre ++ suf).length ≤ 1000000000000 →
    ∃ r, slices_IndexFunc_int_int_with_impl_IsReserved.l0v (pre ++ suf) ((pre ++ suf).length : Int) (pre.length : Int) = some r ∧ decide (r ≥ 0) = suf.any res := by
  induction suf with
  | nil =>
    intro pre _
    refine ⟨-1, ?_, by simp⟩
    rw [slices_IndexFunc_int_int_with_impl_IsReserved.l0v_eq, if_neg (nlt_end pre)]
  | cons x suf ih =>
    intro pre hl
    have hn : pre.length < (pre ++ x :: suf).length := by simp
    rw [slices_IndexFunc_int_int_with_impl_IsReserved.l0v_eq, if_pos (lt_mid pre suf x), if_pos (by omega), if_pos (lt_mid pre suf x), rd_mid, implRes_f]
    simp only [Option.bind_some]
    cases hx : res x with
    | true =>
      rw [if_pos rfl]
      exact ⟨(pre.length : Int), rfl, by simp [hx]⟩
    | false =>
      rw [if_neg (by simp), up_mid pre x hn hl]
      rw [mid_snoc pre suf x] at hl ⊢
      obtain ⟨r, h1, h2⟩ := ih (pre ++ [x]) hl
      exact ⟨r, h1, by rw [h2]; simp [hx]⟩
theorem implHard_v (l : List Int) (hl : l.length ≤ 1000000000000) : impl_IsHardened.fv l = some (l.any res) := by
  obtain ⟨r, h1, h2⟩ := implHard_l0 l [] (by simpa using hl)
  rw [impl_IsHardened.fv_eq, slices_ContainsFunc_int_int_with_impl_IsReserved.fv_eq, slices_IndexFunc_int_int_with_impl_IsReserved.fv_eq]
  simp only [List.nil_append, List.length_nil, Int.natCast_zero] at h1
  rw [h1]
  simp [h2]
theorem implTags_l0 (suf : List Int) : ∀ (pre : List Int), (pre ++ suf).length ≤ 1000000000000 →
    impl_areTags.l0v (pre ++ suf) (pre ++ suf) ((pre ++ suf).length : Int) (pre.length : Int) = some (asc pre.getLast? suf && (pre ++ suf).all (inR 0 255)) := by
  induction suf with
  | nil =>
    intro pre hl
    rw [impl_areTags.l0v_eq, if_neg (nlt_end pre), areNumbers_v _ _ _ hl]
    simp only [Option.bind_some, asc, Bool.true_and]
  | cons x suf ih =>
    intro pre hl
    have hn : pre.length < (pre ++ x :: suf).length := by simp
    have hp : (pre ++ x :: suf).length ≤ 1000000000000 := hl
    rw [impl_areTags.l0v_eq, if_pos (lt_mid pre suf x), if_pos (by omega), if_pos (lt_mid pre suf x), rd_mid, up_mid pre x hn hl]
    have h1 := ih (pre ++ [x]) (by simpa using hl)
    rw [← mid_snoc pre suf x] at h1
    rw [h1, List.getLast?_concat]
    simp only [asc]
    by_cases he : pre = []
    · subst he
      rw [if_neg (by simp)]
      simp [above]
    · have hpl : 0 < pre.length := List.length_pos_iff.mpr he
      rw [if_pos (by omega), w64 (x := (pre.length : Int) - 1) (by omega) (by omega), if_pos (by omega), if_pos (by omega), lastO pre (x :: suf) he]
      simp only [above]
      by_cases hlt : rd (pre ++ x :: suf) ((pre.length : Int) - 1) < x
      · rw [if_neg (by omega)]
        simp [hlt]
      · rw [if_pos (by omega)]
        simp [hlt]
theorem implTags_v (l : List Int) (hl : l.length ≤ 1000000000000) : impl_areTags.fv l = some (asc none l && l.all (inR 0 255)) := by
  rw [impl_areTags.fv_eq]
  simpa using implTags_l0 l [] (by simpa using hl)
theorem implBs_l0 (suf : List S67) : ∀ (pre : List S67), (pre ++ suf).length ≤ 1000000000000 → (∀ x ∈ suf, okB x) →
    ∃ r, slices_IndexFunc_impl_Box_impl_Box_with_impl_IsEndpoint_1.l0v (pre ++ suf) ((pre ++ suf).length : Int) (pre.length : Int) = some r ∧ decide (r ≥ 0) = !(suf.all isB) := by
  induction suf with
  | nil =>
    intro pre _ _
    refine ⟨-1, ?_, by simp⟩
    rw [slices_IndexFunc_impl_Box_impl_Box_with_impl_IsEndpoint_1.l0v_eq, if_neg (nlt_end pre)]
  | cons x suf ih =>
    intro pre hl hs
    have hn : pre.length < (pre ++ x :: suf).length := by simp
    rw [slices_IndexFunc_impl_Box_impl_Box_with_impl_IsEndpoint_1.l0v_eq, if_pos (lt_mid pre suf x), if_pos (by omega), if_pos (lt_mid pre suf x), rdBox_mid, impl_IsEndpoint_1.fv_eq, implIsB_v x (hs x List.mem_cons_self)]
    simp only [Option.bind_some]
    cases hx : isB x with
    | false =>
      rw [if_pos (show (!false) = true from rfl)]
      exact ⟨(pre.length : Int), rfl, by simp [hx]⟩
    | true =>
      rw [if_neg (by simp), up_mid pre x hn hl]
      rw [mid_snoc pre suf x] at hl ⊢
      obtain ⟨r, h1, h2⟩ := ih (pre ++ [x]) hl (fun y hy => hs y (List.mem_cons_of_mem _ hy))
      exact ⟨r, h1, by rw [h2]; simp [hx]⟩
theorem implBs_v (l : List S67) (hl : l.length ≤ 1000000000000) (hs : ∀ x ∈ l, okB x) : slices_ContainsFunc_impl_Box_impl_Box_with_impl_IsEndpoint_1.fv l = some (!(l.all isB)) := by
  obtain ⟨r, h1, h2⟩ := implBs_l0 l [] (by simpa using hl) hs
  rw [slices_ContainsFunc_impl_Box_impl_Box_with_impl_IsEndpoint_1.fv_eq, slices_IndexFunc_impl_Box_impl_Box_with_impl_IsEndpoint_1.fv_eq]
  simp only [List.nil_append, List.length_nil, Int.natCast_zero] at h1
  rw [h1]
  simp only [Option.bind_some, h2]
theorem implIsE_v (v t : List Int) (p : List S67) (c : Int) (hv : v.length ≤ 1000000000000) (ht : t.length ≤ 1000000000000) (hp : p.length ≤ 1000000000000) (hs : ∀ x ∈ p, okB x) : impl_IsEndpoint.fv v t p c = some (isE v t p c) := by
  rw [impl_IsEndpoint.fv_eq, implVers_v v hv, implTags_v t ht, implHard_v t ht, implBs_v p hp hs, inRange_f]
  simp only [Option.bind_some, isE, show ((t.length : Int) ≤ 5) ↔ (t.length ≤ 5) from by omega, show ((p.length : Int) ≤ 4) ↔ (p.length ≤ 4) from by omega]
  generalize areV v = x0
  generalize asc none t = x1
  generalize t.all (inR 0 255) = x2
  generalize t.any res = x3
  generalize p.all isB = x4
  by_cases h1 : t.length ≤ 5 <;> by_cases h2 : p.length ≤ 4 <;> cases x0 <;> cases x1 <;> cases x2 <;> cases x3 <;> cases x4 <;> simp [h1, h2]
end Go.Proofs.Ytdoefkloanpliaa.Plain
