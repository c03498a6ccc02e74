/- FnReports: whatever the bytes that the law draws from, nothing small is told and nothing is invented. No condition. -/
import Derived.Test.YtaggmlokldaclaaHiddenIn
import Derived.Test.YtaggmlokldaclaaSumCounts
import Derived.Test.YtaggmlokldaclaaDraws
import Derived.Test.YtaggmlokldaclaaLim16
import Derived.Test.YtaggmlokldaclaaLim7
set_option linter.unusedSimpArgs false
set_option linter.unusedVariables false
namespace Go.Proofs.Ytaggmlokldaclaa.Pure
open Go.RowKit Go.Proofs.YtaggmlokldaclaaW.PrintWords Go.Proofs.YtaggmlokldaclaaW.PrintMore Go.Proofs.Ytaggmlokldaclaa.Base Go.Proofs.Ytaggmlokldaclaa.Print Go.Proofs.Ytaggmlokldaclaa.Plain

theorem lawSumOf_l0 (suf : List Int) : ∀ (pre : List Int) (s : Int), (pre ++ suf).length ≤ 1000000000000 → laws_sumOf.l0v (pre ++ suf) s (pre.length : Int) = some (sumW s suf) := by
  induction suf with
  | nil =>
    intro pre s _
    rw [laws_sumOf.l0v_eq, if_neg (nlt_end pre)]
    rfl
  | cons x suf ih =>
    intro pre s hl
    have hn : pre.length < (pre ++ x :: suf).length := by simp
    rw [laws_sumOf.l0v_eq, if_pos (lt_mid pre suf x), if_pos (by omega), rd_mid, up_mid pre x hn hl]
    rw [mid_snoc pre suf x] at hl ⊢
    exact ih (pre ++ [x]) _ hl
theorem lawSumOf_v (l : List Int) (hl : l.length ≤ 1000000000000) : laws_sumOf.fv l = some (sumW 0 l) := by
  rw [laws_sumOf.fv_eq]
  exact lawSumOf_l0 l [] 0 (by simpa using hl)
theorem slicesEqual_l0 (sa : List Int) : ∀ (pre sb : List Int), sb.length = sa.length → (pre ++ sa).length ≤ 1000000000000 → slices_Equal_int_int.l0v (pre ++ sa) (pre ++ sb) ((pre ++ sa).length : Int) (pre.length : Int) = some (decide (sa = sb)) := by
  induction sa with
  | nil =>
    intro pre sb hr _
    rw [slices_Equal_int_int.l0v_eq, if_neg (nlt_end pre)]
    simp at hr
    simp [hr]
  | cons x sa ih =>
    intro pre sb hr hl
    cases sb with
    | nil => simp at hr
    | cons y sb =>
      have hn : pre.length < (pre ++ x :: sa).length := by simp
      rw [slices_Equal_int_int.l0v_eq, if_pos (lt_mid pre sa x), if_pos (by omega), if_pos (lt_mid pre sa x), if_pos (lt_mid pre sb y), rd_mid, rd_mid, up_mid pre x hn hl]
      by_cases hxy : x = y
      · subst hxy
        rw [if_pos rfl]
        rw [mid_snoc pre sa x] at hl ⊢
        rw [mid_snoc pre sb x]
        rw [ih (pre ++ [x]) sb (by simpa using hr) hl]
        simp
      · rw [if_neg hxy]
        simp [hxy]
theorem equalInts_v (a b : List Int) (hl : a.length ≤ 1000000000000) : impl_EqualInts.fv a b = some (decide (a = b)) := by
  rw [impl_EqualInts.fv_eq, slices_Equal_int_int.fv_eq]
  by_cases h : a.length = b.length
  · rw [if_pos (by omega)]
    have h1 := slicesEqual_l0 a [] b h.symm (by simpa using hl)
    simp only [List.nil_append, List.length_nil, Int.natCast_zero] at h1
    rw [h1]
    rfl
  · rw [if_neg (by omega)]
    have : a ≠ b := fun e => h (by rw [e])
    simp [this]

theorem any_l1 (m : Nat) : ∀ (xs l : List Int) (p r : Int), xs.length + m = 11 → ∃ ys, spec_l24Any.l1v xs l p r = some (ys, p, r) ∧ ys.length ≤ 11 := by
  induction m with
  | zero =>
    intro xs l p r hx
    rw [spec_l24Any.l1v_eq, if_neg (by omega)]
    exact ⟨xs, rfl, by omega⟩
  | succ m ih =>
    intro xs l p r hx
    rw [spec_l24Any.l1v_eq, if_pos (by omega), if_pos (by omega)]
    exact ih _ l p r (by simp; omega)
theorem any_j2 (xs l : List Int) (p r : Int) (h : St l p) (hx : xs.length ≤ 8) : ∃ ys p' r', spec_l24Any.j2v xs l p r = some (ys, p', r') ∧ St l p' ∧ ys.length ≤ 11 := by
  rw [spec_l24Any.j2v_eq]
  obtain ⟨b, p', r', e, h'⟩ := l1Once_ex l p r 12 h (by decide)
  rw [e]
  simp only [Option.bind_some]
  cases b with
  | false => exact ⟨xs, p', r', by simp, h', by omega⟩
  | true =>
    obtain ⟨ys, hy, hyl⟩ := any_l1 (11 - xs.length) xs l p' r' (by omega)
    exact ⟨ys, p', r', by simp [hy], h', hyl⟩
theorem any_l0 (m : Nat) : ∀ (xs l : List Int) (p r : Int), St l p → xs.length + m ≤ 8 → ∃ ys p' r', spec_l24Any.l0v xs (m : Int) l p r = some (ys, p', r') ∧ St l p' ∧ ys.length ≤ 11 := by
  induction m with
  | zero =>
    intro xs l p r h hx
    rw [spec_l24Any.l0v_eq, if_neg (by omega)]
    by_cases h0 : (xs.length : Int) > 0
    · rw [if_pos h0]
      obtain ⟨b, p', r', e, h'⟩ := l1Once_ex l p r 6 h (by decide)
      rw [e]
      simp only [Option.bind_some]
      rw [spec_l24Any.j1v_eq]
      cases b with
      | false =>
        rw [if_neg (by simp)]
        exact any_j2 xs l p' r' h' (by omega)
      | true =>
        rw [if_pos rfl]
        obtain ⟨c, p2, r2, e2, h2, _⟩ := l1Int_ex l p' r' [(-1), 10000, 10001, 9223372036854775807] h' (by simp)
        rw [e2]
        simp only [Option.bind_some]
        rw [if_pos (by omega)]
        exact any_j2 _ l p2 r2 h2 (by simp; omega)
    · rw [if_neg h0, spec_l24Any.j1v_eq, if_neg (by simp)]
      exact any_j2 xs l p r h (by omega)
  | succ m ih =>
    intro xs l p r h hx
    rw [spec_l24Any.l0v_eq, if_pos (by omega)]
    obtain ⟨b, p', r', e, h', _, _⟩ := l1Below_ex l p r 40 h (by decide)
    rw [e]
    simp only [Option.bind_some]
    rw [if_pos (by omega), w64 (by omega) (by omega), show ((m + 1 : Nat) : Int) - 1 = (m : Int) by omega]
    exact ih _ l p' r' h' (by simp; omega)
theorem any_ex (l : List Int) (p r : Int) (h : St l p) : ∃ ys p' r', spec_l24Any.fv l p r = some (ys, p', r') ∧ St l p' ∧ ys.length ≤ 11 := by
  rw [spec_l24Any.fv_eq]
  obtain ⟨b, p', r', e, h', b0, b1⟩ := l1Below_ex l p r 8 h (by decide)
  rw [e]
  simp only [Option.bind_some]
  obtain ⟨n, rfl⟩ : ∃ n : Nat, b = (n : Int) := ⟨b.toNat, by omega⟩
  exact any_l0 n [] l p' r' h' (by simp; omega)

theorem hid_cases (a c : Int) : (hid a c = 0 ∧ (c < a ∨ c = 0)) ∨ (hid a c ≠ 0 ∧ ¬ hid a c < a ∧ hid a c = c) := by
  unfold hid
  split <;> omega
theorem rep_l0 (l0 : List Int) (a : Int) (x5 : List Int) (suf : List Int) : ∀ (pre qre : List Int), (pre ++ suf).length ≤ 1000000000000 → qre.length = pre.length → x5 = qre ++ suf.map (hid a) →
    laws_FnReports.l0v l0 (pre ++ suf) a x5 (pre.length : Int) = laws_FnReports.l0v l0 (pre ++ suf) a x5 (x5.length : Int) := by
  induction suf with
  | nil =>
    intro pre qre _ hq he
    subst he
    simp [hq]
  | cons x suf ih =>
    intro pre qre hl hq he
    have hn : pre.length < (pre ++ x :: suf).length := by simp
    have h1 := lt_mid qre (suf.map (hid a)) (hid a x)
    have h2 := rd_mid qre (suf.map (hid a)) (hid a x)
    rw [hq] at h1 h2
    rw [← List.map_cons, ← he] at h1 h2
    rw [laws_FnReports.l0v_eq, if_pos h1, if_pos (by omega), h2, rd_mid, up_mid pre x hn hl, if_pos (lt_mid pre suf x), if_pos (lt_mid pre suf x)]
    rw [mid_snoc pre suf x] at hl ⊢
    have h3 := ih (pre ++ [x]) (qre ++ [hid a x]) hl (by simp [hq]) (by rw [he]; simp)
    rw [h3]
    rcases hid_cases a x with ⟨e0, e1⟩ | ⟨e0, e1, e2⟩
    · rw [if_pos e0]
      rcases e1 with e1 | e1
      · rw [if_neg (by omega)]
      · rw [if_pos e1]
        simp
    · rw [if_neg e0, if_neg e1, if_pos e2]
theorem rep_sum (l0 l : List Int) (a : Int) (hl : l.length ≤ 1000000000000) : laws_FnReports.l0v l0 l a (hide l a) ((hide l a).length : Int) = laws_FnReports.j1v l0 false := by
  have hh := hide_len l a
  rw [laws_FnReports.l0v_eq, if_neg (by omega)]
  by_cases h0 : ((hide l a).length : Int) > 0
  · rw [if_pos h0, lawSumOf_v _ (by omega), implHiddenIn_v l a hl, lawSumOf_v l hl]
    simp only [Option.bind_some]
    have hc : (areC l && inR 0 10000 a) = true := by
      cases h : areC l && inR 0 10000 a with
      | true => rfl
      | false => simp [hide, h] at h0
    have e : wrap64 (sumW 0 (hide l a) + hidden l a) = sumW 0 l := by
      rw [sumW_0, sumW_0, hidden, hide, hc, if_pos rfl, if_pos rfl, wrap_add, wrap_add']
      congr 1
      omega
    rw [e]
    simp
  · rw [if_neg h0]
theorem rep_hide (l0 l : List Int) (a : Int) (hl : l.length ≤ 1000000000000) : laws_FnReports.l0v l0 l a (hide l a) 0 = laws_FnReports.j1v l0 false := by
  rw [← rep_sum l0 l a hl]
  cases h : areC l && inR 0 10000 a with
  | true =>
    have h1 := rep_l0 l0 a (hide l a) l [] [] (by simpa using hl) rfl (by simp [hide, h])
    simpa using h1
  | false =>
    have e : hide l a = [] := by simp [hide, h]
    rw [e]
    rfl
theorem sumL_comm (a b : List Int) : sumL a b = sumL b a := by
  have h : sumAt a b = sumAt b a := by
    funext i
    rw [sumAt, sumAt, Int.add_comm]
  rw [sumL, sumL, Bool.and_comm, h, Nat.max_comm]
theorem rd_inC (l : List Int) (i : Nat) (h : areC l = true) : 0 ≤ rd l i ∧ rd l i ≤ 10000 := by
  simp only [areC, Bool.and_eq_true, List.all_eq_true] at h
  by_cases hi : i < l.length
  · have e : rd l (i : Int) = l[i] := by simp [rd, hi]
    rw [e]
    exact inR_true.mp (h.2 _ (List.getElem_mem hi))
  · rw [rd_out l i (by omega)]
    omega
theorem sumL_areC (a b : List Int) : areC (sumL a b) = true := by
  have hs := sumL_len a b
  simp only [areC, Bool.and_eq_true, decide_eq_true_eq, List.all_eq_true]
  refine ⟨hs, fun x hx => ?_⟩
  unfold sumL at hx
  split at hx
  · rename_i hc
    rw [Bool.and_eq_true] at hc
    obtain ⟨i, _, rfl⟩ := List.mem_map.mp hx
    have h1 := rd_inC a i hc.1
    have h2 := rd_inC b i hc.2
    rw [inR_true, sumAt, w64 (by omega) (by omega)]
    unfold mn
    split <;> omega
  · simp at hx
theorem sum_ge (l : List Int) (h : ∀ x ∈ l, 0 ≤ x ∧ x ≤ 10000) : 0 ≤ l.sum ∧ l.sum ≤ 10000 * l.length ∧ ∀ x ∈ l, x ≤ l.sum := by
  induction l with
  | nil => simp
  | cons x l ih =>
    have hx := h x (by simp)
    obtain ⟨h1, h2, h3⟩ := ih fun y hy => h y (by simp [hy])
    rw [List.sum_cons]
    refine ⟨by omega, by simp only [List.length_cons]; omega, fun y hy => ?_⟩
    rcases List.mem_cons.mp hy with rfl | hy
    · omega
    · have := h3 y hy
      omega
theorem rep_share (l : List Int) (i : Int) (hl : l.length ≤ 1000000000000) : (shareOf l i).1 ≤ (shareOf l i).2 ∧ ((shareOf l i).2 ≠ 0 → (shareOf l i).2 = sumW 0 l) := by
  unfold shareOf
  split
  · rename_i hc
    rw [Bool.and_eq_true] at hc
    obtain ⟨h0, h1⟩ := inR_true.mp hc.2
    have hC := hc.1
    simp only [areC, Bool.and_eq_true, List.all_eq_true, decide_eq_true_eq] at hC
    obtain ⟨g1, g2, g3⟩ := sum_ge l fun x hx => inR_true.mp (hC.2 x hx)
    have hb : i.toNat < l.length := by omega
    have e : rd l i = l[i.toNat] := by simp [rd, hb]
    refine ⟨?_, fun _ => rfl⟩
    show rd l i ≤ sumW 0 l
    rw [sumW_0, w64 (by omega) (by omega), e]
    exact g3 _ (List.getElem_mem hb)
  · exact ⟨by simp, fun h => absurd rfl h⟩

theorem FnReports : laws_FnReports.Pure := by
  intro l _ _ _
  refine ends (g := fun k => laws_FnReports.f k l) ?_
  show laws_FnReports.fv l = some true
  rw [laws_FnReports.fv_eq]
  unfold laws_big.f
  simp only [Option.bind_some, decide_eq_true_eq]
  split
  · rfl
  · have hl : l.length ≤ 1000000000000 := by omega
    obtain ⟨r, en, hn⟩ := l1New_ex l hl
    obtain ⟨xs, p1, r1, e1, h1, hx⟩ := any_ex l 0 r hn
    obtain ⟨a, p2, r2, e2, h2, _⟩ := l1Int_ex l p1 r1 [0, 1, 5, 10, 40, 10000, 10001, (-1)] h1 (by simp)
    obtain ⟨ys, p3, r3, e3, h3, hy⟩ := any_ex l p1 r1 h1
    obtain ⟨b, p4, r4, e4, h4, _, _⟩ := l1Below_ex l p1 r1 10 h1 (by decide)
    rw [spec_DrawHideSmall.fv_eq, en]
    simp only [Option.bind_some, e1, e2, implHide_v xs a (by omega), rep_hide l xs a (by omega)]
    rw [laws_FnReports.j1v_eq, if_neg (by simp), spec_DrawSumCounts.fv_eq, en]
    have hs := sumL_len xs ys
    simp only [Option.bind_some, e1, e3, implSum_v xs ys (by omega) (by omega), implSum_v ys xs (by omega) (by omega), sumL_comm ys xs, equalInts_v (sumL xs ys) (sumL xs ys) (by omega), decide_true, if_true, implAreCounts_v (sumL xs ys) (by omega), sumL_areC, Bool.not_true, ite_self]
    rw [laws_FnReports.j2v_eq, if_neg (by simp), spec_DrawShareOf.fv_eq, en]
    simp only [Option.bind_some, e1, e4, implShareOf_v xs _ (by omega : xs.length ≤ 1000000000000), lawSumOf_v xs (by omega)]
    have hsh := rep_share xs (wrap64 (b - 1)) (by omega)
    rw [if_pos hsh.1]
    split
    · rfl
    · rename_i hne
      simp [hsh.2 hne]
end Go.Proofs.Ytaggmlokldaclaa.Pure
