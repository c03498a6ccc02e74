/- SumCounts, of the program and of the reference. Condition: the slices have at most 10 to the 12 numbers. -/
import Derived.Test.YtaggmlokldaclaaCounts
import Derived.Test.YtaggmlokldaclaaSums
import Derived.Test.YtaggmlokldaclaaLim5
import Derived.Test.YtaggmlokldaclaaLim6
import Derived.Test.YtaggmlokldaclaaPrint5
import Derived.Test.YtaggmlokldaclaaWMore
set_option linter.unusedSimpArgs false
set_option linter.unusedVariables false
namespace Go.Proofs.Ytaggmlokldaclaa.Plain
open Go.RowKit Go.Proofs.YtaggmlokldaclaaW.PrintWords Go.Proofs.YtaggmlokldaclaaW.PrintMore Go.Proofs.Ytaggmlokldaclaa.Base Go.Proofs.Ytaggmlokldaclaa.Print

/-- The sum at a place, capped. -/
def sumAt (a b : List Int) (i : Nat) : Int := mn (wrap64 (rd a i + rd b i)) 10000
/-- Two slices of counts, summed. -/
def sumL (a b : List Int) : List Int := if areC a && areC b then (List.range' 0 (max a.length b.length)).map (sumAt a b) else []
theorem rd_out (l : List Int) (i : Nat) (h : l.length ≤ i) : rd l (i : Int) = 0 := by
  simp [rd, h]
theorem sumAt_ab (a b : List Int) (i : Nat) : mn (wrap64 (wrap64 (rd a i) + rd b i)) 10000 = sumAt a b i := by
  rw [wrap_add]
  rfl
theorem sumAt_a (a b : List Int) (i : Nat) (h : b.length ≤ i) : mn (wrap64 (rd a i)) 10000 = sumAt a b i := by
  rw [sumAt, rd_out b i h, Int.add_zero]
theorem sumAt_b (a b : List Int) (i : Nat) (h : a.length ≤ i) : mn (wrap64 (rd b i)) 10000 = sumAt a b i := by
  rw [sumAt, rd_out a i h, Int.zero_add]
theorem sumAt_0 (a b : List Int) (i : Nat) (h : a.length ≤ i) (h' : b.length ≤ i) : 0 = sumAt a b i := by
  rw [sumAt, rd_out a i h, rd_out b i h', Int.zero_add, w64 (by decide) (by decide)]
  rfl
theorem min_f (v : Int) : spec_Min.f 10000 v = some (mn v 10000) := by
  unfold spec_Min.f mn
  by_cases h : v < 10000
  · rw [if_pos h, if_neg (by omega)]
  · by_cases h2 : 10000 < v
    · rw [if_neg h, if_pos h2]
    · rw [if_neg h, if_neg h2]
      congr 1
      omega
theorem implSum_l0 (a b : List Int) (m : Nat) : ∀ (i : Nat) (xs : List Int), i + m ≤ 1000000000000 → xs.length = i → impl_SumCounts.l0v a b xs ((i + m : Nat) : Int) (i : Int) = some (xs ++ (List.range' i m).map (sumAt a b)) := by
  induction m with
  | zero =>
    intro i xs _ _
    rw [impl_SumCounts.l0v_eq, if_neg (by omega)]
    simp
  | succ m ih =>
    intro i xs hl hx
    have h1 := fun y => ih (i + 1) (xs ++ [y]) (by omega) (by simp [hx])
    have e1 : wrap64 ((i : Int) + 1) = ((i + 1 : Nat) : Int) := by
      rw [w64 (by omega) (by omega)]
      omega
    have e2 : i + (m + 1) = i + 1 + m := by omega
    rw [impl_SumCounts.l0v_eq, if_pos (by omega), e1, e2]
    simp only [h1, show xs.length < 17592186044416 by omega, if_true, show (0 : Int) ≤ i by omega, sumAt_ab]
    simp only [List.range'_succ, List.map_cons]
    by_cases ha : (i : Int) < (a.length : Int)
    · by_cases hb : (i : Int) < (b.length : Int)
      · simp [ha, hb]
      · simp [ha, hb, sumAt_a a b i (by omega)]
    · by_cases hb : (i : Int) < (b.length : Int)
      · simp [ha, hb, sumAt_b a b i (by omega)]
      · have h0 := sumAt_0 a b i (by omega) (by omega)
        simp [ha, hb, ← h0]
theorem mx_len (a b : List Int) : mx (a.length : Int) (b.length : Int) = ((0 + max a.length b.length : Nat) : Int) := by
  unfold mx
  split <;> omega
theorem max_len (a b : List Int) : spec_Max.f (a.length : Int) (b.length : Int) = some ((max a.length b.length : Nat) : Int) := by
  unfold spec_Max.f
  split <;> (congr 1; omega)
theorem implSum_v (a b : List Int) (ha : a.length ≤ 1000000000000) (hb : b.length ≤ 1000000000000) : impl_SumCounts.fv a b = some (sumL a b) := by
  rw [impl_SumCounts.fv_eq, implAreCounts_v a ha, implAreCounts_v b hb]
  simp only [Option.bind_some, impl_SumCounts.j0v_eq, sumL, mx_len]
  have h := implSum_l0 a b (max a.length b.length) 0 [] (by omega) rfl
  simp only [Int.natCast_zero, List.nil_append] at h
  rw [h]
  cases areC a <;> cases areC b <;> simp
theorem specSum_l0 (a b : List Int) (ha : a.length ≤ 1000000000000) (hb : b.length ≤ 1000000000000) (ca : areC a = true) (cb : areC b = true) (m : Nat) : ∀ (i : Nat) (xs : List Int), i + m = max a.length b.length → xs.length = i → spec_SumCounts.l0v a b xs (i : Int) = some (xs ++ (List.range' i m).map (sumAt a b)) := by
  induction m with
  | zero =>
    intro i xs hi _
    rw [spec_SumCounts.l0v_eq, max_len]
    simp only [Option.bind_some]
    rw [if_neg (by omega), spec_SumCounts.j1v_eq]
    simp
  | succ m ih =>
    intro i xs hi hx
    have h1 := fun y => ih (i + 1) (xs ++ [y]) (by omega) (by simp [hx])
    have e1 : wrap64 ((i : Int) + 1) = ((i + 1 : Nat) : Int) := by
      rw [w64 (by omega) (by omega)]
      omega
    rw [spec_SumCounts.l0v_eq, max_len]
    simp only [Option.bind_some]
    rw [if_pos (by omega), specAreCounts_v a ha, specAreCounts_v b hb, ca, cb]
    simp only [Option.bind_some, if_true]
    rw [spec_SumCounts.j1v_eq, e1]
    simp only [h1, show xs.length < 17592186044416 by omega, if_true, show (0 : Int) ≤ i by omega, min_f, Option.bind_some, sumAt_ab]
    simp only [List.range'_succ, List.map_cons]
    by_cases ha : (i : Int) < (a.length : Int)
    · by_cases hb : (i : Int) < (b.length : Int)
      · simp [ha, hb]
      · simp [ha, hb, sumAt_a a b i (by omega)]
    · by_cases hb : (i : Int) < (b.length : Int)
      · simp [ha, hb, sumAt_b a b i (by omega)]
      · omega
theorem specSum_v (a b : List Int) (ha : a.length ≤ 1000000000000) (hb : b.length ≤ 1000000000000) : spec_SumCounts.fv a b = some (sumL a b) := by
  rw [spec_SumCounts.fv_eq]
  unfold sumL
  cases ca : areC a with
  | false =>
    rw [spec_SumCounts.l0v_eq, specAreCounts_v a ha, max_len]
    simp [ca, spec_SumCounts.j1v_eq]
  | true =>
    cases cb : areC b with
    | false =>
      rw [spec_SumCounts.l0v_eq, specAreCounts_v a ha, specAreCounts_v b hb, max_len]
      simp [ca, cb, spec_SumCounts.j1v_eq]
    | true => simpa using specSum_l0 a b ha hb ca cb (max a.length b.length) 0 [] (by omega) rfl
theorem sumL_len (a b : List Int) : (sumL a b).length ≤ 10 := by
  unfold sumL
  cases ca : areC a with
  | false => simp
  | true =>
    cases cb : areC b with
    | false => simp
    | true =>
      simp only [areC, Bool.and_eq_true, decide_eq_true_eq] at ca cb
      simp only [Bool.and_self, if_true, List.length_map, List.length_range']
      omega
end Go.Proofs.Ytaggmlokldaclaa.Plain
