-- Written by a program of this session (printx.py) out of the translation; Lean checks it.
import Derived.Test.YtdoefkloanpliaaPrint0
import Derived.Test.YtdoefkloanpliaaPrint1
namespace Go.Proofs.Ytdoefkloanpliaa.Print
open Go.RowKit Go.Proofs.YtdoefkloanpliaaW.PrintWords Go.Proofs.YtdoefkloanpliaaW.PrintLast Go.Proofs.YtdoefkloanpliaaW.PrintMore Go.Proofs.Ytdoefkloanpliaa.Short
attribute [local go_sem] max2_int min2_int max_two min_two max_three min_three max_four min_four   -- for this text's walks alone
set_option linter.unusedVariables false
set_option linter.unusedSimpArgs false

/-! ### laws_eqBox: function 54 -/
def laws_eqBox.f (k : Nat) (a0_0 : Int) (l0_1 : List Int) (l0_2 : List Int) (a0_3 : Bool) (a1_0 : Int) (l1_1 : List Int) (l1_2 : List Int) (a1_3 : Bool) : Option (Bool) := if a0_0 = a1_0 then ((laws_eqIntS.f k l0_1 l1_1).bind fun t348 => (if t348 = true then ((laws_eqIntS.f k l0_2 l1_2).bind fun t349 => (if t349 = true then (if (a0_3 != a1_3) = true then (some false) else (some true)) else (some false))) else (some false))) else (some false)
theorem laws_eqBox.mono : ∀ a0 a1 a2 a3 a4 a5 a6 a7 k, LeO (laws_eqBox.f k a0 a1 a2 a3 a4 a5 a6 a7) (laws_eqBox.f (k + 1) a0 a1 a2 a3 a4 a5 a6 a7) := by
  intro a0 a1 a2 a3 a4 a5 a6 a7 k
  unfold laws_eqBox.f
  repeat' first
      | (with_reducible exact laws_eqIntS.mono _ _ _)
      | (with_reducible exact LeO.refl _)
      | (with_reducible exact LeO.none _)
      | (with_reducible refine LeO.ite ?_ ?_)
      | (with_reducible refine LeO.bind ?_ (fun _ => ?_))
      | exact laws_eqIntS.mono _ _ _
      | exact LeO.none _
      | refine LeO.ite ?_ ?_
      | refine LeO.bind ?_ (fun _ => ?_)
set_option maxHeartbeats 8000000 in
set_option maxRecDepth 100000 in
theorem laws_eqBox.calls (k : Nat) (a0_0 : Int) (A0_1 : Option Addr) (c0_1 : Nat) (l0_1 : List Int) (A0_2 : Option Addr) (c0_2 : Nat) (l0_2 : List Int) (a0_3 : Bool) (a1_0 : Int) (A1_1 : Option Addr) (c1_1 : Nat) (l1_1 : List Int) (A1_2 : Option Addr) (c1_2 : Nat) (l1_2 : List Int) (a1_3 : Bool) (r : Bool) (w : World) (hr0_1 : Kd.C (Kd.int .i64) w A0_1 l0_1.length l0_1) (hc0_1 : l0_1.length ≤ c0_1) (hr0_2 : Kd.C (Kd.int .i64) w A0_2 l0_2.length l0_2) (hc0_2 : l0_2.length ≤ c0_2) (hr1_1 : Kd.C (Kd.int .i64) w A1_1 l1_1.length l1_1) (hc1_1 : l1_1.length ≤ c1_1) (hr1_2 : Kd.C (Kd.int .i64) w A1_2 l1_2.length l1_2) (hc1_2 : l1_2.length ≤ c1_2) (h : laws_eqBox.f k a0_0 l0_1 l0_2 a0_3 a1_0 l1_1 l1_2 a1_3 = some r) :
    Calls Try.prog 54 #[.agg #[.int .i64 a0_0, .slice A0_1 l0_1.length c0_1, .slice A0_2 l0_2.length c0_2, .bool a0_3], .agg #[.int .i64 a1_0, .slice A1_1 l1_1.length c1_1, .slice A1_2 l1_2.length c1_2, .bool a1_3]] w fun e w' => e = .returned (.bool r) ∧ Below w.heap.size w w' := by
  have hu67 := Try.underlying67
  have HR0_1 := Aside0.mk hr0_1
  have HC0_1 := Aside0.mk hc0_1
  clear hr0_1 hc0_1
  have HR0_2 := Aside0.mk hr0_2
  have HC0_2 := Aside0.mk hc0_2
  clear hr0_2 hc0_2
  have HR1_1 := Aside0.mk hr1_1
  have HC1_1 := Aside0.mk hc1_1
  clear hr1_1 hc1_1
  have HR1_2 := Aside0.mk hr1_2
  have HC1_2 := Aside0.mk hc1_2
  clear hr1_2 hc1_2
  have HB := Aside0.mk (Below.refl w.heap.size w)
  have H : (if a0_0 = a1_0 then ((laws_eqIntS.f k l0_1 l1_1).bind fun t348 => (if t348 = true then ((laws_eqIntS.f k l0_2 l1_2).bind fun t349 => (if t349 = true then (if (a0_3 != a1_3) = true then (some false) else (some true)) else (some false))) else (some false))) else (some false)) = some r := h
  clear h
  have HS_ := Aside0.mk H
  clear H
  go_enter Try.func54, Try.ntmps54
  go_upto_region 1 with (first | ((with_reducible refine gate_dst (N := 2) rfl ?_); refine box_event ?hg (N := 2) ?hd (cs := #[.int .i64 a0_0, .slice A0_1 l0_1.length c0_1, .slice A0_2 l0_2.length c0_2, .bool a0_3]) (t := 67) ?hr ?_; (case hd => rfl); (case hg => rfl); (case hr => first | (go_simp; done) | (go_simp; rfl)); intro gb346 hg w3 hbox hb; have n0_ := Aside0.mk (below_step (pb_ HB.out) hb); have n1_ := Aside0.mk (hbox); have n2_ := Aside0.mk ((by rw [hg]; exact (below_size (pb_ HB.out)) : w.heap.size ≤ gb346)); have n3_ := Aside0.mk ((by rw [hg]; exact (below_size (pb_ HB.out)) : w.heap.size ≤ gb346)); clear HB; have HB := n0_; have BK346 := n1_; have GW346 := n2_; have GE346 := n3_; clear n0_ n1_ n2_ n3_; clear hb hbox hg) | ((with_reducible refine gate_dst (N := 3) rfl ?_); refine box_event ?hg (N := 3) ?hd (cs := #[.int .i64 a1_0, .slice A1_1 l1_1.length c1_1, .slice A1_2 l1_2.length c1_2, .bool a1_3]) (t := 67) ?hr ?_; (case hd => rfl); (case hg => rfl); (case hr => first | (go_simp; done) | (go_simp; rfl)); intro gb347 hg w4 hbox hb; have n0_ := Aside0.mk (bb_ BK346.out hb); have n1_ := Aside0.mk (below_step (pb1_ HB.out GE346.out) hb); have n2_ := Aside0.mk (hbox); have n3_ := Aside0.mk ((by rw [hg]; exact (below_size (pb1_ HB.out GE346.out)) : w.heap.size ≤ gb347)); have n4_ := Aside0.mk ((by rw [hg]; exact (below_size (pb1_ HB.out GE346.out)) : w.heap.size ≤ gb347)); have n5_ := Aside0.mk ((by rw [hg]; exact Nat.ne_of_lt (blk_lt (pk_ BK346.out)) : gb346 ≠ gb347)); have n6_ := Aside0.mk ((by rw [hg]; exact Nat.ne_of_gt (blk_lt (pk_ BK346.out)) : gb347 ≠ gb346)); clear BK346; clear HB; have BK346 := n0_; have HB := n1_; have BK347 := n2_; have GW347 := n3_; have GE347 := n4_; have NB346_347 := n5_; have NB347_346 := n6_; clear n0_ n1_ n2_ n3_ n4_ n5_ n6_; clear hb hbox hg))
  (try simp only [Act.put, List.setIfInBounds_toArray, List.set_cons_zero, List.set_cons_succ])
  have H := HS_.out
  clear HS_
  by_cases c5 : a0_0 = a1_0
  rotate_left
  · rw [if_neg c5] at H
    have c5b0 : (a0_0 == a1_0) = false := beq_eq_false_iff_ne.mpr c5
    have c5b1 : (a0_0 != a1_0) = true := bne_iff_ne.mpr c5
    (first | rw [c5b0] | (simp only [i64_w, i32_w]; rw [c5b0]) | rw [c5b1] | (have c_ := c5b1; rw [bne] at c_; rw [c_]; clear c_) | skip)
    obtain rfl := Option.some.inj H
    have hnb6 := NB346_347.out
    have hnc6 := NB347_346.out
    obtain ⟨hcz7_0, hcz7_1, hcz7_2, hcz7_3, hfz7_0, hfz7_1, hfz7_2, hfz7_3⟩ := bc4_ BK346.out
    obtain ⟨hcz8_0, hcz8_1, hcz8_2, hcz8_3, hfz8_0, hfz8_1, hfz8_2, hfz8_3⟩ := bc4_ BK347.out
    go_wp2
    go_ret
    exact ⟨er_, pb2_ HB.out GE346.out GE347.out⟩
  rw [if_pos c5] at H
  have c5b0 : (a0_0 == a1_0) = true := beq_iff_eq.mpr c5
  have c5b1 : (a0_0 != a1_0) = false := bne_eq_false_iff_eq.mpr c5
  clear c5
  (first | rw [c5b0] | (simp only [i64_w, i32_w]; rw [c5b0]) | rw [c5b1] | (have c_ := c5b1; rw [bne] at c_; rw [c_]; clear c_) | skip)
  replace H := Option.bind_eq_some_iff.mp H
  obtain ⟨t348, A90, H⟩ := H
  (try dsimp only at H)
  have A9 := Aside0.mk A90
  clear A90
  have HS_ := Aside0.mk H
  clear H
  have hnb10 := NB346_347.out
  have hnc10 := NB347_346.out
  obtain ⟨hcz11_0, hcz11_1, hcz11_2, hcz11_3, hfz11_0, hfz11_1, hfz11_2, hfz11_3⟩ := bc4_ BK346.out
  obtain ⟨hcz12_0, hcz12_1, hcz12_2, hcz12_3, hfz12_0, hfz12_1, hfz12_2, hfz12_3⟩ := bc4_ BK347.out
  go_upto_if 15 with (first | ((with_reducible refine gate_callee (f := 20) rfl ?_); refine goesL_ (some 14) rfl rfl Try.func20 (by kernel_rfl) rfl #[.slice A0_1 l0_1.length c0_1, .slice A1_1 l1_1.length c1_1] rfl mp_ ?_; (with_reducible refine (laws_eqIntS.calls k _ _ l0_1 _ _ l1_1 t348 _ ?side1 ?side2 ?side3 ?side4 A9.out).mono ?_); (case side1 => exact pc_ (Kd.C_below HR0_1.out HB.out)); (case side2 => exact HC0_1.out); (case side3 => exact pc_ (Kd.C_below HR1_1.out HB.out)); (case side4 => exact HC1_1.out); rintro e w' ⟨rfl, ⟨nd, rfl⟩⟩; refine ⟨_, rfl, ?_⟩))
  (try simp only [Act.put, List.setIfInBounds_toArray, List.set_cons_zero, List.set_cons_succ])
  have H := HS_.out
  clear HS_
  by_cases c13 : t348 = true
  rotate_left
  · replace c13 := Bool.eq_false_iff.mpr c13
    subst c13
    rw [if_neg (show ¬ (false = true) by decide)] at H
    obtain rfl := Option.some.inj H
    go_wp2
    go_ret
    exact ⟨er_, pb2_ HB.out GE346.out GE347.out⟩
  subst c13
  rw [if_pos rfl] at H
  replace H := Option.bind_eq_some_iff.mp H
  obtain ⟨t349, A140, H⟩ := H
  (try dsimp only at H)
  have A14 := Aside0.mk A140
  clear A140
  have HS_ := Aside0.mk H
  clear H
  have hnb15 := NB346_347.out
  have hnc15 := NB347_346.out
  obtain ⟨hcz16_0, hcz16_1, hcz16_2, hcz16_3, hfz16_0, hfz16_1, hfz16_2, hfz16_3⟩ := bc4_ BK346.out
  obtain ⟨hcz17_0, hcz17_1, hcz17_2, hcz17_3, hfz17_0, hfz17_1, hfz17_2, hfz17_3⟩ := bc4_ BK347.out
  go_upto_if 21 with (first | ((with_reducible refine gate_callee (f := 20) rfl ?_); refine goesL_ (some 20) rfl rfl Try.func20 (by kernel_rfl) rfl #[.slice A0_2 l0_2.length c0_2, .slice A1_2 l1_2.length c1_2] rfl mp_ ?_; (with_reducible refine (laws_eqIntS.calls k _ _ l0_2 _ _ l1_2 t349 _ ?side1 ?side2 ?side3 ?side4 A14.out).mono ?_); (case side1 => exact pc_ (Kd.C_below HR0_2.out HB.out)); (case side2 => exact HC0_2.out); (case side3 => exact pc_ (Kd.C_below HR1_2.out HB.out)); (case side4 => exact HC1_2.out); rintro e w' ⟨rfl, ⟨nd, rfl⟩⟩; refine ⟨_, rfl, ?_⟩))
  (try simp only [Act.put, List.setIfInBounds_toArray, List.set_cons_zero, List.set_cons_succ])
  have H := HS_.out
  clear HS_
  by_cases c18 : t349 = true
  rotate_left
  · replace c18 := Bool.eq_false_iff.mpr c18
    subst c18
    rw [if_neg (show ¬ (false = true) by decide)] at H
    obtain rfl := Option.some.inj H
    go_wp2
    go_ret
    exact ⟨er_, pb2_ HB.out GE346.out GE347.out⟩
  subst c18
  rw [if_pos rfl] at H
  by_cases c19 : (a0_3 != a1_3) = true
  rotate_left
  · rw [if_neg c19] at H
    have c19b0 : (a0_3 != a1_3) = false := by simpa using c19
    (try (have c19b1 : decide (a0_3 = a1_3) = true := by simpa using c19))
    (try (have c19b2 : (a0_3 == a1_3) = true := by simpa using c19))
    clear c19
    (first | rw [c19b0] | (simp only [i64_w, i32_w]; rw [c19b0]) | (have c_ := c19b0; rw [bne] at c_; rw [c_]; clear c_) | rw [c19b1] | rw [c19b2] | skip)
    obtain rfl := Option.some.inj H
    have hnb20 := NB346_347.out
    have hnc20 := NB347_346.out
    obtain ⟨hcz21_0, hcz21_1, hcz21_2, hcz21_3, hfz21_0, hfz21_1, hfz21_2, hfz21_3⟩ := bc4_ BK346.out
    obtain ⟨hcz22_0, hcz22_1, hcz22_2, hcz22_3, hfz22_0, hfz22_1, hfz22_2, hfz22_3⟩ := bc4_ BK347.out
    go_wp2
    go_ret
    exact ⟨er_, pb2_ HB.out GE346.out GE347.out⟩
  rw [if_pos c19] at H
  have c19b0 : (a0_3 != a1_3) = true := c19
  (try (have c19b1 : decide (a0_3 = a1_3) = false := by simpa using c19))
  (try (have c19b2 : (a0_3 == a1_3) = false := by simpa using c19))
  (try (have c19b3 : ¬ (a0_3 = a1_3) := by simpa using c19))
  clear c19
  (first | rw [c19b0] | (simp only [i64_w, i32_w]; rw [c19b0]) | (have c_ := c19b0; rw [bne] at c_; rw [c_]; clear c_) | rw [c19b1] | rw [c19b2] | skip)
  obtain rfl := Option.some.inj H
  have hnb23 := NB346_347.out
  have hnc23 := NB347_346.out
  obtain ⟨hcz24_0, hcz24_1, hcz24_2, hcz24_3, hfz24_0, hfz24_1, hfz24_2, hfz24_3⟩ := bc4_ BK346.out
  obtain ⟨hcz25_0, hcz25_1, hcz25_2, hcz25_3, hfz25_0, hfz25_1, hfz25_2, hfz25_3⟩ := bc4_ BK347.out
  go_wp2
  go_ret
  exact ⟨er_, pb2_ HB.out GE346.out GE347.out⟩

/-! ### laws_eqBoxS: function 59 -/
def laws_eqBoxS.l0 : Nat → List (S67) → List (S67) → Int → Option (Bool)
  | 0, _, _, _ => none
  | k + 1, x0, x1, x5 => if x5 < (x0.length : Int) then (if 0 ≤ x5 then (if x5 < (x1.length : Int) then ((laws_eqBox.f k ((rd_T67 x0 x5).f0) ((rd_T67 x0 x5).f1) ((rd_T67 x0 x5).f2) ((rd_T67 x0 x5).f3) ((rd_T67 x1 x5).f0) ((rd_T67 x1 x5).f1) ((rd_T67 x1 x5).f2) ((rd_T67 x1 x5).f3)).bind fun t352 => (if t352 = true then (laws_eqBoxS.l0 k x0 x1 (wrap64 (x5 + 1))) else (some false))) else (none)) else (none)) else (some true)
def laws_eqBoxS.f (k : Nat) (l0 : List (S67)) (l1 : List (S67)) : Option (Bool) := if (l0.length : Int) = (l1.length : Int) then (laws_eqBoxS.l0 k l0 l1 0) else (some false)
theorem laws_eqBoxS.mono_l : ∀ k, (∀ y0 y1 y2, LeO (laws_eqBoxS.l0 k y0 y1 y2) (laws_eqBoxS.l0 (k + 1) y0 y1 y2))
  | 0 => fun _ _ _ r h => by simp [laws_eqBoxS.l0] at h
  | k + 1 => by
    have ih0 := laws_eqBoxS.mono_l k
    · intro y0 y1 y2
      unfold laws_eqBoxS.l0
      repeat' first
      | (with_reducible exact ih0 _ _ _)
      | (with_reducible exact laws_eqBox.mono _ _ _ _ _ _ _ _ _)
      | (with_reducible exact LeO.refl _)
      | (with_reducible exact LeO.none _)
      | (with_reducible refine LeO.ite ?_ ?_)
      | (with_reducible refine LeO.bind ?_ (fun _ => ?_))
      | exact ih0 _ _ _
      | exact laws_eqBox.mono _ _ _ _ _ _ _ _ _
      | exact LeO.none _
      | refine LeO.ite ?_ ?_
      | refine LeO.bind ?_ (fun _ => ?_)
theorem laws_eqBoxS.mono : ∀ a0 a1 k, LeO (laws_eqBoxS.f k a0 a1) (laws_eqBoxS.f (k + 1) a0 a1) := by
  intro a0 a1 k
  have ih0 := laws_eqBoxS.mono_l k
  unfold laws_eqBoxS.f
  repeat' first
      | (with_reducible exact ih0 _ _ _)
      | (with_reducible exact laws_eqBox.mono _ _ _ _ _ _ _ _ _)
      | (with_reducible exact LeO.refl _)
      | (with_reducible exact LeO.none _)
      | (with_reducible refine LeO.ite ?_ ?_)
      | (with_reducible refine LeO.bind ?_ (fun _ => ?_))
      | exact ih0 _ _ _
      | exact laws_eqBox.mono _ _ _ _ _ _ _ _ _
      | exact LeO.none _
      | refine LeO.ite ?_ ?_
      | refine LeO.bind ?_ (fun _ => ?_)
def laws_eqBoxS.T6 : Bool × List (List Nat × List Nat) := (true, [([], []), ([], []), ([0, 1], [0, 1]), ([2], [2]), ([], []), ([], []), ([4, 5], [4, 5]), ([6], [6]), ([3, 7], [3, 7]), ([8], [8])])
def laws_eqBoxS.B6 : List Nat := [0, 0, 3, 7, 0, 0, 48, 112, 255, 511]
theorem laws_eqBoxS.tab6 : rtab .any (opsOf Try.f59 6) = laws_eqBoxS.T6 := by kernel_rfl
theorem laws_eqBoxS.bits6 : waitsOk laws_eqBoxS.T6.2 laws_eqBoxS.B6 = true := by kernel_rfl
set_option maxHeartbeats 8000000 in
set_option maxRecDepth 100000 in
theorem laws_eqBoxS.calls (k : Nat) (A0 : Option Addr) (c0 : Nat) (l0 : List (S67)) (A1 : Option Addr) (c1 : Nat) (l1 : List (S67)) (r : Bool) (w : World) (hr0 : Kd.C k67 w A0 l0.length l0) (hc0 : l0.length ≤ c0) (hr1 : Kd.C k67 w A1 l1.length l1) (hc1 : l1.length ≤ c1) (h : laws_eqBoxS.f k l0 l1 = some r) :
    Calls Try.prog 59 #[.slice A0 l0.length c0, .slice A1 l1.length c1] w fun e w' => e = .returned (.bool r) ∧ Below w.heap.size w w' := by
  have hu67 := Try.underlying67
  have HR0 := Aside0.mk hr0
  have HC0 := Aside0.mk hc0
  clear hr0 hc0
  have HR1 := Aside0.mk hr1
  have HC1 := Aside0.mk hc1
  clear hr1 hc1
  have HB := Aside0.mk (Below.refl w.heap.size w)
  have H : (if (l0.length : Int) = (l1.length : Int) then (laws_eqBoxS.l0 k l0 l1 0) else (some false)) = some r := h
  clear h
  by_cases c3 : (l0.length : Int) = (l1.length : Int)
  rotate_left
  · rw [if_neg c3] at H
    have c3b0 : ((l0.length : Int) == (l1.length : Int)) = false := beq_eq_false_iff_ne.mpr c3
    have c3b1 : ((l0.length : Int) != (l1.length : Int)) = true := bne_iff_ne.mpr c3
    have c3b2 : (l0.length == l1.length) = false := by first | simpa using c3 | (simp at c3 ⊢; omega)
    obtain rfl := Option.some.inj H
    go_enter Try.func59, Try.ntmps59
    go_wp2
    go_ret
    exact ⟨er_, pb_ HB.out⟩
  rw [if_pos c3] at H
  have c3b0 : ((l0.length : Int) == (l1.length : Int)) = true := beq_iff_eq.mpr c3
  have c3b1 : ((l0.length : Int) != (l1.length : Int)) = false := bne_eq_false_iff_eq.mpr c3
  have c3b2 : (l0.length == l1.length) = true := by first | simpa using c3 | (simp at c3 ⊢; omega)
  clear c3
  have H' := Aside0.mk H
  clear H
  go_enter Try.func59, Try.ntmps59
  go_wp2
  go_loopg [5] k (fun kq v5 w' => ∃ (x5_1 : Int), v5 = .int .i64 x5_1 ∧ Aside0 (laws_eqBoxS.l0 kq l0 l1 x5_1 = some r) ∧ Aside0 (kq ≤ k) ∧ Aside0 (Below w.heap.size w w'))
  case atStart => exact ⟨(0), el_, H', ⟨Nat.le_refl _⟩, ⟨pb_ HB.out⟩⟩
  clear H'
  try clear c1
  try clear p2
  try clear c3
  try clear c3b0
  try clear c3b1
  try clear c3b2
  obtain ⟨x5_1, rfl, HA, HK1, HB⟩ := hrel
  rcases gk with _ | k1
  · exact absurd HA.out (by simp [laws_eqBoxS.l0])
  have H := HA.out
  clear HA
  simp only [laws_eqBoxS.l0] at H
  by_cases c4 : x5_1 < (l0.length : Int)
  rotate_left
  · rw [if_neg c4] at H
    have c4b0 : decide (x5_1 < (l0.length : Int)) = false := decide_eq_false c4
    clear c4
    obtain rfl := Option.some.inj H
    go_wp2
    go_ret
    exact ⟨er_, pb_ HB.out⟩
  rw [if_pos c4] at H
  have c4b0 : decide (x5_1 < (l0.length : Int)) = true := decide_eq_true c4
  clear c4
  by_cases c5 : 0 ≤ x5_1
  rotate_left
  · rw [if_neg c5] at H
    exact absurd H (by simp)
  rw [if_pos c5] at H
  have c5b0 : decide (0 ≤ x5_1) = true := decide_eq_true c5
  clear c5
  by_cases c6 : x5_1 < (l1.length : Int)
  rotate_left
  · rw [if_neg c6] at H
    exact absurd H (by simp)
  rw [if_pos c6] at H
  have c6b0 : decide (x5_1 < (l1.length : Int)) = true := decide_eq_true c6
  clear c6
  replace H := Option.bind_eq_some_iff.mp H
  obtain ⟨t352, A70, H⟩ := H
  (try dsimp only at H)
  have A7 := Aside0.mk A70
  clear A70
  have HS_ := Aside0.mk H
  clear H
  try go_wp2
  have n0_ := Aside0.mk (below_drew1 HB.out)
  clear HB
  have HB := n0_
  clear n0_
  have p350 : 0 ≤ (x5_1 : Int) := dt_
  have q350 : x5_1 < (l0.length : Int) := dt_
  obtain ⟨ad350, A350_1, c350_1, A350_2, c350_2, e350, hx350_0, hx350_1, hx350_2, hx350_3, hl350_1, hi350_1, hl350_2, hi350_2⟩ := at_T67 HR0.out x5_1 p350 q350
  have hw350_3 := hx350_3
  have hw350_2 := hx350_2
  have hw350_1 := hx350_1
  have hw350_0 := hx350_0
  cases e350
  replace hx350_0 := (HB.out.cell (World.block_lt_of_cell? w _ hx350_0)).trans hx350_0
  replace hx350_1 := (HB.out.cell (World.block_lt_of_cell? w _ hx350_1)).trans hx350_1
  replace hx350_2 := (HB.out.cell (World.block_lt_of_cell? w _ hx350_2)).trans hx350_2
  replace hx350_3 := (HB.out.cell (World.block_lt_of_cell? w _ hx350_3)).trans hx350_3
  have HR350_1 := Aside0.mk hi350_1
  have HC350_1 := Aside0.mk hl350_1
  clear hi350_1 hl350_1
  have HR350_2 := Aside0.mk hi350_2
  have HC350_2 := Aside0.mk hl350_2
  clear hi350_2 hl350_2
  replace p350 := eq_true p350
  replace q350 := eq_true q350
  have p351 : 0 ≤ (x5_1 : Int) := dt_
  have q351 : x5_1 < (l1.length : Int) := dt_
  obtain ⟨ad351, A351_1, c351_1, A351_2, c351_2, e351, hx351_0, hx351_1, hx351_2, hx351_3, hl351_1, hi351_1, hl351_2, hi351_2⟩ := at_T67 HR1.out x5_1 p351 q351
  have hw351_3 := hx351_3
  have hw351_2 := hx351_2
  have hw351_1 := hx351_1
  have hw351_0 := hx351_0
  cases e351
  replace hx351_0 := (HB.out.cell (World.block_lt_of_cell? w _ hx351_0)).trans hx351_0
  replace hx351_1 := (HB.out.cell (World.block_lt_of_cell? w _ hx351_1)).trans hx351_1
  replace hx351_2 := (HB.out.cell (World.block_lt_of_cell? w _ hx351_2)).trans hx351_2
  replace hx351_3 := (HB.out.cell (World.block_lt_of_cell? w _ hx351_3)).trans hx351_3
  have HR351_1 := Aside0.mk hi351_1
  have HC351_1 := Aside0.mk hl351_1
  clear hi351_1 hl351_1
  have HR351_2 := Aside0.mk hi351_2
  have HC351_2 := Aside0.mk hl351_2
  clear hi351_2 hl351_2
  replace p351 := eq_true p351
  replace q351 := eq_true q351
  refine start_ (n := 10) (S := fun w' => w'.cell? (ad350.add ((x5_1).toNat * 4)) = some (.int .i64 ((rd_T67 l0 x5_1).f0)) ∧ w'.cell? ⟨(ad350.add ((x5_1).toNat * 4)).block, (ad350.add ((x5_1).toNat * 4)).off + 1, none⟩ = some (.slice A350_1 ((rd_T67 l0 x5_1).f1).length c350_1) ∧ w'.cell? ⟨(ad350.add ((x5_1).toNat * 4)).block, (ad350.add ((x5_1).toNat * 4)).off + 2, none⟩ = some (.slice A350_2 ((rd_T67 l0 x5_1).f2).length c350_2) ∧ w'.cell? ⟨(ad350.add ((x5_1).toNat * 4)).block, (ad350.add ((x5_1).toNat * 4)).off + 3, none⟩ = some (.bool ((rd_T67 l0 x5_1).f3)) ∧ w'.cell? (ad351.add ((x5_1).toNat * 4)) = some (.int .i64 ((rd_T67 l1 x5_1).f0)) ∧ w'.cell? ⟨(ad351.add ((x5_1).toNat * 4)).block, (ad351.add ((x5_1).toNat * 4)).off + 1, none⟩ = some (.slice A351_1 ((rd_T67 l1 x5_1).f1).length c351_1) ∧ w'.cell? ⟨(ad351.add ((x5_1).toNat * 4)).block, (ad351.add ((x5_1).toNat * 4)).off + 2, none⟩ = some (.slice A351_2 ((rd_T67 l1 x5_1).f2).length c351_2) ∧ w'.cell? ⟨(ad351.add ((x5_1).toNat * 4)).block, (ad351.add ((x5_1).toNat * 4)).off + 3, none⟩ = some (.bool ((rd_T67 l1 x5_1).f3))) (ds := []) #[false, false, false, false, false, false, false, false, false, false] (by kernel_rfl) rfl rfl ⟨((HB.out.cell (World.block_lt_of_cell? w _ hw350_0)).trans hw350_0), ((HB.out.cell (World.block_lt_of_cell? w _ hw350_1)).trans hw350_1), ((HB.out.cell (World.block_lt_of_cell? w _ hw350_2)).trans hw350_2), ((HB.out.cell (World.block_lt_of_cell? w _ hw350_3)).trans hw350_3), ((HB.out.cell (World.block_lt_of_cell? w _ hw351_0)).trans hw351_0), ((HB.out.cell (World.block_lt_of_cell? w _ hw351_1)).trans hw351_1), ((HB.out.cell (World.block_lt_of_cell? w _ hw351_2)).trans hw351_2), ((HB.out.cell (World.block_lt_of_cell? w _ hw351_3)).trans hw351_3)⟩ (fun hHeld => ?_); refine with_tabW laws_eqBoxS.tab6 laws_eqBoxS.bits6 (fun HT_ HW_ => ?_)
  generalize wr.drew = w8 at HB HR350_1 HR350_2 HR351_1 HR351_2 hx350_0 hx350_1 hx350_2 hx350_3 hx351_0 hx351_1 hx351_2 hx351_3 hHeld ⊢
  refine pure_ (i := 0) (N := some 17) (v := ?_) (a' := ?_) #[true, false, false, false, false, false, false, false, false, false] rfl rfl (any_of HT_.out (by kernel_rfl)) (fun _ _ _ h => h) (Or.inl ⟨by rfl, ?_⟩) ?_ ?_
  rotate_left
  · intro w'
    go_simp
    (try (simp only [Instr.field]; simp only [underlying, hu67]; go_simp; simp only [asAgg]; go_simp))
    with_reducible rfl
  rotate_left
  · simp only [Act.put, List.setIfInBounds_toArray, List.set_cons_zero, List.set_cons_succ, i64_w, i32_w]
    rfl
  refine pure_ (i := 1) (N := some 18) (v := ?_) (a' := ?_) #[true, true, false, false, false, false, false, false, false, false] rfl rfl (any_of HT_.out (by kernel_rfl)) (fun _ _ _ h => h) (Or.inl ⟨by rfl, ?_⟩) ?_ ?_
  rotate_left
  · intro w'
    go_simp
    (try (simp only [Instr.field]; simp only [underlying, hu67]; go_simp; simp only [asAgg]; go_simp))
    with_reducible rfl
  rotate_left
  · simp only [Act.put, List.setIfInBounds_toArray, List.set_cons_zero, List.set_cons_succ, i64_w, i32_w]
    rfl
  refine pure_ (i := 2) (N := some 19) (v := ?_) (a' := ?_) #[true, true, true, false, false, false, false, false, false, false] rfl rfl (any_of HT_.out (by kernel_rfl)) (fun _ _ _ h => h) (Or.inl ⟨by rfl, ?_⟩) ?_ ?_
  rotate_left
  · intro w'
    go_simp
    (try (simp only [Instr.field]; simp only [underlying, hu67]; go_simp; simp only [asAgg]; go_simp))
    with_reducible rfl
  rotate_left
  · simp only [Act.put, List.setIfInBounds_toArray, List.set_cons_zero, List.set_cons_succ, i64_w, i32_w]
    rfl
  refine pure_ (i := 4) (N := some 21) (v := ?_) (a' := ?_) #[true, true, true, false, true, false, false, false, false, false] rfl rfl (any_of HT_.out (by kernel_rfl)) (fun _ _ _ h => h) (Or.inl ⟨by rfl, ?_⟩) ?_ ?_
  rotate_left
  · intro w'
    go_simp
    (try (simp only [Instr.field]; simp only [underlying, hu67]; go_simp; simp only [asAgg]; go_simp))
    with_reducible rfl
  rotate_left
  · simp only [Act.put, List.setIfInBounds_toArray, List.set_cons_zero, List.set_cons_succ, i64_w, i32_w]
    rfl
  refine pure_ (i := 5) (N := some 22) (v := ?_) (a' := ?_) #[true, true, true, false, true, true, false, false, false, false] rfl rfl (any_of HT_.out (by kernel_rfl)) (fun _ _ _ h => h) (Or.inl ⟨by rfl, ?_⟩) ?_ ?_
  rotate_left
  · intro w'
    go_simp
    (try (simp only [Instr.field]; simp only [underlying, hu67]; go_simp; simp only [asAgg]; go_simp))
    with_reducible rfl
  rotate_left
  · simp only [Act.put, List.setIfInBounds_toArray, List.set_cons_zero, List.set_cons_succ, i64_w, i32_w]
    rfl
  refine pure_ (i := 6) (N := some 23) (v := ?_) (a' := ?_) #[true, true, true, false, true, true, true, false, false, false] rfl rfl (any_of HT_.out (by kernel_rfl)) (fun _ _ _ h => h) (Or.inl ⟨by rfl, ?_⟩) ?_ ?_
  rotate_left
  · intro w'
    go_simp
    (try (simp only [Instr.field]; simp only [underlying, hu67]; go_simp; simp only [asAgg]; go_simp))
    with_reducible rfl
  rotate_left
  · simp only [Act.put, List.setIfInBounds_toArray, List.set_cons_zero, List.set_cons_succ, i64_w, i32_w]
    rfl
  refine take_ (i := 3) (N := some 20) (v := ?_) (a' := ?_) #[true, true, true, true, true, true, true, false, false, false] rfl rfl (take_ofW HT_.out HW_.out (by kernel_rfl)) (fun _ _ _ h => h) (Or.inl ⟨by rfl, ?_⟩) hHeld ?_ ?_
  rotate_left
  · rintro w' ⟨s0, s1, s2, s3, s4, s5, s6, s7⟩
    go_simp
    (try (simp only [Instr.field]; simp only [underlying, hu67]; go_simp; simp only [asAgg]; go_simp))
    with_reducible rfl
  rotate_left
  · simp only [Act.put, List.setIfInBounds_toArray, List.set_cons_zero, List.set_cons_succ, i64_w, i32_w]
    rfl
  refine take_ (i := 7) (N := some 24) (v := ?_) (a' := ?_) #[true, true, true, true, true, true, true, true, false, false] rfl rfl (take_ofW HT_.out HW_.out (by kernel_rfl)) (fun _ _ _ h => h) (Or.inl ⟨by rfl, ?_⟩) hHeld ?_ ?_
  rotate_left
  · rintro w' ⟨s0, s1, s2, s3, s4, s5, s6, s7⟩
    go_simp
    (try (simp only [Instr.field]; simp only [underlying, hu67]; go_simp; simp only [asAgg]; go_simp))
    with_reducible rfl
  rotate_left
  · simp only [Act.put, List.setIfInBounds_toArray, List.set_cons_zero, List.set_cons_succ, i64_w, i32_w]
    rfl
  refine one_ (i := 8) (N := some 25) #[true, true, true, true, true, true, true, true, true, false] rfl rfl (one_of HT_.out (by kernel_rfl)) (by decide) (fun K hK => ?_)
  refine goes_ Try.func54 (by kernel_rfl) rfl #[.agg #[.int .i64 ((rd_T67 l0 x5_1).f0), .slice A350_1 ((rd_T67 l0 x5_1).f1).length c350_1, .slice A350_2 ((rd_T67 l0 x5_1).f2).length c350_2, .bool ((rd_T67 l0 x5_1).f3)], .agg #[.int .i64 ((rd_T67 l1 x5_1).f0), .slice A351_1 ((rd_T67 l1 x5_1).f1).length c351_1, .slice A351_2 ((rd_T67 l1 x5_1).f2).length c351_2, .bool ((rd_T67 l1 x5_1).f3)]] (by rfl) rfl rfl mp_ ?_
  with_reducible refine (laws_eqBox.calls k1 ((rd_T67 l0 x5_1).f0) _ _ ((rd_T67 l0 x5_1).f1) _ _ ((rd_T67 l0 x5_1).f2) ((rd_T67 l0 x5_1).f3) ((rd_T67 l1 x5_1).f0) _ _ ((rd_T67 l1 x5_1).f1) _ _ ((rd_T67 l1 x5_1).f2) ((rd_T67 l1 x5_1).f3) t352 _ ?side1 ?side2 ?side3 ?side4 ?side5 ?side6 ?side7 ?side8 A7.out).mono ?_
  (case side1 => exact pc_ (Kd.C_below HR350_1.out HB.out))
  (case side2 => exact HC350_1.out)
  (case side3 => exact pc_ (Kd.C_below HR350_2.out HB.out))
  (case side4 => exact HC350_2.out)
  (case side5 => exact pc_ (Kd.C_below HR351_1.out HB.out))
  (case side6 => exact HC351_1.out)
  (case side7 => exact pc_ (Kd.C_below HR351_2.out HB.out))
  (case side8 => exact HC351_2.out)
  rintro e w9 ⟨rfl, hb⟩
  refine ⟨_, rfl, ?_⟩
  have n0_ := Aside0.mk (below_step (pb_ HB.out) hb)
  clear HB
  have HB := n0_
  clear n0_
  (try clear hb)
  (try clear hb2)
  (try clear hk)
  (try clear hi)
  refine hK.out _ _ ⟨((HB.out.cell (World.block_lt_of_cell? w _ hw350_0)).trans hw350_0), ((HB.out.cell (World.block_lt_of_cell? w _ hw350_1)).trans hw350_1), ((HB.out.cell (World.block_lt_of_cell? w _ hw350_2)).trans hw350_2), ((HB.out.cell (World.block_lt_of_cell? w _ hw350_3)).trans hw350_3), ((HB.out.cell (World.block_lt_of_cell? w _ hw351_0)).trans hw351_0), ((HB.out.cell (World.block_lt_of_cell? w _ hw351_1)).trans hw351_1), ((HB.out.cell (World.block_lt_of_cell? w _ hw351_2)).trans hw351_2), ((HB.out.cell (World.block_lt_of_cell? w _ hw351_3)).trans hw351_3)⟩ (fun hHeld => ?_)
  clear hK K
  refine norm_ (a' := ?_) ?_ ?_
  rotate_left
  · show Act.put _ (some 25) _ = _
    simp only [Act.put, List.setIfInBounds_toArray, List.set_cons_zero, List.set_cons_succ, i64_w, i32_w]
    rfl
  refine pure_ (i := 9) (N := some 26) (v := ?_) (a' := ?_) #[true, true, true, true, true, true, true, true, true, true] rfl rfl (any_of HT_.out (by kernel_rfl)) (fun _ _ _ h => h) (Or.inl ⟨by rfl, ?_⟩) ?_ ?_
  rotate_left
  · intro w'
    go_simp
    (try (simp only [Instr.field]; simp only [underlying, hu67]; go_simp; simp only [asAgg]; go_simp))
    with_reducible rfl
  rotate_left
  · simp only [Act.put, List.setIfInBounds_toArray, List.set_cons_zero, List.set_cons_succ, i64_w, i32_w]
    rfl
  refine done_ (done_of HT_.out (by kernel_rfl)) ?_
  go_upto_if 26 with (fail)
  have H := HS_.out
  clear HS_
  by_cases c10 : t352 = true
  rotate_left
  · replace c10 := Bool.eq_false_iff.mpr c10
    subst c10
    rw [if_neg (show ¬ (false = true) by decide)] at H
    obtain rfl := Option.some.inj H
    go_wp2
    go_ret
    exact ⟨er_, pb_ HB.out⟩
  subst c10
  rw [if_pos rfl] at H
  have H' := Aside0.mk H
  clear H
  go_wp2
  go_roundg k1
  case measure => have := HK1.out; omega
  case rel => exact ⟨(wrap64 (x5_1 + 1)), el_, H', ⟨by have := HK1.out; omega⟩, ⟨pb_ HB.out⟩⟩

/-! ### laws_markIntS: function 26, beside a row that may be the same, by hand -/
theorem laws_markIntS.comp {w : World} {base : Nat} {ok : Nat → Prop} {v : Value} {xs : List Int} (h : Kd.R (Kd.int .i64) 3 w base ok v xs) (g : Nat) (i x : Int) : ∃ ys : List Int, Kd.R (Kd.int .i64) 3 (w.setCell ⟨g, i.toNat, none⟩ (.int .i64 x)) base ok v ys ∧ ys.length = xs.length := by
  by_cases hv : v.ownBlock = some g
  · obtain ⟨A0, c0, rfl⟩ := Kd.R_slice h
    cases A0 with
    | none => simp [Value.ownBlock] at hv
    | some ad =>
      obtain ⟨g', rfl⟩ := Kd.R_head h
      have hg : g' = g := by simpa [Value.ownBlock] using hv
      subst hg
      exact ⟨_, (Kd.R_putg h i x).1, by simp⟩
  · refine ⟨xs, ?_, rfl⟩
    refine Kd.R_mono (Kd.R_far (Kd.R_tight2 rfl h) (p := ⟨g, i.toNat, none⟩) (fun k hk hkg => hv ?_) (.int .i64 x)) (fun k hk => hk.2)
    rw [← hk.1, show k = g from hkg]
set_option maxHeartbeats 8000000 in
set_option maxRecDepth 100000 in
theorem laws_markIntS.calls2 (k : Nat) (P0_ : Nat → Prop) (u9000_ u9001_ : Value) (l0 l1 : List Int) (a1 : Int) (r1 : Int) (r2 : List Int) (w0 w : World) (hB : Below w0.heap.size w0 w) (ho0 : Kd.R (Kd.int .i64) 3 w w0.heap.size P0_ u9000_ l0) (ho1 : Kd.R (Kd.int .i64) 3 w w0.heap.size P0_ u9001_ l1) (h : laws_markIntS.f k l0 a1 = some (r1, r2)) :
    Calls Try.prog 26 #[u9000_, .int .i64 a1] w fun e w' => e = .returned (.int .i64 r1) ∧ (∃ l2 : List Int, Kd.R (Kd.int .i64) 3 w' w0.heap.size P0_ u9001_ l2 ∧ l2.length = l1.length) ∧ Kd.R (Kd.int .i64) 3 w' w0.heap.size P0_ u9000_ r2 ∧ Below w0.heap.size w0 w' ∧ Kept w w' (fun k_ => P0_ k_) := by
  have HO0 := Aside0.mk ho0
  have HO1 := Aside0.mk ho1
  have HK := Aside0.mk (Kept.refl w (fun k_ => P0_ k_))
  have HW0 := Aside0.mk hB.size
  have HB := Aside0.mk hB
  clear hB ho0 ho1
  have H : (laws_markIntS.l0 k l0 a1 0) = some (r1, r2) := h
  clear h
  have H' := Aside0.mk H
  clear H
  go_enter Try.func26, Try.ntmps26
  go_wp2
  go_loopg [1, 5] k (fun kq v1 v5 w' => ∃ (x0_1 z_1 : List Int) (x1_1 : Int) (x5_1 : Int), v1 = .int .i64 x1_1 ∧ v5 = .int .i64 x5_1 ∧ Aside0 (laws_markIntS.l0 kq x0_1 x1_1 x5_1 = some (r1, r2)) ∧ Aside0 (kq ≤ k) ∧ Aside0 (Kd.R (Kd.int .i64) 3 w' w0.heap.size P0_ u9000_ x0_1) ∧ Aside0 (Kd.R (Kd.int .i64) 3 w' w0.heap.size P0_ u9001_ z_1) ∧ Aside0 (z_1.length = l1.length) ∧ Aside0 (Kept w w' (fun k_ => P0_ k_)) ∧ Aside0 (Below w0.heap.size w0 w'))
  case atStart => exact ⟨(l0), (l1), (a1), (0), el_, el_, H', ⟨Nat.le_refl _⟩, ⟨by (with_reducible repeat (first | apply Kd.R_alloc | apply Kd.R_drewN | apply Kd.R_drew)); exact HO0.out⟩, ⟨by (with_reducible repeat (first | apply Kd.R_alloc | apply Kd.R_drewN | apply Kd.R_drew)); exact HO1.out⟩, ⟨rfl⟩, ⟨by repeat (first | (with_reducible first | exact HK.out | apply Kept.alloc | apply Kept.drewN | apply Kept.drew) | exact HK.out)⟩, ⟨by repeat (first | (with_reducible first | exact HB.out | apply below_alloc | apply pw_below_drewN | apply below_drew1) | exact HB.out)⟩⟩
  clear H' HO0 HO1
  try clear p2
  obtain ⟨x0_1, z_1, x1_1, x5_1, rfl, rfl, HA, HK1, HO_0, HO_1, HZ, HK, HB⟩ := hrel
  rcases gk with _ | k1
  · exact absurd HA.out (by simp [laws_markIntS.l0])
  have H := HA.out
  clear HA
  simp only [laws_markIntS.l0] at H
  by_cases c3 : x5_1 < (x0_1.length : Int)
  rotate_left
  · rw [if_neg c3] at H
    have c3b0 : decide (x5_1 < (x0_1.length : Int)) = false := decide_eq_false c3
    clear c3
    simp only [Option.some.injEq, Prod.mk.injEq] at H
    obtain ⟨rfl, rfl⟩ := H
    obtain ⟨Ao4, co4, eo4⟩ := Kd.R_slice HO_0.out
    subst eo4
    go_wp2
    go_ret
    exact ⟨el_, ⟨z_1, by (with_reducible repeat (first | apply Kd.R_alloc | apply Kd.R_drewN | apply Kd.R_drew)); exact HO_1.out, HZ.out⟩, by (with_reducible repeat (first | apply Kd.R_alloc | apply Kd.R_drewN | apply Kd.R_drew)); exact HO_0.out, by repeat (first | (with_reducible first | exact HB.out | apply below_alloc | apply pw_below_drewN | apply below_drew1) | exact HB.out), by repeat (first | (with_reducible first | exact HK.out | apply Kept.alloc | apply Kept.drewN | apply Kept.drew) | exact HK.out)⟩
  rw [if_pos c3] at H
  have c3b0 : decide (x5_1 < (x0_1.length : Int)) = true := decide_eq_true c3
  clear c3
  by_cases c5 : 0 ≤ x5_1
  rotate_left
  · rw [if_neg c5] at H
    exact absurd H (by simp)
  rw [if_pos c5] at H
  have c5b0 : decide (0 ≤ x5_1) = true := decide_eq_true c5
  clear c5
  have H' := Aside0.mk H
  clear H
  obtain ⟨Ao7, co7, eo7⟩ := Kd.R_slice HO_0.out
  subst eo7
  have p6 : 0 ≤ (x5_1 : Int) := dt_
  have q6 : (x5_1 : Int) < ((x0_1.length : Int) : Int) := dt_
  obtain ⟨go6, co6, eo6, gb6, gl6, HG6⟩ := Kd.R_form HO_0.out (by omega)
  (first | cases eo6 | (injection eo6 with ea_ en_ ec_; (first | subst ea_ | (injection ea_ with ea_; subst ea_)); subst ec_; clear en_))
  have GB6 := Aside0.mk gb6
  have GG6 := Aside0.mk HG6
  clear gb6 gl6 HG6
  obtain ⟨hx6_0, hf6_0⟩ := Kd.R_celln 0 HO_0.out (x5_1 : Int) p6 q6
  replace p6 := eq_true p6
  replace q6 := eq_true q6
  have HP8 := Kd.R_putg HO_0.out (x5_1 : Int) x1_1
  obtain ⟨z_2, HP9, HZ2⟩ := laws_markIntS.comp HO_1.out go6 x5_1 x1_1
  go_wp2_with (first | ((with_reducible refine gate_store (t := 3) (p := 15) rfl ?_); refine store_event (t := 3) (p := 15) (v := ?vo_w9) (w1 := (wr.setCell ⟨go6, (x5_1 : Int).toNat, none⟩ (.int .i64 x1_1))) ?hg ?ho ?hn ?hr ?_; (case ho => rfl); (case hg => rfl); (case hn => rfl); (case hr => first | (go_simp; done) | (go_simp; rfl)); intro w9 hw; have hg : wr.grownBy w9 (some go6) := (by rw [hw]; exact HP8.2); have n0_ := Aside0.mk (show Kd.R (Kd.int .i64) 3 w9 w0.heap.size P0_ (.slice (some ⟨go6, 0, none⟩) x0_1.length co7) (x0_1.set (x5_1 : Int).toNat x1_1) from by rw [hw]; exact HP8.1); have n3_ := Aside0.mk (show Kd.R (Kd.int .i64) 3 w9 w0.heap.size P0_ u9001_ z_2 from by rw [hw]; exact HP9); clear HP8 HP9; have n1_ := Aside0.mk ((by rw [hw]; exact below_set (HB.out) GB6.out : Below w0.heap.size w0 w9)); have n2_ := Aside0.mk (Kept.of_grown (S := (fun k_ => P0_ k_)) hg (by repeat (first | (with_reducible first | exact HK.out | apply Kept.alloc | apply Kept.drewN | apply Kept.drew) | exact HK.out)) (fun k_ e_ => .inl (HO_0.out.1 k_ e_))); clear HO_0; clear HO_1; clear HB; clear HK; have HO_0 := n0_; have HO_1 := n3_; have HB := n1_; have HK := n2_; clear n0_ n1_ n2_ n3_; clear hg hw))
  go_roundg k1
  case measure => have := HK1.out; omega
  case rel => exact ⟨_, z_2, (wrap64 (x1_1 + 1)), (wrap64 (x5_1 + 1)), el_, el_, H', ⟨by have := HK1.out; omega⟩, ⟨by (with_reducible repeat (first | apply Kd.R_alloc | apply Kd.R_drewN | apply Kd.R_drew)); exact HO_0.out⟩, ⟨by (with_reducible repeat (first | apply Kd.R_alloc | apply Kd.R_drewN | apply Kd.R_drew)); exact HO_1.out⟩, ⟨HZ2.trans HZ.out⟩, ⟨by repeat (first | (with_reducible first | exact HK.out | apply Kept.alloc | apply Kept.drewN | apply Kept.drew) | exact HK.out)⟩, ⟨by repeat (first | (with_reducible first | exact HB.out | apply below_alloc | apply pw_below_drewN | apply below_drew1) | exact HB.out)⟩⟩

/-! ### laws_markIntS: its count hangs on the length alone, by hand -/
theorem laws_markIntS.len_l : ∀ (k : Nat) (x x' : List Int) (a i r1 : Int) (r2 : List Int), x'.length = x.length → laws_markIntS.l0 k x a i = some (r1, r2) → ∃ r2', laws_markIntS.l0 k x' a i = some (r1, r2')
  | 0, _, _, _, _, _, _, _, h => by simp [laws_markIntS.l0] at h
  | k + 1, x, x', a, i, r1, r2, hl, h => by
    simp only [laws_markIntS.l0] at h ⊢
    rw [hl]
    by_cases c : i < (x.length : Int)
    · rw [if_pos c] at h ⊢
      by_cases c0 : 0 ≤ i
      · rw [if_pos c0] at h ⊢
        exact laws_markIntS.len_l k _ _ _ _ _ _ (by simp [hl]) h
      · rw [if_neg c0] at h
        cases h
    · rw [if_neg c] at h ⊢
      simp only [Option.some.injEq, Prod.mk.injEq] at h ⊢
      exact ⟨x', h.1, rfl⟩
theorem laws_markIntS.len_f (k : Nat) (x x' : List Int) (a r1 : Int) (r2 : List Int) (hl : x'.length = x.length) (h : laws_markIntS.f k x a = some (r1, r2)) : ∃ r2', laws_markIntS.f k x' a = some (r1, r2') := laws_markIntS.len_l k x x' a 0 r1 r2 hl h

/-! ### laws_markBoxS: function 60, by hand -/
def laws_markBoxS.sh (a b : List S67) : Prop := a.length = b.length ∧ ∀ j : Nat, (a.getD j z67).f1.length = (b.getD j z67).f1.length ∧ (a.getD j z67).f2.length = (b.getD j z67).f2.length
theorem laws_markBoxS.st {a b : List S67} (h : laws_markBoxS.sh a b) (i : Int) (h0 : 0 ≤ i) (h1 : i < (a.length : Int)) (x : S67) (e1 : x.f1.length = (a.getD i.toNat z67).f1.length) (e2 : x.f2.length = (a.getD i.toNat z67).f2.length) : laws_markBoxS.sh (a.set i.toNat x) b ∧ (a.set i.toNat x).length = a.length ∧ (a.set i.toNat x).getD i.toNat z67 = x := by
  have hi : i.toNat < a.length := by omega
  have hg : (a.set i.toNat x).getD i.toNat z67 = x := by simp [hi]
  refine ⟨⟨by simp [h.1], fun j => ?_⟩, by simp, hg⟩
  by_cases hj : j = i.toNat
  · subst hj
    rw [hg, e1, e2]
    exact h.2 _
  · have hn : (a.set i.toNat x).getD j z67 = a.getD j z67 := by
      have hj' : ¬ i.toNat = j := fun e => hj e.symm
      simp [List.getD_eq_getElem?_getD, List.getElem?_set, hj']
    rw [hn]
    exact h.2 j
def laws_markBoxS.l0 : Nat → List (S67) → Int → Int → Option (Int)
  | 0, _, _, _ => none
  | k + 1, x0, x1, x5 => if x5 < (x0.length : Int) then (if 0 ≤ x5 then ((laws_markIntS.f k (rd_T67 x0 x5).f1 (wrap64 (x1 + 1))).bind fun bt1 => ((laws_markIntS.f k (rd_T67 x0 x5).f2 bt1.1).bind fun bt2 => (laws_markBoxS.l0 k x0 (wrap64 (bt2.1 + 1)) (wrap64 (x5 + 1))))) else (none)) else (some x1)
def laws_markBoxS.f (k : Nat) (l0 : List (S67)) (a1 : Int) : Option (Int) := laws_markBoxS.l0 k l0 a1 0
theorem laws_markBoxS.mono_l : ∀ k, (∀ y0 y1 y2, LeO (laws_markBoxS.l0 k y0 y1 y2) (laws_markBoxS.l0 (k + 1) y0 y1 y2))
  | 0 => fun _ _ _ r h => by simp [laws_markBoxS.l0] at h
  | k + 1 => by
    have ih0 := laws_markBoxS.mono_l k
    · intro y0 y1 y2
      unfold laws_markBoxS.l0
      repeat' first
      | (with_reducible exact ih0 _ _ _)
      | (with_reducible exact laws_markIntS.mono _ _ _)
      | (with_reducible exact LeO.refl _)
      | (with_reducible exact LeO.none _)
      | (with_reducible refine LeO.ite ?_ ?_)
      | (with_reducible refine LeO.bind ?_ (fun _ => ?_))
      | exact ih0 _ _ _
      | exact laws_markIntS.mono _ _ _
      | exact LeO.none _
      | refine LeO.ite ?_ ?_
      | refine LeO.bind ?_ (fun _ => ?_)
theorem laws_markBoxS.mono : ∀ a0 a1 k, LeO (laws_markBoxS.f k a0 a1) (laws_markBoxS.f (k + 1) a0 a1) := by
  intro a0 a1 k
  have ih0 := laws_markBoxS.mono_l k
  unfold laws_markBoxS.f
  repeat' first
      | (with_reducible exact ih0 _ _ _)
      | (with_reducible exact laws_markIntS.mono _ _ _)
      | (with_reducible exact LeO.refl _)
      | (with_reducible exact LeO.none _)
      | (with_reducible refine LeO.ite ?_ ?_)
      | (with_reducible refine LeO.bind ?_ (fun _ => ?_))
      | exact ih0 _ _ _
      | exact laws_markIntS.mono _ _ _
      | exact LeO.none _
      | refine LeO.ite ?_ ?_
      | refine LeO.bind ?_ (fun _ => ?_)
set_option maxHeartbeats 8000000 in
set_option maxRecDepth 100000 in
theorem laws_markBoxS.calls (k : Nat) (P0_ : Nat → Prop) (u9000_ : Value) (l0 : List (S67)) (a1 : Int) (r1 : Int) (w0 w : World) (hB : Below w0.heap.size w0 w) (ho0 : Kd.S k67 67 w w0.heap.size P0_ u9000_ l0) (h : laws_markBoxS.f k l0 a1 = some r1) :
    Calls Try.prog 60 #[u9000_, .int .i64 a1] w fun e w' => e = .returned (.int .i64 r1) ∧ Below w0.heap.size w0 w' ∧ Kept w w' (fun k_ => P0_ k_) := by
  have hu67 := Try.underlying67
  have HO0 := Aside0.mk (show Kd.S k67 67 w w0.heap.size (fun k_ => (P0_ k_ ∨ w.heap.size ≤ k_)) u9000_ l0 from Kd.S_mono ho0 (fun k_ hk => (.inl hk)))
  have HK := Aside0.mk (Kept.refl w (fun k_ => P0_ k_))
  have HW0 := Aside0.mk hB.size
  have HB := Aside0.mk hB
  clear hB
  have H : (laws_markBoxS.l0 k l0 a1 0) = some r1 := h
  clear h
  have H' := Aside0.mk H
  clear H
  go_enter Try.func60, Try.ntmps60
  go_wp2
  go_loopg [1, 5] k (fun kq v1 v5 w' => ∃ (x0_1 : List (S67)) (x1_1 : Int) (x5_1 : Int), v1 = .int .i64 x1_1 ∧ v5 = .int .i64 x5_1 ∧ Aside0 (laws_markBoxS.l0 kq l0 x1_1 x5_1 = some r1) ∧ Aside0 (kq ≤ k) ∧ Aside0 (Kd.S k67 67 w' w0.heap.size (fun k_ => (P0_ k_ ∨ w.heap.size ≤ k_)) u9000_ x0_1) ∧ Aside0 (laws_markBoxS.sh x0_1 l0) ∧ Aside0 (Kept w w' (fun k_ => P0_ k_)) ∧ Aside0 (Below w0.heap.size w0 w'))
  case atStart => exact ⟨(l0), (a1), (0), el_, el_, H', ⟨Nat.le_refl _⟩, ⟨by (with_reducible repeat (first | apply Kd.S_alloc | apply Kd.S_drewN | apply Kd.S_drew)); exact HO0.out⟩, ⟨⟨rfl, fun _ => ⟨rfl, rfl⟩⟩⟩, ⟨by repeat (first | (with_reducible first | exact HK.out | apply Kept.alloc | apply Kept.drewN | apply Kept.drew) | exact HK.out)⟩, ⟨by repeat (first | (with_reducible first | exact HB.out | apply below_alloc | apply pw_below_drewN | apply below_drew1) | exact HB.out)⟩⟩
  clear H'
  try clear p2
  obtain ⟨x0_1, x1_1, x5_1, rfl, rfl, HA, HK1, HO_0, HSh, HK, HB⟩ := hrel
  rcases gk with _ | k1
  · exact absurd HA.out (by simp [laws_markBoxS.l0])
  have H := HA.out
  clear HA
  simp only [laws_markBoxS.l0] at H
  have hln := HSh.out.1
  by_cases c3 : x5_1 < (l0.length : Int)
  rotate_left
  · rw [if_neg c3] at H
    rw [← hln] at c3
    have c3b0 : decide (x5_1 < (x0_1.length : Int)) = false := decide_eq_false c3
    clear c3
    obtain rfl := Option.some.inj H
    obtain ⟨Ao4, co4, eo4⟩ := Kd.S_slice HO_0.out
    subst eo4
    clear hln HSh
    go_wp2
    go_ret
    exact ⟨el_, by repeat (first | (with_reducible first | exact HB.out | apply below_alloc | apply pw_below_drewN | apply below_drew1) | exact HB.out), by repeat (first | (with_reducible first | exact HK.out | apply Kept.alloc | apply Kept.drewN | apply Kept.drew) | exact HK.out)⟩
  rw [if_pos c3] at H
  rw [← hln] at c3
  have c3b0 : decide (x5_1 < (x0_1.length : Int)) = true := decide_eq_true c3
  have q6 : x5_1 < (x0_1.length : Int) := c3
  clear c3
  by_cases c5 : 0 ≤ x5_1
  rotate_left
  · rw [if_neg c5] at H
    exact absurd H (by simp)
  rw [if_pos c5] at H
  have c5b0 : decide (0 ≤ x5_1) = true := decide_eq_true c5
  have p6 : 0 ≤ x5_1 := c5
  clear c5
  replace H := Option.bind_eq_some_iff.mp H
  obtain ⟨⟨t1, t2⟩, A60, H⟩ := H
  replace H := Option.bind_eq_some_iff.mp H
  obtain ⟨⟨t3, t4⟩, A70, H⟩ := H
  (try dsimp only at H)
  (try dsimp only at A70)
  have A6 := Aside0.mk A60
  have A7 := Aside0.mk A70
  clear A60 A70
  have H' := Aside0.mk H
  clear H
  have PP := Aside0.mk p6
  have QQ := Aside0.mk q6
  obtain ⟨go6, co6, eo6, gb6, gl6, HG6⟩ := Kd.S_form HO_0.out (by omega)
  subst eo6
  have GB6 := Aside0.mk gb6
  clear gb6 gl6 HG6
  have hs1 := HSh.out.2 x5_1.toNat
  obtain ⟨Xa, hXa⟩ : ∃ X : S67, X = x0_1.getD x5_1.toNat z67 := ⟨_, rfl⟩
  have L1 := Aside0.mk (show Xa.f1.length = (rd_T67 l0 x5_1).f1.length from by rw [hXa]; exact hs1.1)
  have L2 := Aside0.mk (show Xa.f2.length = (rd_T67 l0 x5_1).f2.length from by rw [hXa]; exact hs1.2)
  clear hs1 hln
  obtain ⟨oka, ca, hcla, hMa, hcca, hfra, hoka, hHa⟩ := Kd.S_elem HO_0.out z67 x5_1 p6 q6
  rw [← hXa] at hMa
  obtain ⟨va1, va2, rfl, ga1, ga2⟩ := k67_openM hMa
  have hxa_0 : wr.cell? ⟨go6, (x5_1 : Int).toNat * 4, none⟩ = some (.int .i64 Xa.f0) := hcca 0 _ rfl
  have hfa_0 : wr.frozen? ⟨go6, (x5_1 : Int).toNat * 4, none⟩ = false := hfra 0
  have HPa := Kd.S_seg0 hHa p6 q6 (seg := [.int .i64 x1_1]) (j := 0) (show 0 + 1 ≤ 4 from by decide) (x' := (⟨x1_1, Xa.f1, Xa.f2, Xa.f3⟩ : S67)) (k67_mkM _ _ _ (⟨x1_1, Xa.f1, Xa.f2, Xa.f3⟩ : S67) ga1 ga2) (fun _ h_ => h_)
  obtain ⟨hsha, hlna, hgda⟩ := laws_markBoxS.st HSh.out x5_1 p6 q6 (⟨x1_1, Xa.f1, Xa.f2, Xa.f3⟩ : S67) (by rw [hXa]) (by rw [hXa])
  obtain ⟨ya, hya⟩ : ∃ y, y = x0_1.set x5_1.toNat (⟨x1_1, Xa.f1, Xa.f2, Xa.f3⟩ : S67) := ⟨_, rfl⟩
  rw [← hya] at HPa hsha hlna hgda
  have SHa := Aside0.mk hsha
  have GDa := Aside0.mk hgda
  have LNa := Aside0.mk hlna
  clear hcca hfra hoka hHa ga1 ga2 hcla hsha hlna hgda hXa hya HSh
  replace p6 := eq_true p6
  replace q6 := eq_true q6
  go_wp2_with (first
    | ((with_reducible refine gate_store (t := 3) (p := 16) rfl ?_); refine store_event (t := 3) (p := 16) (v := ?vo_w9) (w1 := (wr.setCell ⟨go6, (x5_1 : Int).toNat * 4, none⟩ (.int .i64 x1_1))) ?hg ?ho ?hn ?hr ?_; (case ho => rfl); (case hg => rfl); (case hn => rfl); (case hr => first | (go_simp; done) | (go_simp; rfl)); intro w9 hw; have hg : wr.grownBy w9 (some go6) := (by rw [hw]; exact HPa.2); have n0_ := Aside0.mk (show Kd.S k67 67 w9 w0.heap.size (fun k_ => (P0_ k_ ∨ w.heap.size ≤ k_)) (.slice (some ⟨go6, 0, none⟩) x0_1.length co6) ya from by rw [hw]; exact HPa.1); have n1_ := Aside0.mk ((by rw [hw]; exact below_set (HB.out) GB6.out : Below w0.heap.size w0 w9)); have n2_ := Aside0.mk (Kept.of_grown (S := (fun k_ => P0_ k_)) hg (by repeat (first | (with_reducible first | exact HK.out | apply Kept.alloc | apply Kept.drewN | apply Kept.drew) | exact HK.out)) (fun k_ e_ => (Kd.S_R HO_0.out).1 _ e_)); clear HPa; clear HO_0; clear HB; clear HK; have HO_0 := n0_; have HB := n1_; have HK := n2_; clear n0_ n1_ n2_ hg hw hxa_0 hfa_0;
       obtain ⟨okb, cb, _, hMb, hccb, hokb, hbkb⟩ := Kd.S_call HO_0.out z67 x5_1 PP.out QQ.out; rw [GDa.out] at hMb; obtain ⟨vb1, vb2, rfl, gb1, gb2⟩ := k67_openM hMb; obtain ⟨Ab1, cb1, eb1⟩ := Kd.R_slice gb1; subst eb1; have hxb_1 : w9.cell? ⟨go6, (x5_1 : Int).toNat * 4 + 1, none⟩ = some (.slice Ab1 Xa.f1.length cb1) := hccb 1 _ rfl; have HRb1 := Aside0.mk gb1; have HRb2 := Aside0.mk gb2; have HIb := Aside0.mk hokb; have HJb := Aside0.mk @hbkb; clear hccb hokb hbkb gb1 gb2 hMb; obtain ⟨qb, hqb⟩ := laws_markIntS.len_f k1 _ Xa.f1 _ t1 t2 L1.out A6.out; have Hqb := Aside0.mk hqb; clear hqb)
    | ((with_reducible refine gate_callee (f := 26) rfl ?_); refine goesL_ (some 25) rfl rfl Try.func26 (by kernel_rfl) rfl #[.slice Ab1 Xa.f1.length cb1, .int .i64 (wrap64 (x1_1 + 1))] rfl mp_ ?_; (with_reducible refine (laws_markIntS.calls2 k1 okb (.slice Ab1 Xa.f1.length cb1) vb2 Xa.f1 Xa.f2 (wrap64 (x1_1 + 1)) t1 qb w0 _ ?side1 ?side2 ?side3 Hqb.out).mono ?_); (case side1 => exact (by repeat (first | (with_reducible first | exact HB.out | apply below_alloc | apply pw_below_drewN | apply below_drew1) | exact HB.out))); (case side2 => (with_reducible repeat (first | apply Kd.R_alloc | apply Kd.R_drewN | apply Kd.R_drew)); exact HRb1.out); (case side3 => (with_reducible repeat (first | apply Kd.R_alloc | apply Kd.R_drewN | apply Kd.R_drew)); exact HRb2.out); rintro e w10 ⟨rfl, ⟨lb2, hy1, hl2⟩, hy0, hb, hkp⟩; refine ⟨_, rfl, ?_⟩; have el1 := (Kd.R_reads' hy0).1;
       obtain ⟨hshc, hlnc, hgdc⟩ := laws_markBoxS.st SHa.out x5_1 PP.out (by rw [LNa.out]; exact QQ.out) (⟨x1_1, qb, lb2, Xa.f3⟩ : S67) (by rw [GDa.out]; exact el1.symm) (by rw [GDa.out]; exact hl2);
       have n0_ := Aside0.mk (Kd.S_mono (HJb.out (x' := (⟨x1_1, qb, lb2, Xa.f3⟩ : S67)) (Kept.then_ (S := okb) (by repeat (first | exact Kept.refl _ _ | apply Kept.alloc | apply Kept.drewN | apply Kept.drew)) hkp (fun _ h_ => .inl h_)) (k67_mkM _ _ _ (⟨x1_1, qb, lb2, Xa.f3⟩ : S67) (Kd.R_mono hy0 (fun _ h_ => .inl h_)) (Kd.R_mono hy1 (fun _ h_ => .inl h_)))) (fun k_ h_ => h_.elim id (fun h2_ => .inr (Nat.le_trans HK.out.1 h2_)))); have n1_ := Aside0.mk hb; have n2_ := Aside0.mk (Kept.then_ (S := (fun k_ => P0_ k_)) (by repeat (first | (with_reducible first | exact HK.out | apply Kept.alloc | apply Kept.drewN | apply Kept.drew) | exact HK.out)) hkp (fun k_ hs_ => HIb.out k_ hs_));
       obtain ⟨yc, hyc⟩ : ∃ y, y = ya.set x5_1.toNat (⟨x1_1, qb, lb2, Xa.f3⟩ : S67) := ⟨_, rfl⟩; rw [← hyc] at hshc hlnc hgdc; have n3_ := Aside0.mk (show Kd.S k67 67 w10 w0.heap.size (fun k_ => (P0_ k_ ∨ w.heap.size ≤ k_)) (.slice (some ⟨go6, 0, none⟩) x0_1.length co6) yc from by rw [hyc]; exact n0_.out); clear HO_0; clear HB; clear HK; have HO_0 := n3_; have HB := n1_; have HK := n2_; have SHc := Aside0.mk hshc; have GDc := Aside0.mk hgdc; have LNc := Aside0.mk (hlnc.trans LNa.out); have L3 := Aside0.mk (hl2.trans L2.out); clear n0_ n1_ n2_ n3_ hy0 hy1 hb hkp hshc hlnc hgdc hyc hl2 hxb_1 HRb1 HRb2 HIb HJb Hqb el1;
       obtain ⟨okc, cc, _, hMc, hccc, hokc, hbkc⟩ := Kd.S_call HO_0.out z67 x5_1 PP.out QQ.out; rw [GDc.out] at hMc; obtain ⟨vc1, vc2, rfl, gc1, gc2⟩ := k67_openM hMc; obtain ⟨Ac2, cc2, ec2⟩ := Kd.R_slice gc2; subst ec2; have hxc_2 : w10.cell? ⟨go6, (x5_1 : Int).toNat * 4 + 2, none⟩ = some (.slice Ac2 lb2.length cc2) := hccc 2 _ rfl; have HRc1 := Aside0.mk gc1; have HRc2 := Aside0.mk gc2; have HIc := Aside0.mk hokc; have HJc := Aside0.mk @hbkc; clear hccc hokc hbkc gc1 gc2 hMc; obtain ⟨qc, hqc⟩ := laws_markIntS.len_f k1 _ lb2 _ t3 t4 L3.out A7.out; have Hqc := Aside0.mk hqc; clear hqc)
    | ((with_reducible refine gate_callee (f := 26) rfl ?_); refine goesL_ (some 32) rfl rfl Try.func26 (by kernel_rfl) rfl #[.slice Ac2 lb2.length cc2, .int .i64 t1] rfl mp_ ?_; (with_reducible refine (laws_markIntS.calls2 k1 okc (.slice Ac2 lb2.length cc2) vc1 lb2 qb t1 t3 qc w0 _ ?side1 ?side2 ?side3 Hqc.out).mono ?_); (case side1 => exact (by repeat (first | (with_reducible first | exact HB.out | apply below_alloc | apply pw_below_drewN | apply below_drew1) | exact HB.out))); (case side2 => (with_reducible repeat (first | apply Kd.R_alloc | apply Kd.R_drewN | apply Kd.R_drew)); exact HRc2.out); (case side3 => (with_reducible repeat (first | apply Kd.R_alloc | apply Kd.R_drewN | apply Kd.R_drew)); exact HRc1.out); rintro e w11 ⟨rfl, ⟨lc1, hy1, hl1⟩, hy0, hb, hkp⟩; refine ⟨_, rfl, ?_⟩; have el2 := (Kd.R_reads' hy0).1;
       obtain ⟨hshd, hlnd, hgdd⟩ := laws_markBoxS.st SHc.out x5_1 PP.out (by rw [LNc.out]; exact QQ.out) (⟨x1_1, lc1, qc, Xa.f3⟩ : S67) (by rw [GDc.out]; exact hl1) (by rw [GDc.out]; exact el2.symm);
       have n0_ := Aside0.mk (Kd.S_mono (HJc.out (x' := (⟨x1_1, lc1, qc, Xa.f3⟩ : S67)) (Kept.then_ (S := okc) (by repeat (first | exact Kept.refl _ _ | apply Kept.alloc | apply Kept.drewN | apply Kept.drew)) hkp (fun _ h_ => .inl h_)) (k67_mkM _ _ _ (⟨x1_1, lc1, qc, Xa.f3⟩ : S67) (Kd.R_mono hy1 (fun _ h_ => .inl h_)) (Kd.R_mono hy0 (fun _ h_ => .inl h_)))) (fun k_ h_ => h_.elim id (fun h2_ => .inr (Nat.le_trans HK.out.1 h2_)))); have n1_ := Aside0.mk hb; have n2_ := Aside0.mk (Kept.then_ (S := (fun k_ => P0_ k_)) (by repeat (first | (with_reducible first | exact HK.out | apply Kept.alloc | apply Kept.drewN | apply Kept.drew) | exact HK.out)) hkp (fun k_ hs_ => HIc.out k_ hs_));
       obtain ⟨yd, hyd⟩ : ∃ y, y = yc.set x5_1.toNat (⟨x1_1, lc1, qc, Xa.f3⟩ : S67) := ⟨_, rfl⟩; rw [← hyd] at hshd hlnd hgdd; have n3_ := Aside0.mk (show Kd.S k67 67 w11 w0.heap.size (fun k_ => (P0_ k_ ∨ w.heap.size ≤ k_)) (.slice (some ⟨go6, 0, none⟩) x0_1.length co6) yd from by rw [hyd]; exact n0_.out); clear HO_0; clear HB; clear HK; have HO_0 := n3_; have HB := n1_; have HK := n2_; have SHd := Aside0.mk hshd; have GDd := Aside0.mk hgdd; have LNd := Aside0.mk (hlnd.trans LNc.out); clear n0_ n1_ n2_ n3_ hy0 hy1 hb hkp hshd hlnd hgdd hyd hl1 hxc_2 HRc1 HRc2 HIc HJc Hqc el2;
       obtain ⟨oke, ce, hcle, hMe, hcce, hfre, hoke, hHe⟩ := Kd.S_elem HO_0.out z67 x5_1 PP.out QQ.out; rw [GDd.out] at hMe; obtain ⟨ve1, ve2, rfl, ge1, ge2⟩ := k67_openM hMe; have hxe_3 : w11.cell? ⟨go6, (x5_1 : Int).toNat * 4 + 3, none⟩ = some (.bool Xa.f3) := hcce 3 _ rfl; have hfe_3 : w11.frozen? ⟨go6, (x5_1 : Int).toNat * 4 + 3, none⟩ = false := hfre 3; have HPe := Kd.S_seg0 hHe PP.out QQ.out (seg := [.bool ((Int.tmod t3 3) == 0)]) (j := 3) (show 3 + 1 ≤ 4 from by decide) (x' := (⟨x1_1, lc1, qc, ((Int.tmod t3 3) == 0)⟩ : S67)) (k67_mkM _ _ _ (⟨x1_1, lc1, qc, ((Int.tmod t3 3) == 0)⟩ : S67) ge1 ge2) (fun _ h_ => h_);
       obtain ⟨hshe, hlne, hgde⟩ := laws_markBoxS.st SHd.out x5_1 PP.out (by rw [LNd.out]; exact QQ.out) (⟨x1_1, lc1, qc, ((Int.tmod t3 3) == 0)⟩ : S67) (by rw [GDd.out]) (by rw [GDd.out]); obtain ⟨ye, hye⟩ : ∃ y, y = yd.set x5_1.toNat (⟨x1_1, lc1, qc, ((Int.tmod t3 3) == 0)⟩ : S67) := ⟨_, rfl⟩; rw [← hye] at HPe hshe; have SHe := Aside0.mk hshe; clear hcce hfre hoke hHe ge1 ge2 hcle hshe hlne hgde hye hMe)
    | ((with_reducible refine gate_store (t := 4) (p := 39) rfl ?_); refine store_event (t := 4) (p := 39) (v := ?vo_w12) (w1 := (w11.setCell ⟨go6, (x5_1 : Int).toNat * 4 + 3, none⟩ (.bool ((Int.tmod t3 3) == 0)))) ?hg ?ho ?hn ?hr ?_; (case ho => rfl); (case hg => rfl); (case hn => rfl); (case hr => first | (go_simp; done) | (go_simp; rfl)); intro w12 hw; have hg : w11.grownBy w12 (some go6) := (by rw [hw]; exact HPe.2); have n0_ := Aside0.mk (show Kd.S k67 67 w12 w0.heap.size (fun k_ => (P0_ k_ ∨ w.heap.size ≤ k_)) (.slice (some ⟨go6, 0, none⟩) x0_1.length co6) ye from by rw [hw]; exact HPe.1); have n1_ := Aside0.mk ((by rw [hw]; exact below_set (HB.out) GB6.out : Below w0.heap.size w0 w12)); have n2_ := Aside0.mk (Kept.of_grown (S := (fun k_ => P0_ k_)) hg (by repeat (first | (with_reducible first | exact HK.out | apply Kept.alloc | apply Kept.drewN | apply Kept.drew) | exact HK.out)) (fun k_ e_ => (Kd.S_R HO_0.out).1 _ e_)); clear HPe; clear HO_0; clear HB; clear HK; have HO_0 := n0_; have HB := n1_; have HK := n2_; clear n0_ n1_ n2_ hg hw hxe_3 hfe_3))
  go_roundg k1
  case measure => have := HK1.out; omega
  case rel => exact ⟨ye, (wrap64 (t3 + 1)), (wrap64 (x5_1 + 1)), el_, el_, H', ⟨by have := HK1.out; omega⟩, ⟨by (with_reducible repeat (first | apply Kd.S_alloc | apply Kd.S_drewN | apply Kd.S_drew)); exact HO_0.out⟩, SHe, ⟨by repeat (first | (with_reducible first | exact HK.out | apply Kept.alloc | apply Kept.drewN | apply Kept.drew) | exact HK.out)⟩, ⟨by repeat (first | (with_reducible first | exact HB.out | apply below_alloc | apply pw_below_drewN | apply below_drew1) | exact HB.out)⟩⟩


end Go.Proofs.Ytdoefkloanpliaa.Print
