-- Written by a program of this session (printx.py) out of the translation; Lean checks it.
import Derived.Test.YtpoandlbmaljhaaPrint0
import Derived.Test.YtpoandlbmaljhaaPrint7
import Derived.Test.YtpoandlbmaljhaaPrint9
namespace Go.Proofs.Ytpoandlbmaljhaa.Print
open Go.RowKit Go.Proofs.YtpoandlbmaljhaaW.PrintWords Go.Proofs.YtpoandlbmaljhaaW.PrintLast Go.Proofs.YtpoandlbmaljhaaW.PrintMore Go.Proofs.Ytpoandlbmaljhaa.Short
attribute [local go_sem] max2_int min2_int max_two min_two max_three min_three max_four min_four   -- for this text's walks alone
set_option linter.unusedVariables false
set_option linter.unusedSimpArgs false

/-! ### impl_loses_1: function 100009 -/
def impl_loses_1.f (k : Nat) (a0_0 : Int) (l0_1 : List Int) (a1_0 : Int) (l1_1 : List Int) (l1_2 : List Int) (a1_3 : Bool) : Option (Bool) := (slices_Contains_int_int.f k l1_1 a0_0).bind fun t385 => (if t385 = true then (some true) else (if a1_3 = true then ((slices_Contains_int_int.f k l1_2 a0_0).bind fun t386 => (if t386 = true then (some false) else ((impl_InRange.f a0_0 1 3).bind fun t387 => (some (!t387))))) else (some false)))
theorem impl_loses_1.mono : ∀ a0 a1 a2 a3 a4 a5 k, LeO (impl_loses_1.f k a0 a1 a2 a3 a4 a5) (impl_loses_1.f (k + 1) a0 a1 a2 a3 a4 a5) := by
  intro a0 a1 a2 a3 a4 a5 k
  unfold impl_loses_1.f
  repeat' first
      | (with_reducible exact slices_Contains_int_int.mono _ _ _)
      | (with_reducible exact LeO.refl _)
      | (with_reducible exact LeO.none _)
      | (with_reducible refine LeO.ite ?_ ?_)
      | (with_reducible refine LeO.bind ?_ (fun _ => ?_))
      | exact slices_Contains_int_int.mono _ _ _
      | exact LeO.none _
      | refine LeO.ite ?_ ?_
      | refine LeO.bind ?_ (fun _ => ?_)
set_option maxHeartbeats 8000000 in
set_option maxRecDepth 100000 in
theorem impl_loses_1.calls (k : Nat) (a0_0 : Int) (A0_1 : Option Addr) (c0_1 : Nat) (l0_1 : List Int) (B1 : Nat) (a1_0 : Int) (A1_1 : Option Addr) (c1_1 : Nat) (l1_1 : List Int) (A1_2 : Option Addr) (c1_2 : Nat) (l1_2 : List Int) (a1_3 : Bool) (r : Bool) (w : World) (hr0_1 : Kd.C (Kd.int .i64) w A0_1 l0_1.length l0_1) (hc0_1 : l0_1.length ≤ c0_1) (hr1_1 : Kd.C (Kd.int .i64) w A1_1 l1_1.length l1_1) (hc1_1 : l1_1.length ≤ c1_1) (hr1_2 : Kd.C (Kd.int .i64) w A1_2 l1_2.length l1_2) (hc1_2 : l1_2.length ≤ c1_2) (hbv1 : w.heap[B1]? = some (.cells #[.int .i64 a1_0, .slice A1_1 l1_1.length c1_1, .slice A1_2 l1_2.length c1_2, .bool a1_3] 50 (0, 0))) (h : impl_loses_1.f k a0_0 l0_1 a1_0 l1_1 l1_2 a1_3 = some r) :
    Calls Try.prog 106 #[.agg #[.int .i64 a0_0, .slice A0_1 l0_1.length c0_1], .pointer (some ⟨B1, 0, none⟩)] w fun e w' => e = .returned (.bool r) ∧ Below w.heap.size w w' := by
  have hu69 := Try.underlying69
  have HR0_1 := Aside0.mk hr0_1
  have HC0_1 := Aside0.mk hc0_1
  clear hr0_1 hc0_1
  have HR1_1 := Aside0.mk hr1_1
  have HC1_1 := Aside0.mk hc1_1
  clear hr1_1 hc1_1
  have HR1_2 := Aside0.mk hr1_2
  have HC1_2 := Aside0.mk hc1_2
  clear hr1_2 hc1_2
  have BK1 := Aside0.mk hbv1
  clear hbv1
  have HB := Aside0.mk (Below.refl w.heap.size w)
  have H : ((slices_Contains_int_int.f k l1_1 a0_0).bind fun t385 => (if t385 = true then (some true) else (if a1_3 = true then ((slices_Contains_int_int.f k l1_2 a0_0).bind fun t386 => (if t386 = true then (some false) else ((impl_InRange.f a0_0 1 3).bind fun t387 => (some (!t387))))) else (some false)))) = some r := h
  clear h
  have HS_ := Aside0.mk H
  clear H
  go_enter Try.func106, Try.ntmps106
  go_upto_region 1 with (first | ((with_reducible refine gate_dst (N := 2) rfl ?_); refine box_event ?hg (N := 2) ?hd (cs := #[.int .i64 a0_0, .slice A0_1 l0_1.length c0_1]) (t := 69) ?hr ?_; (case hd => rfl); (case hg => rfl); (case hr => first | (go_simp; done) | (go_simp; rfl)); intro gb384 hg w3 hbox hb; have n0_ := Aside0.mk (bb_ BK1.out hb); have n1_ := Aside0.mk (below_step (pb_ HB.out) hb); have n2_ := Aside0.mk (hbox); have n3_ := Aside0.mk ((by rw [hg]; exact (below_size (pb_ HB.out)) : w.heap.size ≤ gb384)); have n4_ := Aside0.mk ((by rw [hg]; exact (below_size (pb_ HB.out)) : w.heap.size ≤ gb384)); have n5_ := Aside0.mk ((by rw [hg]; exact Nat.ne_of_lt (blk_lt (pk_ BK1.out)) : B1 ≠ gb384)); have n6_ := Aside0.mk ((by rw [hg]; exact Nat.ne_of_gt (blk_lt (pk_ BK1.out)) : gb384 ≠ B1)); clear BK1; clear HB; have BK1 := n0_; have HB := n1_; have BK384 := n2_; have GW384 := n3_; have GE384 := n4_; have NB1_384 := n5_; have NB384_1 := n6_; clear n0_ n1_ n2_ n3_ n4_ n5_ n6_; clear hb hbox hg))
  (try simp only [Act.put, List.setIfInBounds_toArray, List.set_cons_zero, List.set_cons_succ])
  have H := HS_.out
  clear HS_
  replace H := Option.bind_eq_some_iff.mp H
  obtain ⟨t385, A40, H⟩ := H
  (try dsimp only at H)
  have A4 := Aside0.mk A40
  clear A40
  by_cases c5 : t385 = true
  · subst c5
    rw [if_pos rfl] at H
    obtain rfl := Option.some.inj H
    have hnb6 := NB1_384.out
    have hnc6 := NB384_1.out
    obtain ⟨hcz7_0, hcz7_1, hcz7_2, hcz7_3, hfz7_0, hfz7_1, hfz7_2, hfz7_3⟩ := bc4_ BK1.out
    obtain ⟨hcz8_0, hcz8_1, hfz8_0, hfz8_1⟩ := bc2_ BK384.out
    go_wp2_with (first | ((with_reducible refine gate_callee (f := 63) rfl ?_); refine goesL_ (some 8) rfl rfl Try.func63 (by kernel_rfl) rfl #[.slice A1_1 l1_1.length c1_1, .int .i64 a0_0] rfl mp_ ?_; (with_reducible refine (slices_Contains_int_int.calls k _ _ l1_1 a0_0 true _ ?side1 ?side2 A4.out).mono ?_); (case side1 => exact pc_ (Kd.C_below HR1_1.out HB.out)); (case side2 => exact HC1_1.out); rintro e w' ⟨rfl, ⟨nd, rfl⟩⟩; refine ⟨_, rfl, ?_⟩))
    go_ret
    exact ⟨er_, pb1_ HB.out GE384.out⟩
  replace c5 := Bool.eq_false_iff.mpr c5
  subst c5
  rw [if_neg (show ¬ (false = true) by decide)] at H
  by_cases c9 : a1_3 = true
  rotate_left
  · replace c9 := Bool.eq_false_iff.mpr c9
    subst c9
    rw [if_neg (show ¬ (false = true) by decide)] at H
    obtain rfl := Option.some.inj H
    have hnb10 := NB1_384.out
    have hnc10 := NB384_1.out
    obtain ⟨hcz11_0, hcz11_1, hcz11_2, hcz11_3, hfz11_0, hfz11_1, hfz11_2, hfz11_3⟩ := bc4_ BK1.out
    obtain ⟨hcz12_0, hcz12_1, hfz12_0, hfz12_1⟩ := bc2_ BK384.out
    go_wp2_with (first | ((with_reducible refine gate_callee (f := 63) rfl ?_); refine goesL_ (some 8) rfl rfl Try.func63 (by kernel_rfl) rfl #[.slice A1_1 l1_1.length c1_1, .int .i64 a0_0] rfl mp_ ?_; (with_reducible refine (slices_Contains_int_int.calls k _ _ l1_1 a0_0 false _ ?side1 ?side2 A4.out).mono ?_); (case side1 => exact pc_ (Kd.C_below HR1_1.out HB.out)); (case side2 => exact HC1_1.out); rintro e w' ⟨rfl, ⟨nd, rfl⟩⟩; refine ⟨_, rfl, ?_⟩))
    go_ret
    exact ⟨er_, pb1_ HB.out GE384.out⟩
  subst c9
  rw [if_pos rfl] at H
  replace H := Option.bind_eq_some_iff.mp H
  obtain ⟨t386, A130, H⟩ := H
  (try dsimp only at H)
  have A13 := Aside0.mk A130
  clear A130
  by_cases c14 : t386 = true
  · subst c14
    rw [if_pos rfl] at H
    obtain rfl := Option.some.inj H
    have hnb15 := NB1_384.out
    have hnc15 := NB384_1.out
    obtain ⟨hcz16_0, hcz16_1, hcz16_2, hcz16_3, hfz16_0, hfz16_1, hfz16_2, hfz16_3⟩ := bc4_ BK1.out
    obtain ⟨hcz17_0, hcz17_1, hfz17_0, hfz17_1⟩ := bc2_ BK384.out
    go_wp2_with (first | ((with_reducible refine gate_callee (f := 63) rfl ?_); refine goesL_ (some 8) rfl rfl Try.func63 (by kernel_rfl) rfl #[.slice A1_1 l1_1.length c1_1, .int .i64 a0_0] rfl mp_ ?_; (with_reducible refine (slices_Contains_int_int.calls k _ _ l1_1 a0_0 false _ ?side1 ?side2 A4.out).mono ?_); (case side1 => exact pc_ (Kd.C_below HR1_1.out HB.out)); (case side2 => exact HC1_1.out); rintro e w' ⟨rfl, ⟨nd, rfl⟩⟩; refine ⟨_, rfl, ?_⟩) | (go_at_call 63; (with_reducible refine (slices_Contains_int_int.calls k _ _ l1_2 a0_0 true _ ?side1 ?side2 A13.out).mono ?_); (case side1 => exact pc_ (Kd.C_below HR1_2.out (pb1_ HB.out GE384.out))); (case side2 => exact HC1_2.out); rintro e w' ⟨rfl, ⟨nd, rfl⟩⟩))
    go_ret
    exact ⟨er_, pb1_ HB.out GE384.out⟩
  replace c14 := Bool.eq_false_iff.mpr c14
  subst c14
  rw [if_neg (show ¬ (false = true) by decide)] at H
  replace H := Option.bind_eq_some_iff.mp H
  obtain ⟨t387, A180, H⟩ := H
  replace H : (some (!t387)) = some r := H
  have A18 := Aside0.mk A180
  clear A180
  obtain rfl := Option.some.inj H
  have hnb19 := NB1_384.out
  have hnc19 := NB384_1.out
  obtain ⟨hcz20_0, hcz20_1, hcz20_2, hcz20_3, hfz20_0, hfz20_1, hfz20_2, hfz20_3⟩ := bc4_ BK1.out
  obtain ⟨hcz21_0, hcz21_1, hfz21_0, hfz21_1⟩ := bc2_ BK384.out
  go_wp2_with (first | ((with_reducible refine gate_callee (f := 63) rfl ?_); refine goesL_ (some 8) rfl rfl Try.func63 (by kernel_rfl) rfl #[.slice A1_1 l1_1.length c1_1, .int .i64 a0_0] rfl mp_ ?_; (with_reducible refine (slices_Contains_int_int.calls k _ _ l1_1 a0_0 false _ ?side1 ?side2 A4.out).mono ?_); (case side1 => exact pc_ (Kd.C_below HR1_1.out HB.out)); (case side2 => exact HC1_1.out); rintro e w' ⟨rfl, ⟨nd, rfl⟩⟩; refine ⟨_, rfl, ?_⟩) | (go_at_call 63; (with_reducible refine (slices_Contains_int_int.calls k _ _ l1_2 a0_0 false _ ?side1 ?side2 A13.out).mono ?_); (case side1 => exact pc_ (Kd.C_below HR1_2.out (pb1_ HB.out GE384.out))); (case side2 => exact HC1_2.out); rintro e w' ⟨rfl, ⟨nd, rfl⟩⟩) | (go_at_call 61; (with_reducible refine (impl_InRange.calls a0_0 1 3 t387 _ A18.out).mono ?_); rintro e w' ⟨rfl, ⟨nd, rfl⟩⟩))
  go_ret
  exact ⟨er_, pb1_ HB.out GE384.out⟩

/-! ### slices_IndexFunc_impl_Ext_impl_Ext_with_impl_loses_1: function 100008 -/
def slices_IndexFunc_impl_Ext_impl_Ext_with_impl_loses_1.l0 : Nat → List (S69) → Int → Int → Int → List Int → List Int → Bool → Option (Int)
  | 0, _, _, _, _, _, _, _ => none
  | k + 1, x0, x7, x8, x2000, x2001, x2002, x2003 => if x8 < x7 then (if 0 ≤ x8 then (if x8 < (x0.length : Int) then ((impl_loses_1.f k ((rd_T69 x0 x8).f0) ((rd_T69 x0 x8).f1) x2000 x2001 x2002 x2003).bind fun t389 => (if t389 = true then (some x8) else (slices_IndexFunc_impl_Ext_impl_Ext_with_impl_loses_1.l0 k x0 x7 (wrap64 (x8 + 1)) x2000 x2001 x2002 x2003))) else (none)) else (none)) else (some (-1))
def slices_IndexFunc_impl_Ext_impl_Ext_with_impl_loses_1.f (k : Nat) (l0 : List (S69)) (a1_0 : Int) (l1_1 : List Int) (l1_2 : List Int) (a1_3 : Bool) : Option (Int) := slices_IndexFunc_impl_Ext_impl_Ext_with_impl_loses_1.l0 k l0 (l0.length : Int) 0 a1_0 l1_1 l1_2 a1_3
theorem slices_IndexFunc_impl_Ext_impl_Ext_with_impl_loses_1.mono_l : ∀ k, (∀ y0 y1 y2 y3 y4 y5 y6, LeO (slices_IndexFunc_impl_Ext_impl_Ext_with_impl_loses_1.l0 k y0 y1 y2 y3 y4 y5 y6) (slices_IndexFunc_impl_Ext_impl_Ext_with_impl_loses_1.l0 (k + 1) y0 y1 y2 y3 y4 y5 y6))
  | 0 => fun _ _ _ _ _ _ _ r h => by simp [slices_IndexFunc_impl_Ext_impl_Ext_with_impl_loses_1.l0] at h
  | k + 1 => by
    have ih0 := slices_IndexFunc_impl_Ext_impl_Ext_with_impl_loses_1.mono_l k
    · intro y0 y1 y2 y3 y4 y5 y6
      unfold slices_IndexFunc_impl_Ext_impl_Ext_with_impl_loses_1.l0
      repeat' first
      | (with_reducible exact ih0 _ _ _ _ _ _ _)
      | (with_reducible exact impl_loses_1.mono _ _ _ _ _ _ _)
      | (with_reducible exact LeO.refl _)
      | (with_reducible exact LeO.none _)
      | (with_reducible refine LeO.ite ?_ ?_)
      | (with_reducible refine LeO.bind ?_ (fun _ => ?_))
      | exact ih0 _ _ _ _ _ _ _
      | exact impl_loses_1.mono _ _ _ _ _ _ _
      | exact LeO.none _
      | refine LeO.ite ?_ ?_
      | refine LeO.bind ?_ (fun _ => ?_)
theorem slices_IndexFunc_impl_Ext_impl_Ext_with_impl_loses_1.mono : ∀ a0 a1 a2 a3 a4 k, LeO (slices_IndexFunc_impl_Ext_impl_Ext_with_impl_loses_1.f k a0 a1 a2 a3 a4) (slices_IndexFunc_impl_Ext_impl_Ext_with_impl_loses_1.f (k + 1) a0 a1 a2 a3 a4) := by
  intro a0 a1 a2 a3 a4 k
  have ih0 := slices_IndexFunc_impl_Ext_impl_Ext_with_impl_loses_1.mono_l k
  unfold slices_IndexFunc_impl_Ext_impl_Ext_with_impl_loses_1.f
  repeat' first
      | (with_reducible exact ih0 _ _ _ _ _ _ _)
      | (with_reducible exact impl_loses_1.mono _ _ _ _ _ _ _)
      | (with_reducible exact LeO.refl _)
      | (with_reducible exact LeO.none _)
      | (with_reducible refine LeO.ite ?_ ?_)
      | (with_reducible refine LeO.bind ?_ (fun _ => ?_))
      | exact ih0 _ _ _ _ _ _ _
      | exact impl_loses_1.mono _ _ _ _ _ _ _
      | exact LeO.none _
      | refine LeO.ite ?_ ?_
      | refine LeO.bind ?_ (fun _ => ?_)
set_option maxHeartbeats 8000000 in
set_option maxRecDepth 100000 in
theorem slices_IndexFunc_impl_Ext_impl_Ext_with_impl_loses_1.calls (k : Nat) (A0 : Option Addr) (c0 : Nat) (l0 : List (S69)) (B1 : Nat) (a1_0 : Int) (A1_1 : Option Addr) (c1_1 : Nat) (l1_1 : List Int) (A1_2 : Option Addr) (c1_2 : Nat) (l1_2 : List Int) (a1_3 : Bool) (r : Int) (w : World) (hr0 : Kd.C k69 w A0 l0.length l0) (hc0 : l0.length ≤ c0) (hr1_1 : Kd.C (Kd.int .i64) w A1_1 l1_1.length l1_1) (hc1_1 : l1_1.length ≤ c1_1) (hr1_2 : Kd.C (Kd.int .i64) w A1_2 l1_2.length l1_2) (hc1_2 : l1_2.length ≤ c1_2) (hbv1 : w.heap[B1]? = some (.cells #[.int .i64 a1_0, .slice A1_1 l1_1.length c1_1, .slice A1_2 l1_2.length c1_2, .bool a1_3] 50 (0, 0))) (h : slices_IndexFunc_impl_Ext_impl_Ext_with_impl_loses_1.f k l0 a1_0 l1_1 l1_2 a1_3 = some r) :
    Calls Try.prog 99 #[.slice A0 l0.length c0, .func (.func 106) #[] #[.pointer (some ⟨B1, 0, none⟩)]] w fun e w' => e = .returned (.int .i64 r) ∧ Below w.heap.size w w' := by
  have hu69 := Try.underlying69
  have HR0 := Aside0.mk hr0
  have HC0 := Aside0.mk hc0
  clear hr0 hc0
  have HR1_1 := Aside0.mk hr1_1
  have HC1_1 := Aside0.mk hc1_1
  clear hr1_1 hc1_1
  have HR1_2 := Aside0.mk hr1_2
  have HC1_2 := Aside0.mk hc1_2
  clear hr1_2 hc1_2
  have BK1 := Aside0.mk hbv1
  clear hbv1
  have HB := Aside0.mk (Below.refl w.heap.size w)
  have H : (slices_IndexFunc_impl_Ext_impl_Ext_with_impl_loses_1.l0 k l0 (l0.length : Int) 0 a1_0 l1_1 l1_2 a1_3) = some r := h
  clear h
  have H' := Aside0.mk H
  clear H
  go_enter Try.func99, Try.ntmps99
  go_wp2
  go_loopg [8] k (fun kq v8 w' => ∃ (x8_1 : Int), v8 = .int .i64 x8_1 ∧ Aside0 (slices_IndexFunc_impl_Ext_impl_Ext_with_impl_loses_1.l0 kq l0 (l0.length : Int) x8_1 a1_0 l1_1 l1_2 a1_3 = some r) ∧ Aside0 (kq ≤ k) ∧ Aside0 (w'.heap[B1]? = some (.cells #[.int .i64 a1_0, (.slice A1_1 l1_1.length c1_1), (.slice A1_2 l1_2.length c1_2), .bool a1_3] 50 (0, 0))) ∧ Aside0 (Below w.heap.size w w'))
  case atStart => exact ⟨(0), el_, H', ⟨Nat.le_refl _⟩, ⟨pk_ BK1.out⟩, ⟨pb_ HB.out⟩⟩
  clear H'
  try clear c1
  try clear p2
  obtain ⟨x8_1, rfl, HA, HK1, BK1, HB⟩ := hrel
  rcases gk with _ | k1
  · exact absurd HA.out (by simp [slices_IndexFunc_impl_Ext_impl_Ext_with_impl_loses_1.l0])
  have H := HA.out
  clear HA
  simp only [slices_IndexFunc_impl_Ext_impl_Ext_with_impl_loses_1.l0] at H
  by_cases c3 : x8_1 < (l0.length : Int)
  rotate_left
  · rw [if_neg c3] at H
    have c3b0 : decide (x8_1 < (l0.length : Int)) = false := decide_eq_false c3
    clear c3
    obtain rfl := Option.some.inj H
    go_wp2
    go_ret
    exact ⟨er_, pb_ HB.out⟩
  rw [if_pos c3] at H
  have c3b0 : decide (x8_1 < (l0.length : Int)) = true := decide_eq_true c3
  clear c3
  by_cases c4 : 0 ≤ x8_1
  rotate_left
  · rw [if_neg c4] at H
    exact absurd H (by simp)
  rw [if_pos c4] at H
  have c4b0 : decide (0 ≤ x8_1) = true := decide_eq_true c4
  clear c4
  by_cases c5 : x8_1 < (l0.length : Int)
  rotate_left
  · rw [if_neg c5] at H
    exact absurd H (by simp)
  rw [if_pos c5] at H
  have c5b0 : decide (x8_1 < (l0.length : Int)) = true := decide_eq_true c5
  clear c5
  replace H := Option.bind_eq_some_iff.mp H
  obtain ⟨t389, A60, H⟩ := H
  (try dsimp only at H)
  have A6 := Aside0.mk A60
  clear A60
  have HS_ := Aside0.mk H
  clear H
  have p388 : 0 ≤ (x8_1 : Int) := dt_
  have q388 : x8_1 < (l0.length : Int) := dt_
  obtain ⟨ad388, A388_1, c388_1, e388, hx388_0, hx388_1, hl388_1, hi388_1⟩ := at_T69 HR0.out x8_1 p388 q388
  cases e388
  replace hx388_0 := (HB.out.cell (World.block_lt_of_cell? w _ hx388_0)).trans hx388_0
  replace hx388_1 := (HB.out.cell (World.block_lt_of_cell? w _ hx388_1)).trans hx388_1
  have HR388_1 := Aside0.mk hi388_1
  have HC388_1 := Aside0.mk hl388_1
  clear hi388_1 hl388_1
  replace p388 := eq_true p388
  replace q388 := eq_true q388
  go_upto_if 16 with (first | (go_at_call 106; (with_reducible refine (impl_loses_1.calls k1 ((rd_T69 l0 x8_1).f0) _ _ ((rd_T69 l0 x8_1).f1) _ a1_0 A1_1 c1_1 l1_1 A1_2 c1_2 l1_2 a1_3 t389 _ ?side1 ?side2 ?side3 ?side4 ?side5 ?side6 ?side7 A6.out).mono ?_); (case side1 => exact pc_ (Kd.C_below HR388_1.out HB.out)); (case side2 => exact HC388_1.out); (case side3 => exact pc_ (Kd.C_below HR1_1.out HB.out)); (case side4 => exact HC1_1.out); (case side5 => exact pc_ (Kd.C_below HR1_2.out HB.out)); (case side6 => exact HC1_2.out); (case side7 => exact pk_ BK1.out); rintro e w7 ⟨rfl, hb⟩; have n0_ := Aside0.mk (bb_ BK1.out hb); have n1_ := Aside0.mk (below_step (pb_ HB.out) hb); clear BK1; clear HB; have BK1 := n0_; have HB := n1_; clear n0_ n1_; (try clear hb); (try clear hb2); (try clear hk); (try clear hi)))
  (try simp only [Act.put, List.setIfInBounds_toArray, List.set_cons_zero, List.set_cons_succ])
  have H := HS_.out
  clear HS_
  by_cases c8 : t389 = true
  rotate_left
  · replace c8 := Bool.eq_false_iff.mpr c8
    subst c8
    rw [if_neg (show ¬ (false = true) by decide)] at H
    have H' := Aside0.mk H
    clear H
    go_wp2
    go_roundg k1
    case measure => have := HK1.out; omega
    case rel => exact ⟨(wrap64 (x8_1 + 1)), el_, H', ⟨by have := HK1.out; omega⟩, ⟨pk_ BK1.out⟩, ⟨pb_ HB.out⟩⟩
  subst c8
  rw [if_pos rfl] at H
  obtain rfl := Option.some.inj H
  go_wp2
  go_ret
  exact ⟨er_, pb_ HB.out⟩

/-! ### slices_ContainsFunc_impl_Ext_impl_Ext_with_impl_loses_1: function 100007 -/
def slices_ContainsFunc_impl_Ext_impl_Ext_with_impl_loses_1.f (k : Nat) (l0 : List (S69)) (a1_0 : Int) (l1_1 : List Int) (l1_2 : List Int) (a1_3 : Bool) : Option (Bool) := (slices_IndexFunc_impl_Ext_impl_Ext_with_impl_loses_1.f k l0 a1_0 l1_1 l1_2 a1_3).bind fun t390 => (some (decide (t390 ≥ 0)))
theorem slices_ContainsFunc_impl_Ext_impl_Ext_with_impl_loses_1.mono : ∀ a0 a1 a2 a3 a4 k, LeO (slices_ContainsFunc_impl_Ext_impl_Ext_with_impl_loses_1.f k a0 a1 a2 a3 a4) (slices_ContainsFunc_impl_Ext_impl_Ext_with_impl_loses_1.f (k + 1) a0 a1 a2 a3 a4) := by
  intro a0 a1 a2 a3 a4 k
  unfold slices_ContainsFunc_impl_Ext_impl_Ext_with_impl_loses_1.f
  repeat' first
      | (with_reducible exact slices_IndexFunc_impl_Ext_impl_Ext_with_impl_loses_1.mono _ _ _ _ _ _)
      | (with_reducible exact LeO.refl _)
      | (with_reducible exact LeO.none _)
      | (with_reducible refine LeO.ite ?_ ?_)
      | (with_reducible refine LeO.bind ?_ (fun _ => ?_))
      | exact slices_IndexFunc_impl_Ext_impl_Ext_with_impl_loses_1.mono _ _ _ _ _ _
      | exact LeO.none _
      | refine LeO.ite ?_ ?_
      | refine LeO.bind ?_ (fun _ => ?_)
set_option maxHeartbeats 8000000 in
set_option maxRecDepth 100000 in
theorem slices_ContainsFunc_impl_Ext_impl_Ext_with_impl_loses_1.calls (k : Nat) (A0 : Option Addr) (c0 : Nat) (l0 : List (S69)) (B1 : Nat) (a1_0 : Int) (A1_1 : Option Addr) (c1_1 : Nat) (l1_1 : List Int) (A1_2 : Option Addr) (c1_2 : Nat) (l1_2 : List Int) (a1_3 : Bool) (r : Bool) (w : World) (hr0 : Kd.C k69 w A0 l0.length l0) (hc0 : l0.length ≤ c0) (hr1_1 : Kd.C (Kd.int .i64) w A1_1 l1_1.length l1_1) (hc1_1 : l1_1.length ≤ c1_1) (hr1_2 : Kd.C (Kd.int .i64) w A1_2 l1_2.length l1_2) (hc1_2 : l1_2.length ≤ c1_2) (hbv1 : w.heap[B1]? = some (.cells #[.int .i64 a1_0, .slice A1_1 l1_1.length c1_1, .slice A1_2 l1_2.length c1_2, .bool a1_3] 50 (0, 0))) (h : slices_ContainsFunc_impl_Ext_impl_Ext_with_impl_loses_1.f k l0 a1_0 l1_1 l1_2 a1_3 = some r) :
    Calls Try.prog 105 #[.slice A0 l0.length c0, .func (.func 106) #[] #[.pointer (some ⟨B1, 0, none⟩)]] w fun e w' => e = .returned (.bool r) ∧ Below w.heap.size w w' := by
  have HR0 := Aside0.mk hr0
  have HC0 := Aside0.mk hc0
  clear hr0 hc0
  have HR1_1 := Aside0.mk hr1_1
  have HC1_1 := Aside0.mk hc1_1
  clear hr1_1 hc1_1
  have HR1_2 := Aside0.mk hr1_2
  have HC1_2 := Aside0.mk hc1_2
  clear hr1_2 hc1_2
  have BK1 := Aside0.mk hbv1
  clear hbv1
  have HB := Aside0.mk (Below.refl w.heap.size w)
  have H : ((slices_IndexFunc_impl_Ext_impl_Ext_with_impl_loses_1.f k l0 a1_0 l1_1 l1_2 a1_3).bind fun t390 => (some (decide (t390 ≥ 0)))) = some r := h
  clear h
  replace H := Option.bind_eq_some_iff.mp H
  obtain ⟨t390, A30, H⟩ := H
  replace H : (some (decide (t390 ≥ 0))) = some r := H
  have A3 := Aside0.mk A30
  clear A30
  obtain rfl := Option.some.inj H
  go_enter Try.func105, Try.ntmps105
  go_wp2_with (first | (go_at_call 99; (with_reducible refine (slices_IndexFunc_impl_Ext_impl_Ext_with_impl_loses_1.calls k _ _ l0 _ a1_0 A1_1 c1_1 l1_1 A1_2 c1_2 l1_2 a1_3 t390 _ ?side1 ?side2 ?side3 ?side4 ?side5 ?side6 ?side7 A3.out).mono ?_); (case side1 => exact pc_ HR0.out); (case side2 => exact HC0.out); (case side3 => exact pc_ HR1_1.out); (case side4 => exact HC1_1.out); (case side5 => exact pc_ HR1_2.out); (case side6 => exact HC1_2.out); (case side7 => exact pk_ BK1.out); rintro e w4 ⟨rfl, hb⟩; have n0_ := Aside0.mk (bb_ BK1.out hb); have n1_ := Aside0.mk (below_step (pb_ HB.out) hb); clear BK1; clear HB; have BK1 := n0_; have HB := n1_; clear n0_ n1_; (try clear hb); (try clear hb2); (try clear hk); (try clear hi)))
  go_ret
  exact ⟨er_, pb_ HB.out⟩

/-! ### impl_loses: function 93 -/
def impl_loses.f (k : Nat) (a0_0 : Int) (l0_1 : List Int) (l0_2 : List Int) (a0_3 : Bool) (l1_0 : List Int) (l1_1 : List (S69)) : Option (Bool) := if a0_0 = 0 then ((slices_ContainsFunc_impl_Ext_impl_Ext_with_impl_loses_1.f k l1_1 a0_0 l0_1 l0_2 a0_3).bind fun t393 => (some t393)) else ((slices_Max_int_int.f k l1_0).bind fun t394 => (if t394 > a0_0 then (some true) else ((slices_ContainsFunc_impl_Ext_impl_Ext_with_impl_loses_1.f k l1_1 a0_0 l0_1 l0_2 a0_3).bind fun t395 => (some t395))))
theorem impl_loses.mono : ∀ a0 a1 a2 a3 a4 a5 k, LeO (impl_loses.f k a0 a1 a2 a3 a4 a5) (impl_loses.f (k + 1) a0 a1 a2 a3 a4 a5) := by
  intro a0 a1 a2 a3 a4 a5 k
  unfold impl_loses.f
  repeat' first
      | (with_reducible exact slices_ContainsFunc_impl_Ext_impl_Ext_with_impl_loses_1.mono _ _ _ _ _ _)
      | (with_reducible exact slices_Max_int_int.mono _ _)
      | (with_reducible exact LeO.refl _)
      | (with_reducible exact LeO.none _)
      | (with_reducible refine LeO.ite ?_ ?_)
      | (with_reducible refine LeO.bind ?_ (fun _ => ?_))
      | exact slices_ContainsFunc_impl_Ext_impl_Ext_with_impl_loses_1.mono _ _ _ _ _ _
      | exact slices_Max_int_int.mono _ _
      | exact LeO.none _
      | refine LeO.ite ?_ ?_
      | refine LeO.bind ?_ (fun _ => ?_)
def impl_loses.T1 : Bool × List (List Nat × List Nat) := (true, [([], []), ([0], [0]), ([1], [1]), ([2], [2]), ([3], [3]), ([4, 3], [3, 4]), ([5, 3, 3], [3, 5]), ([3], [3]), ([7, 3], [3, 7]), ([6, 8, 3], [3, 6, 8]), ([3, 9], [3, 9])])
def impl_loses.B1 : List Nat := [0, 1, 3, 7, 15, 31, 63, 15, 143, 511, 1023]
theorem impl_loses.tab1 : rtab .any (opsOf Try.f93 1) = impl_loses.T1 := by kernel_rfl
theorem impl_loses.bits1 : waitsOk impl_loses.T1.2 impl_loses.B1 = true := by kernel_rfl
set_option maxHeartbeats 8000000 in
set_option maxRecDepth 100000 in
theorem impl_loses.calls (k : Nat) (a0_0 : Int) (A0_1 : Option Addr) (c0_1 : Nat) (l0_1 : List Int) (A0_2 : Option Addr) (c0_2 : Nat) (l0_2 : List Int) (a0_3 : Bool) (A1_0 : Option Addr) (c1_0 : Nat) (l1_0 : List Int) (A1_1 : Option Addr) (c1_1 : Nat) (l1_1 : List (S69)) (r : Bool) (w : World) (hr0_1 : Kd.C (Kd.int .i64) w A0_1 l0_1.length l0_1) (hc0_1 : l0_1.length ≤ c0_1) (hr0_2 : Kd.C (Kd.int .i64) w A0_2 l0_2.length l0_2) (hc0_2 : l0_2.length ≤ c0_2) (hr1_0 : Kd.C (Kd.int .i64) w A1_0 l1_0.length l1_0) (hc1_0 : l1_0.length ≤ c1_0) (hr1_1 : Kd.C k69 w A1_1 l1_1.length l1_1) (hc1_1 : l1_1.length ≤ c1_1) (h : impl_loses.f k a0_0 l0_1 l0_2 a0_3 l1_0 l1_1 = some r) :
    Calls Try.prog 93 #[.agg #[.int .i64 a0_0, .slice A0_1 l0_1.length c0_1, .slice A0_2 l0_2.length c0_2, .bool a0_3], .agg #[.slice A1_0 l1_0.length c1_0, .slice A1_1 l1_1.length c1_1]] w fun e w' => e = .returned (.bool r) ∧ Below w.heap.size w w' := by
  have hu50 := Try.underlying50
  have hu63 := Try.underlying63
  have HR0_1 := Aside0.mk hr0_1
  have HC0_1 := Aside0.mk hc0_1
  clear hr0_1 hc0_1
  have HR0_2 := Aside0.mk hr0_2
  have HC0_2 := Aside0.mk hc0_2
  clear hr0_2 hc0_2
  have HR1_0 := Aside0.mk hr1_0
  have HC1_0 := Aside0.mk hc1_0
  clear hr1_0 hc1_0
  have HR1_1 := Aside0.mk hr1_1
  have HC1_1 := Aside0.mk hc1_1
  clear hr1_1 hc1_1
  have HB := Aside0.mk (Below.refl w.heap.size w)
  have H : (if a0_0 = 0 then ((slices_ContainsFunc_impl_Ext_impl_Ext_with_impl_loses_1.f k l1_1 a0_0 l0_1 l0_2 a0_3).bind fun t393 => (some t393)) else ((slices_Max_int_int.f k l1_0).bind fun t394 => (if t394 > a0_0 then (some true) else ((slices_ContainsFunc_impl_Ext_impl_Ext_with_impl_loses_1.f k l1_1 a0_0 l0_1 l0_2 a0_3).bind fun t395 => (some t395))))) = some r := h
  clear h
  have HS_ := Aside0.mk H
  clear H
  go_enter Try.func93, Try.ntmps93
  go_upto_region 1 with (first | ((with_reducible refine gate_dst (N := 2) rfl ?_); refine box_event ?hg (N := 2) ?hd (cs := #[.int .i64 a0_0, .slice A0_1 l0_1.length c0_1, .slice A0_2 l0_2.length c0_2, .bool a0_3]) (t := 50) ?hr ?_; (case hd => rfl); (case hg => rfl); (case hr => first | (go_simp; done) | (go_simp; rfl)); intro gb391 hg w3 hbox hb; have n0_ := Aside0.mk (below_step (pb_ HB.out) hb); have n1_ := Aside0.mk (hbox); have n2_ := Aside0.mk ((by rw [hg]; exact (below_size (pb_ HB.out)) : w.heap.size ≤ gb391)); have n3_ := Aside0.mk ((by rw [hg]; exact (below_size (pb_ HB.out)) : w.heap.size ≤ gb391)); clear HB; have HB := n0_; have BK391 := n1_; have GW391 := n2_; have GE391 := n3_; clear n0_ n1_ n2_ n3_; clear hb hbox hg) | ((with_reducible refine gate_dst (N := 3) rfl ?_); refine box_event ?hg (N := 3) ?hd (cs := #[.slice A1_0 l1_0.length c1_0, .slice A1_1 l1_1.length c1_1]) (t := 63) ?hr ?_; (case hd => rfl); (case hg => rfl); (case hr => first | (go_simp; done) | (go_simp; rfl)); intro gb392 hg w4 hbox hb; have n0_ := Aside0.mk (bb_ BK391.out hb); have n1_ := Aside0.mk (below_step (pb1_ HB.out GE391.out) hb); have n2_ := Aside0.mk (hbox); have n3_ := Aside0.mk ((by rw [hg]; exact (below_size (pb1_ HB.out GE391.out)) : w.heap.size ≤ gb392)); have n4_ := Aside0.mk ((by rw [hg]; exact (below_size (pb1_ HB.out GE391.out)) : w.heap.size ≤ gb392)); have n5_ := Aside0.mk ((by rw [hg]; exact Nat.ne_of_lt (blk_lt (pk_ BK391.out)) : gb391 ≠ gb392)); have n6_ := Aside0.mk ((by rw [hg]; exact Nat.ne_of_gt (blk_lt (pk_ BK391.out)) : gb392 ≠ gb391)); clear BK391; clear HB; have BK391 := n0_; have HB := n1_; have BK392 := n2_; have GW392 := n3_; have GE392 := n4_; have NB391_392 := n5_; have NB392_391 := n6_; clear n0_ n1_ n2_ n3_ n4_ n5_ n6_; clear hb hbox hg))
  (try simp only [Act.put, List.setIfInBounds_toArray, List.set_cons_zero, List.set_cons_succ])
  have H := HS_.out
  clear HS_
  by_cases c5 : a0_0 = 0
  · rw [if_pos c5] at H
    have c5b0 : (a0_0 == 0) = true := beq_iff_eq.mpr c5
    have c5b1 : (a0_0 != 0) = false := bne_eq_false_iff_eq.mpr c5
    clear c5
    (first | rw [c5b0] | (simp only [i64_w, i32_w]; rw [c5b0]) | rw [c5b1] | (have c_ := c5b1; rw [bne] at c_; rw [c_]; clear c_) | skip)
    replace H := Option.bind_eq_some_iff.mp H
    obtain ⟨t393, A60, H⟩ := H
    replace H : (some t393) = some r := H
    have A6 := Aside0.mk A60
    clear A60
    obtain rfl := Option.some.inj H
    try go_wp2
    have n0_ := Aside0.mk (blk_drew BK391.out)
    have n1_ := Aside0.mk (blk_drew BK392.out)
    have n2_ := Aside0.mk (below_drew1 HB.out)
    clear BK391
    clear BK392
    clear HB
    have BK391 := n0_
    have BK392 := n1_
    have HB := n2_
    clear n0_ n1_ n2_
    refine start_ (n := 11) (S := fun w' => w'.cell? ⟨gb391, 0, none⟩ = some (.int .i64 a0_0) ∧ w'.cell? ⟨gb391, 1, none⟩ = some (.slice A0_1 l0_1.length c0_1) ∧ w'.cell? ⟨gb391, 2, none⟩ = some (.slice A0_2 l0_2.length c0_2) ∧ w'.cell? ⟨gb391, 3, none⟩ = some (.bool a0_3)) (ds := []) #[false, false, false, false, false, false, false, false, false, false, false] (by kernel_rfl) rfl rfl ⟨(blk_cell BK391.out 0).trans rfl, (blk_cell BK391.out 1).trans rfl, (blk_cell BK391.out 2).trans rfl, (blk_cell BK391.out 3).trans rfl⟩ (fun hHeld => ?_); refine with_tabW impl_loses.tab1 impl_loses.bits1 (fun HT_ HW_ => ?_)
    generalize w4.drew = w7 at BK391 BK392 HB hHeld ⊢
    refine pu_ 0 (some 5) (tf_ 1 11) HT_ ?_
    refine ta_ 1 (some 6) (tf_ 2 11) HT_ HW_ hHeld ?_
    refine pu_ 2 (some 7) (tf_ 3 11) HT_ ?_
    refine pu_ 3 (some 8) (tf_ 4 11) HT_ ?_
    refine pn_ 4 (some 9) (tf_ 5 11) HT_ ?_
    refine pn_ 5 (some 10) (tf_ 6 11) HT_ ?_
    refine pn_ 6 (some 11) (tf_ 7 11) HT_ ?_
    refine pn_ 7 (some 12) (tf_ 8 11) HT_ ?_
    refine pn_ 8 (some 13) (tf_ 9 11) HT_ ?_
    refine pn_ 9 (some 14) (tf_ 10 11) HT_ ?_
    refine pu_ 10 (some 15) (tf_ 11 11) HT_ ?_
    refine done_ (done_of HT_.out (by kernel_rfl)) ?_
    have hnb8 := NB392_391.out
    have hnc8 := NB391_392.out
    obtain ⟨hcz9_0, hcz9_1, hfz9_0, hfz9_1⟩ := bc2_ BK392.out
    try go_wp2_with (first | (go_at_call 105; (with_reducible refine (slices_ContainsFunc_impl_Ext_impl_Ext_with_impl_loses_1.calls k _ _ l1_1 _ a0_0 A0_1 c0_1 l0_1 A0_2 c0_2 l0_2 a0_3 t393 _ ?side1 ?side2 ?side3 ?side4 ?side5 ?side6 ?side7 A6.out).mono ?_); (case side1 => exact pc_ (Kd.C_below HR1_1.out HB.out)); (case side2 => exact HC1_1.out); (case side3 => exact pc_ (Kd.C_below HR0_1.out HB.out)); (case side4 => exact HC0_1.out); (case side5 => exact pc_ (Kd.C_below HR0_2.out HB.out)); (case side6 => exact HC0_2.out); (case side7 => exact pk_ BK391.out); rintro e w10 ⟨rfl, hb⟩; have n0_ := Aside0.mk (bb_ BK391.out hb); have n1_ := Aside0.mk (bb_ BK392.out hb); have n2_ := Aside0.mk (below_step (pb2_ HB.out GE391.out GE392.out) hb); clear BK391; clear BK392; clear HB; have BK391 := n0_; have BK392 := n1_; have HB := n2_; clear n0_ n1_ n2_; (try clear hb); (try clear hb2); (try clear hk); (try clear hi)))
    go_ret
    exact ⟨er_, pb2_ HB.out GE391.out GE392.out⟩
  rw [if_neg c5] at H
  have c5b0 : (a0_0 == 0) = false := beq_eq_false_iff_ne.mpr c5
  have c5b1 : (a0_0 != 0) = true := bne_iff_ne.mpr c5
  (first | rw [c5b0] | (simp only [i64_w, i32_w]; rw [c5b0]) | rw [c5b1] | (have c_ := c5b1; rw [bne] at c_; rw [c_]; clear c_) | skip)
  replace H := Option.bind_eq_some_iff.mp H
  obtain ⟨t394, A110, H⟩ := H
  (try dsimp only at H)
  have A11 := Aside0.mk A110
  clear A110
  have HS_ := Aside0.mk H
  clear H
  try go_wp2
  have n0_ := Aside0.mk (blk_drew BK391.out)
  have n1_ := Aside0.mk (blk_drew BK392.out)
  have n2_ := Aside0.mk (below_drew1 HB.out)
  clear BK391
  clear BK392
  clear HB
  have BK391 := n0_
  have BK392 := n1_
  have HB := n2_
  clear n0_ n1_ n2_
  refine start_ (n := 11) (S := fun w' => w'.cell? ⟨gb391, 0, none⟩ = some (.int .i64 a0_0) ∧ w'.cell? ⟨gb391, 1, none⟩ = some (.slice A0_1 l0_1.length c0_1) ∧ w'.cell? ⟨gb391, 2, none⟩ = some (.slice A0_2 l0_2.length c0_2) ∧ w'.cell? ⟨gb391, 3, none⟩ = some (.bool a0_3) ∧ w'.cell? ⟨gb392, 0, none⟩ = some (.slice A1_0 l1_0.length c1_0) ∧ w'.cell? ⟨gb392, 1, none⟩ = some (.slice A1_1 l1_1.length c1_1)) (ds := []) #[false, false, false, false, false, false, false, false, false, false, false] (by kernel_rfl) rfl rfl ⟨(blk_cell BK391.out 0).trans rfl, (blk_cell BK391.out 1).trans rfl, (blk_cell BK391.out 2).trans rfl, (blk_cell BK391.out 3).trans rfl, (blk_cell BK392.out 0).trans rfl, (blk_cell BK392.out 1).trans rfl⟩ (fun hHeld => ?_); refine with_tabW impl_loses.tab1 impl_loses.bits1 (fun HT_ HW_ => ?_)
  generalize w4.drew = w12 at BK391 BK392 HB hHeld ⊢
  refine pu_ 0 (some 5) (tf_ 1 11) HT_ ?_
  refine ta_ 1 (some 6) (tf_ 2 11) HT_ HW_ hHeld ?_
  refine pu_ 2 (some 7) (tf_ 3 11) HT_ ?_
  refine pu_ 3 (some 8) (tf_ 4 11) HT_ ?_
  refine pu_ 4 (some 9) (tf_ 5 11) HT_ ?_
  refine pu_ 7 (some 12) #[true, true, true, true, true, false, false, true, false, false, false] HT_ ?_
  refine ta_ 5 (some 10) #[true, true, true, true, true, true, false, true, false, false, false] HT_ HW_ hHeld ?_
  refine ta_ 8 (some 13) #[true, true, true, true, true, true, false, true, true, false, false] HT_ HW_ hHeld ?_
  refine on_ 6 (some 11) (tf_ 9 11) HT_ (fun K hK => ?_)
  refine goes_ Try.func104 (by kernel_rfl) rfl #[.slice A1_0 l1_0.length c1_0] (by rfl) rfl rfl mp_ ?_
  with_reducible refine (slices_Max_int_int.calls k _ _ l1_0 t394 _ ?side1 ?side2 A11.out).mono ?_
  (case side1 => exact pc_ (Kd.C_below HR1_0.out HB.out))
  (case side2 => exact HC1_0.out)
  rintro e w13 ⟨rfl, hb⟩
  refine ⟨_, rfl, ?_⟩
  have n0_ := Aside0.mk (bb_ BK391.out hb)
  have n1_ := Aside0.mk (bb_ BK392.out hb)
  have n2_ := Aside0.mk (below_step (pb2_ HB.out GE391.out GE392.out) hb)
  clear BK391
  clear BK392
  clear HB
  have BK391 := n0_
  have BK392 := n1_
  have HB := n2_
  clear n0_ n1_ n2_
  (try clear hb)
  (try clear hb2)
  (try clear hk)
  (try clear hi)
  refine hK.out _ _ ⟨(blk_cell BK391.out 0).trans rfl, (blk_cell BK391.out 1).trans rfl, (blk_cell BK391.out 2).trans rfl, (blk_cell BK391.out 3).trans rfl, (blk_cell BK392.out 0).trans rfl, (blk_cell BK392.out 1).trans rfl⟩ (fun hHeld => ?_)
  clear hK K
  refine no_ (some 11) ?_
  refine pu_ 9 (some 14) (tf_ 10 11) HT_ ?_
  refine pu_ 10 (some 15) (tf_ 11 11) HT_ ?_
  refine done_ (done_of HT_.out (by kernel_rfl)) ?_
  go_upto_if 15 with (fail)
  have H := HS_.out
  clear HS_
  by_cases c14 : t394 > a0_0
  · rw [if_pos c14] at H
    have c14b0 : decide (a0_0 < t394) = true := decide_eq_true c14
    clear c14
    (first | rw [c14b0] | (simp only [i64_w, i32_w]; rw [c14b0]) | skip)
    obtain rfl := Option.some.inj H
    go_wp2
    go_ret
    exact ⟨er_, pb2_ HB.out GE391.out GE392.out⟩
  rw [if_neg c14] at H
  have c14b0 : decide (a0_0 < t394) = false := decide_eq_false c14
  clear c14
  (first | rw [c14b0] | (simp only [i64_w, i32_w]; rw [c14b0]) | skip)
  replace H := Option.bind_eq_some_iff.mp H
  obtain ⟨t395, A150, H⟩ := H
  replace H : (some t395) = some r := H
  have A15 := Aside0.mk A150
  clear A150
  obtain rfl := Option.some.inj H
  have hnb16 := NB392_391.out
  have hnc16 := NB391_392.out
  obtain ⟨hcz17_0, hcz17_1, hfz17_0, hfz17_1⟩ := bc2_ BK392.out
  go_wp2_with (first | (go_at_call 105; (with_reducible refine (slices_ContainsFunc_impl_Ext_impl_Ext_with_impl_loses_1.calls k _ _ l1_1 _ a0_0 A0_1 c0_1 l0_1 A0_2 c0_2 l0_2 a0_3 t395 _ ?side1 ?side2 ?side3 ?side4 ?side5 ?side6 ?side7 A15.out).mono ?_); (case side1 => exact pc_ (Kd.C_below HR1_1.out HB.out)); (case side2 => exact HC1_1.out); (case side3 => exact pc_ (Kd.C_below HR0_1.out HB.out)); (case side4 => exact HC0_1.out); (case side5 => exact pc_ (Kd.C_below HR0_2.out HB.out)); (case side6 => exact HC0_2.out); (case side7 => exact pk_ BK391.out); rintro e w18 ⟨rfl, hb⟩; have n0_ := Aside0.mk (bb_ BK391.out hb); have n1_ := Aside0.mk (bb_ BK392.out hb); have n2_ := Aside0.mk (below_step (pb2_ HB.out GE391.out GE392.out) hb); clear BK391; clear BK392; clear HB; have BK391 := n0_; have BK392 := n1_; have HB := n2_; clear n0_ n1_ n2_; (try clear hb); (try clear hb2); (try clear hk); (try clear hi)))
  go_ret
  exact ⟨er_, pb2_ HB.out GE391.out GE392.out⟩

/-! ### slices_Clone_int_int: function 94 -/
def slices_Clone_int_int.f (l0 : List Int) : Option (List Int) := (some (([] : List Int) : List Int)).bind fun y396 => (if y396.length + l0.length < 17592186044416 then (some (y396 ++ l0)) else (none))
theorem slices_Clone_int_int.eqlnil (w : World) (a : Option Addr) (n c n' c' : Nat) : (binOp .eql 23 (.slice a n c) (.slice none n' c')).run Try.prog w = .ok (.bool a.isNone) w := Go.Lib.run_eql_slice_nil w 23 _ a n c n' c' Try.underlying23
attribute [local go_sem] slices_Clone_int_int.eqlnil
set_option maxHeartbeats 8000000 in
set_option maxRecDepth 100000 in
theorem slices_Clone_int_int.calls (A0 : Option Addr) (c0 : Nat) (l0 : List Int) (r : List Int) (w : World) (hr0 : Kd.C (Kd.int .i64) w A0 l0.length l0) (hc0 : l0.length ≤ c0) (h : slices_Clone_int_int.f l0 = some r) :
    Calls Try.prog 94 #[.slice A0 l0.length c0] w fun e w' => ∃ v0_ : Value, e = .returned (v0_) ∧ Kd.R (Kd.int .i64) 3 w' w.heap.size (fun _ => True) v0_ r ∧ Below w.heap.size w w' := by
  rcases A0 with _ | a0_
  · obtain rfl : l0 = [] := by
      rcases Nat.eq_zero_or_pos l0.length with h_ | h_
      · exact List.eq_nil_of_length_eq_zero h_
      · obtain ⟨_, e_, _⟩ := hr0.2.2 h_
        cases e_
    obtain rfl : r = [] := by
      unfold slices_Clone_int_int.f at h
      simp at h
      first | exact h | exact h.symm
    go_enter Try.func94, Try.ntmps94
    go_wp2
    go_ret
    exact ⟨_, rfl, Kd.R_nil _ _ _ _ _, Below.refl _ _⟩
  have HR0 := Aside0.mk hr0
  have HC0 := Aside0.mk hc0
  clear hr0 hc0
  have HB := Aside0.mk (Below.refl w.heap.size w)
  have H : ((some (([] : List Int) : List Int)).bind fun y396 => (if y396.length + l0.length < 17592186044416 then (some (y396 ++ l0)) else (none))) = some r := h
  clear h
  obtain ⟨y396, hy396⟩ : ∃ y_ : List Int, y_ = (([] : List Int)) := ⟨_, rfl⟩
  replace H : (if y396.length + l0.length < 17592186044416 then (some (y396 ++ l0)) else (none)) = some r := by first | (rw [hy396]; with_reducible exact H) | (have H2_ := (Option.bind_some _ _).symm.trans H; rw [hy396]; with_reducible exact H2_) | (have H2_ := (Option.bind_some _ _).symm.trans H; with_reducible exact H2_) | with_reducible exact H | (rw [hy396]; exact H) | exact H
  have Ny396 := Aside0.mk hy396
  clear hy396
  by_cases c2 : y396.length + l0.length < 17592186044416
  rotate_left
  · rw [if_neg c2] at H
    exact absurd H (by simp)
  rw [if_pos c2] at H
  have LMc2 := Aside0.mk c2
  clear c2
  obtain ⟨y399, hy399⟩ : ∃ y_ : List Int, y_ = (y396 ++ l0) := ⟨_, rfl⟩
  replace H : (some y399) = some r := by first | (rw [hy399]; with_reducible exact H) | (have H2_ := (Option.bind_some _ _).symm.trans H; rw [hy399]; with_reducible exact H2_) | (have H2_ := (Option.bind_some _ _).symm.trans H; with_reducible exact H2_) | with_reducible exact H | (rw [hy399]; exact H) | exact H
  have Ny399 := Aside0.mk hy399
  clear hy399
  obtain rfl := Option.some.inj H
  go_enter Try.func94, Try.ntmps94
  go_wp2_with (first | ((with_reducible refine gate_dst (N := 5) rfl ?_); refine Kd.R_lit (Kd.int .i64) _ 3 ?hg (N := 5) ?hd (xs := ([] : List Int)) (inner := []) (ok := fun _ => True) (okp := fun _ => True) ?hr ?hp (fun _ hk => hk) trivial (Below.refl _ _) (Nat.le_refl _) (by simp) ?_; (case hd => rfl); (case hg => rfl); (case hr => first | (go_simp; done) | (go_simp; rfl)); (case hp => exact (Reps.none _ _)); intro v397 w3 ho4 hb hg_ hnew_; clear hg_ hnew_; (first | rw [← Ny396.out] at ho4 | (simp only [Int.reduceToNat] at ho4; rw [← Ny396.out] at ho4)); have n0_ := Aside0.mk (Kd.R_lower ho4 (below_size (pb_ HB.out))); have n1_ := Aside0.mk (below_step (pb_ HB.out) hb); clear HB; have HO398 := n0_; have HB := n1_; clear n0_ n1_; clear hb ho4) | ((with_reducible refine gate_builtin (b := .append) (xs := #[.tmp 5, .tmp 6]) rfl ?_); at_builtin; refine Kd.R_append_rows (Kd.int .i64) (w0 := w) w.heap.size rfl (.tmp 5) (.tmp 6) 23 3 (.int .i64 0) 8 rfl Try.underlying23 info3 rfl (by decide) (by omega) v397 y396 l0 _ _ _ (fun _ => True) (fun _ => False) rfl rfl ?aO ?aR (fun _ _ h => h) (fun _ h => h.elim) ?aF ?aB ?aS ?aL ?_; (case aR => exact pc_ (Kd.C_below HR0.out HB.out)); (case aB => exact (pb_ HB.out)); (case aF => exact (fun _ _ => trivial)); (case aO => exact (pr_ HO398.out)); (case aS => exact (below_size (pb_ HB.out))); (case aL => have := LMc2.out; omega); intro v400 w5 ho hb hg hat; rw [← Ny399.out] at ho; have n0_ := Aside0.mk (hb); have n1_ := Aside0.mk (ho); clear HB; clear HO398; have HB := n0_; have HO401 := n1_; clear n0_ n1_; clear ho hb hg hat))
  go_ret
  exact ⟨_, er_, pr_ HO401.out, pb_ HB.out⟩

/-! ### impl_PassBox_1: function 100011 -/
def impl_PassBox_1.f (k : Nat) (a0 : Int) (a1_0 : Int) (l1_1 : List Int) (l1_2 : List Int) (a1_3 : Bool) : Option (Bool) := (slices_Contains_int_int.f k l1_2 a0).bind fun t402 => (some (!t402))
theorem impl_PassBox_1.mono : ∀ a0 a1 a2 a3 a4 k, LeO (impl_PassBox_1.f k a0 a1 a2 a3 a4) (impl_PassBox_1.f (k + 1) a0 a1 a2 a3 a4) := by
  intro a0 a1 a2 a3 a4 k
  unfold impl_PassBox_1.f
  repeat' first
      | (with_reducible exact slices_Contains_int_int.mono _ _ _)
      | (with_reducible exact LeO.refl _)
      | (with_reducible exact LeO.none _)
      | (with_reducible refine LeO.ite ?_ ?_)
      | (with_reducible refine LeO.bind ?_ (fun _ => ?_))
      | exact slices_Contains_int_int.mono _ _ _
      | exact LeO.none _
      | refine LeO.ite ?_ ?_
      | refine LeO.bind ?_ (fun _ => ?_)
set_option maxHeartbeats 8000000 in
set_option maxRecDepth 100000 in
theorem impl_PassBox_1.calls (k : Nat) (a0 : Int) (B1 : Nat) (a1_0 : Int) (A1_1 : Option Addr) (c1_1 : Nat) (l1_1 : List Int) (A1_2 : Option Addr) (c1_2 : Nat) (l1_2 : List Int) (a1_3 : Bool) (r : Bool) (w : World) (hr1_1 : Kd.C (Kd.int .i64) w A1_1 l1_1.length l1_1) (hc1_1 : l1_1.length ≤ c1_1) (hr1_2 : Kd.C (Kd.int .i64) w A1_2 l1_2.length l1_2) (hc1_2 : l1_2.length ≤ c1_2) (hbv1 : w.heap[B1]? = some (.cells #[.int .i64 a1_0, .slice A1_1 l1_1.length c1_1, .slice A1_2 l1_2.length c1_2, .bool a1_3] 50 (0, 0))) (h : impl_PassBox_1.f k a0 a1_0 l1_1 l1_2 a1_3 = some r) :
    Calls Try.prog 96 #[.int .i64 a0, .pointer (some ⟨B1, 0, none⟩)] w fun e w' => e = .returned (.bool r) ∧ Drawn0 w w' := by
  have HR1_1 := Aside0.mk hr1_1
  have HC1_1 := Aside0.mk hc1_1
  clear hr1_1 hc1_1
  have HR1_2 := Aside0.mk hr1_2
  have HC1_2 := Aside0.mk hc1_2
  clear hr1_2 hc1_2
  have BK1 := Aside0.mk hbv1
  clear hbv1
  have H : ((slices_Contains_int_int.f k l1_2 a0).bind fun t402 => (some (!t402))) = some r := h
  clear h
  replace H := Option.bind_eq_some_iff.mp H
  obtain ⟨t402, A30, H⟩ := H
  replace H : (some (!t402)) = some r := H
  have A3 := Aside0.mk A30
  clear A30
  obtain rfl := Option.some.inj H
  obtain ⟨hcz4_0, hcz4_1, hcz4_2, hcz4_3, hfz4_0, hfz4_1, hfz4_2, hfz4_3⟩ := bc4_ BK1.out
  go_enter Try.func96, Try.ntmps96
  go_wp2_with (first | ((with_reducible refine gate_callee (f := 63) rfl ?_); refine goesL_ (some 7) rfl rfl Try.func63 (by kernel_rfl) rfl #[.slice A1_2 l1_2.length c1_2, .int .i64 a0] rfl mp_ ?_; (with_reducible refine (slices_Contains_int_int.calls k _ _ l1_2 a0 t402 _ ?side1 ?side2 A3.out).mono ?_); (case side1 => exact pc_ HR1_2.out); (case side2 => exact HC1_2.out); rintro e w' ⟨rfl, ⟨nd, rfl⟩⟩; refine ⟨_, rfl, ?_⟩))
  go_ret
  exact ⟨by first | rfl | (simp; done) | (simp [*]; done), by repeat (first | exact Drawn0.refl _ | apply Drawn0.step)⟩

/-! ### impl_keptExts_with_impl_PassBox_1: function 100010 -/
def impl_keptExts_with_impl_PassBox_1.l0 : Nat → List (S69) → List (S69) → Int → Int → Int → List Int → List Int → Bool → Option ((List (S69)))
  | 0, _, _, _, _, _, _, _, _ => none
  | k + 1, x5, x9, x10, x11, x2000, x2001, x2002, x2003 => if x11 < x10 then (if 0 ≤ x11 then (if x11 < (x9.length : Int) then ((impl_PassBox_1.f k ((rd_T69 x9 x11).f0) x2000 x2001 x2002 x2003).bind fun t408 => (if t408 = true then ((some (([] : List Int) : List Int)).bind fun y409 => (if y409.length + ((rd_T69 x9 x11).f1).length < 17592186044416 then (if x5.length < 4398046511104 then (impl_keptExts_with_impl_PassBox_1.l0 k (x5 ++ [(⟨(rd_T69 x9 x11).f0, (y409 ++ ((rd_T69 x9 x11).f1))⟩ : S69)]) x9 x10 (wrap64 (x11 + 1)) x2000 x2001 x2002 x2003) else (none)) else (none))) else (impl_keptExts_with_impl_PassBox_1.l0 k x5 x9 x10 (wrap64 (x11 + 1)) x2000 x2001 x2002 x2003))) else (none)) else (none)) else (some x5)
def impl_keptExts_with_impl_PassBox_1.f (k : Nat) (l0 : List (S69)) (a1_0 : Int) (l1_1 : List Int) (l1_2 : List Int) (a1_3 : Bool) : Option ((List (S69))) := impl_keptExts_with_impl_PassBox_1.l0 k (([] : List (S69))) l0 (l0.length : Int) 0 a1_0 l1_1 l1_2 a1_3
theorem impl_keptExts_with_impl_PassBox_1.mono_l : ∀ k, (∀ y0 y1 y2 y3 y4 y5 y6 y7, LeO (impl_keptExts_with_impl_PassBox_1.l0 k y0 y1 y2 y3 y4 y5 y6 y7) (impl_keptExts_with_impl_PassBox_1.l0 (k + 1) y0 y1 y2 y3 y4 y5 y6 y7))
  | 0 => fun _ _ _ _ _ _ _ _ r h => by simp [impl_keptExts_with_impl_PassBox_1.l0] at h
  | k + 1 => by
    have ih0 := impl_keptExts_with_impl_PassBox_1.mono_l k
    · intro y0 y1 y2 y3 y4 y5 y6 y7
      unfold impl_keptExts_with_impl_PassBox_1.l0
      repeat' first
      | (with_reducible exact ih0 _ _ _ _ _ _ _ _)
      | (with_reducible exact impl_PassBox_1.mono _ _ _ _ _ _)
      | (with_reducible exact LeO.refl _)
      | (with_reducible exact LeO.none _)
      | (with_reducible refine LeO.ite ?_ ?_)
      | (with_reducible refine LeO.bind ?_ (fun _ => ?_))
      | exact ih0 _ _ _ _ _ _ _ _
      | exact impl_PassBox_1.mono _ _ _ _ _ _
      | exact LeO.none _
      | refine LeO.ite ?_ ?_
      | refine LeO.bind ?_ (fun _ => ?_)
theorem impl_keptExts_with_impl_PassBox_1.mono : ∀ a0 a1 a2 a3 a4 k, LeO (impl_keptExts_with_impl_PassBox_1.f k a0 a1 a2 a3 a4) (impl_keptExts_with_impl_PassBox_1.f (k + 1) a0 a1 a2 a3 a4) := by
  intro a0 a1 a2 a3 a4 k
  have ih0 := impl_keptExts_with_impl_PassBox_1.mono_l k
  unfold impl_keptExts_with_impl_PassBox_1.f
  repeat' first
      | (with_reducible exact ih0 _ _ _ _ _ _ _ _)
      | (with_reducible exact impl_PassBox_1.mono _ _ _ _ _ _)
      | (with_reducible exact LeO.refl _)
      | (with_reducible exact LeO.none _)
      | (with_reducible refine LeO.ite ?_ ?_)
      | (with_reducible refine LeO.bind ?_ (fun _ => ?_))
      | exact ih0 _ _ _ _ _ _ _ _
      | exact impl_PassBox_1.mono _ _ _ _ _ _
      | exact LeO.none _
      | refine LeO.ite ?_ ?_
      | refine LeO.bind ?_ (fun _ => ?_)
def impl_keptExts_with_impl_PassBox_1.T6 : Bool × List (List Nat × List Nat) := (true, [([], []), ([], []), ([1], [1]), ([], []), ([], []), ([4], [4]), ([3, 5], [3, 5]), ([2, 6], [2, 6]), ([7], [7]), ([0, 8, 6], [0, 8]), ([9, 9, 0, 1, 2, 3, 4, 5, 6, 7, 8, 9], [0, 9])])
def impl_keptExts_with_impl_PassBox_1.B6 : List Nat := [0, 0, 2, 0, 0, 16, 56, 126, 254, 511, 1023]
theorem impl_keptExts_with_impl_PassBox_1.tab6 : rtab .any (opsOf Try.f95 6) = impl_keptExts_with_impl_PassBox_1.T6 := by kernel_rfl
theorem impl_keptExts_with_impl_PassBox_1.bits6 : waitsOk impl_keptExts_with_impl_PassBox_1.T6.2 impl_keptExts_with_impl_PassBox_1.B6 = true := by kernel_rfl
set_option maxHeartbeats 8000000 in
set_option maxRecDepth 100000 in
theorem impl_keptExts_with_impl_PassBox_1.calls (k : Nat) (A0 : Option Addr) (c0 : Nat) (l0 : List (S69)) (B1 : Nat) (a1_0 : Int) (A1_1 : Option Addr) (c1_1 : Nat) (l1_1 : List Int) (A1_2 : Option Addr) (c1_2 : Nat) (l1_2 : List Int) (a1_3 : Bool) (r : List (S69)) (w : World) (hr0 : Kd.C k69 w A0 l0.length l0) (hc0 : l0.length ≤ c0) (hr1_1 : Kd.C (Kd.int .i64) w A1_1 l1_1.length l1_1) (hc1_1 : l1_1.length ≤ c1_1) (hr1_2 : Kd.C (Kd.int .i64) w A1_2 l1_2.length l1_2) (hc1_2 : l1_2.length ≤ c1_2) (hbv1 : w.heap[B1]? = some (.cells #[.int .i64 a1_0, .slice A1_1 l1_1.length c1_1, .slice A1_2 l1_2.length c1_2, .bool a1_3] 50 (0, 0))) (h : impl_keptExts_with_impl_PassBox_1.f k l0 a1_0 l1_1 l1_2 a1_3 = some r) :
    Calls Try.prog 95 #[.slice A0 l0.length c0, .func (.func 96) #[] #[.pointer (some ⟨B1, 0, none⟩)]] w fun e w' => ∃ v0_ : Value, e = .returned (v0_) ∧ Kd.S k69 69 w' w.heap.size (fun _ => True) v0_ r ∧ Below w.heap.size w w' := by
  have hu69 := Try.underlying69
  have HR0 := Aside0.mk hr0
  have HC0 := Aside0.mk hc0
  clear hr0 hc0
  have HR1_1 := Aside0.mk hr1_1
  have HC1_1 := Aside0.mk hc1_1
  clear hr1_1 hc1_1
  have HR1_2 := Aside0.mk hr1_2
  have HC1_2 := Aside0.mk hc1_2
  clear hr1_2 hc1_2
  have BK1 := Aside0.mk hbv1
  clear hbv1
  have HB := Aside0.mk (Below.refl w.heap.size w)
  have H : (impl_keptExts_with_impl_PassBox_1.l0 k (([] : List (S69))) l0 (l0.length : Int) 0 a1_0 l1_1 l1_2 a1_3) = some r := h
  clear h
  obtain ⟨y403, hy403⟩ : ∃ y_ : List (S69), y_ = (([] : List (S69))) := ⟨_, rfl⟩
  replace H : (impl_keptExts_with_impl_PassBox_1.l0 k y403 l0 (l0.length : Int) 0 a1_0 l1_1 l1_2 a1_3) = some r := by first | (rw [hy403]; with_reducible exact H) | (have H2_ := (Option.bind_some _ _).symm.trans H; rw [hy403]; with_reducible exact H2_) | (have H2_ := (Option.bind_some _ _).symm.trans H; with_reducible exact H2_) | with_reducible exact H | (rw [hy403]; exact H) | exact H
  have Ny403 := Aside0.mk hy403
  clear hy403
  have H' := Aside0.mk H
  clear H
  go_enter Try.func95, Try.ntmps95
  go_wp2_with (first | ((with_reducible refine gate_dst (N := 8) rfl ?_); refine Kd.S_lit k69 _ 69 ?hg (N := 8) ?hd (xs := ([] : List (S69))) (inner := []) (ok := fun _ => True) (okp := fun _ => True) ?hr ?hp (fun _ hk => hk) trivial (Below.refl _ _) (Nat.le_refl _) (by simp) ?_; (case hd => rfl); (case hg => rfl); (case hr => first | (go_simp; done) | (go_simp; rfl)); (case hp => exact (Reps.none _ _)); intro v404 w3 ho4 hb hg_ hnew_; clear hg_ hnew_; (first | rw [← Ny403.out] at ho4 | (simp only [Int.reduceToNat] at ho4; rw [← Ny403.out] at ho4)); have n0_ := Aside0.mk (Kd.S_lower ho4 (below_size (pb_ HB.out))); have n1_ := Aside0.mk (bb_ BK1.out hb); have n2_ := Aside0.mk (below_step (pb_ HB.out) hb); clear BK1; clear HB; have HO405 := n0_; have BK1 := n1_; have HB := n2_; clear n0_ n1_ n2_; clear hb ho4))
  (try simp only [Act.put, List.setIfInBounds_toArray, List.set_cons_zero, List.set_cons_succ])
  go_loopg [5, 11] k (fun kq v5 v11 w' => ∃ (x5_1 : List (S69)) (x11_1 : Int), v11 = .int .i64 x11_1 ∧ Aside0 (impl_keptExts_with_impl_PassBox_1.l0 kq x5_1 l0 (l0.length : Int) x11_1 a1_0 l1_1 l1_2 a1_3 = some r) ∧ Aside0 (kq ≤ k) ∧ Aside0 (Kd.S k69 69 w' w.heap.size (fun _ => True) v5 x5_1) ∧ Aside0 (w'.heap[B1]? = some (.cells #[.int .i64 a1_0, (.slice A1_1 l1_1.length c1_1), (.slice A1_2 l1_2.length c1_2), .bool a1_3] 50 (0, 0))) ∧ Aside0 (Below w.heap.size w w'))
  case atStart => exact ⟨(y403), (0), el_, H', ⟨Nat.le_refl _⟩, ⟨ps_ HO405.out⟩, ⟨pk_ BK1.out⟩, ⟨pb_ HB.out⟩⟩
  clear H'
  try clear c1
  try clear p2
  obtain ⟨x5_1, x11_1, rfl, HA, HK1, HO_5, BK1, HB⟩ := hrel
  rcases gk with _ | k1
  · exact absurd HA.out (by simp [impl_keptExts_with_impl_PassBox_1.l0])
  have H := HA.out
  clear HA
  simp only [impl_keptExts_with_impl_PassBox_1.l0] at H
  by_cases c5 : x11_1 < (l0.length : Int)
  rotate_left
  · rw [if_neg c5] at H
    have c5b0 : decide (x11_1 < (l0.length : Int)) = false := decide_eq_false c5
    clear c5
    obtain rfl := Option.some.inj H
    go_wp2
    go_ret
    exact ⟨_, er_, ps_ HO_5.out, pb_ HB.out⟩
  rw [if_pos c5] at H
  have c5b0 : decide (x11_1 < (l0.length : Int)) = true := decide_eq_true c5
  clear c5
  by_cases c6 : 0 ≤ x11_1
  rotate_left
  · rw [if_neg c6] at H
    exact absurd H (by simp)
  rw [if_pos c6] at H
  have c6b0 : decide (0 ≤ x11_1) = true := decide_eq_true c6
  clear c6
  by_cases c7 : x11_1 < (l0.length : Int)
  rotate_left
  · rw [if_neg c7] at H
    exact absurd H (by simp)
  rw [if_pos c7] at H
  have c7b0 : decide (x11_1 < (l0.length : Int)) = true := decide_eq_true c7
  clear c7
  have HS_ := Aside0.mk H
  clear H
  have p406 : 0 ≤ (x11_1 : Int) := dt_
  have q406 : x11_1 < (l0.length : Int) := dt_
  obtain ⟨ad406, A406_1, c406_1, e406, hx406_0, hx406_1, hl406_1, hi406_1⟩ := at_T69 HR0.out x11_1 p406 q406
  cases e406
  replace hx406_0 := (HB.out.cell (World.block_lt_of_cell? w _ hx406_0)).trans hx406_0
  replace hx406_1 := (HB.out.cell (World.block_lt_of_cell? w _ hx406_1)).trans hx406_1
  have HR406_1 := Aside0.mk hi406_1
  have HC406_1 := Aside0.mk hl406_1
  clear hi406_1 hl406_1
  replace p406 := eq_true p406
  replace q406 := eq_true q406
  go_upto_region 5 with (first | ((with_reducible refine gate_dst (N := 7) rfl ?_); refine box_event ?hg (N := 7) ?hd (cs := #[.int .i64 0, .slice none 0 0]) (t := 69) ?hr ?_; (case hd => rfl); (case hg => rfl); (case hr => first | (go_simp; done) | (go_simp; rfl)); intro gb407 hg w8 hbox hb; have n0_ := Aside0.mk (Kd.S_below (Kd.S_elderB (ps_ HO_5.out) gb407 (Nat.le_of_eq hg.symm)) hb); have n1_ := Aside0.mk (bb_ BK1.out hb); have n2_ := Aside0.mk (below_step (pb_ HB.out) hb); have n3_ := Aside0.mk (hbox); have n4_ := Aside0.mk ((by rw [hg]; exact (below_size (pb_ HB.out)) : w.heap.size ≤ gb407)); have n5_ := Aside0.mk ((by rw [hg]; exact (below_size (pb_ HB.out)) : w.heap.size ≤ gb407)); have n6_ := Aside0.mk ((by rw [hg]; exact Nat.ne_of_lt (blk_lt (pk_ BK1.out)) : B1 ≠ gb407)); have n7_ := Aside0.mk ((by rw [hg]; exact Nat.ne_of_gt (blk_lt (pk_ BK1.out)) : gb407 ≠ B1)); clear HO_5; clear BK1; clear HB; have HO_5 := n0_; have BK1 := n1_; have HB := n2_; have BK407 := n3_; have GW407 := n4_; have GE407 := n5_; have NB1_407 := n6_; have NB407_1 := n7_; clear n0_ n1_ n2_ n3_ n4_ n5_ n6_ n7_; clear hb hbox hg; have hnb9 := NB407_1.out; have hnc9 := NB1_407.out; have hcz10_0 : w8.cell? ⟨gb407, 0, none⟩ = some (.int .i64 0) := (blk_cell BK407.out 0).trans rfl; have hcz10_1 : w8.cell? ⟨gb407, 1, none⟩ = some (.slice none 0 0) := (blk_cell BK407.out 1).trans rfl; have hfz10_0 := blk_frozen BK407.out 0; have hfz10_1 := blk_frozen BK407.out 1))
  (try simp only [Act.put, List.setIfInBounds_toArray, List.set_cons_zero, List.set_cons_succ])
  have H := HS_.out
  clear HS_
  replace H := Option.bind_eq_some_iff.mp H
  obtain ⟨t408, A110, H⟩ := H
  (try dsimp only at H)
  have A11 := Aside0.mk A110
  clear A110
  have HS_ := Aside0.mk H
  clear H
  have hnb12 := NB407_1.out
  have hnc12 := NB1_407.out
  obtain ⟨hcz13_0, hcz13_1, hfz13_0, hfz13_1⟩ := bc2_ BK407.out
  go_upto_if 18 with (first | (go_at_call 96; (with_reducible refine (impl_PassBox_1.calls k1 ((rd_T69 l0 x11_1).f0) _ a1_0 A1_1 c1_1 l1_1 A1_2 c1_2 l1_2 a1_3 t408 _ ?side1 ?side2 ?side3 ?side4 ?side5 A11.out).mono ?_); (case side1 => exact Kd.C_below HR1_1.out (pb1_ HB.out GE407.out)); (case side2 => exact HC1_1.out); (case side3 => exact Kd.C_below HR1_2.out (pb1_ HB.out GE407.out)); (case side4 => exact HC1_2.out); (case side5 => (with_reducible repeat (first | refine blk_drewN ?_ _ | refine blk_drew ?_ | refine blk_alloc ?_ _)); refine blk_far ?_ NB1_407.out _; (with_reducible repeat (first | refine blk_drewN ?_ _ | refine blk_drew ?_ | refine blk_alloc ?_ _)); refine blk_far ?_ NB1_407.out _; exact pk_ BK1.out); rintro e w' ⟨rfl, ⟨nd, rfl⟩⟩))
  (try simp only [Act.put, List.setIfInBounds_toArray, List.set_cons_zero, List.set_cons_succ])
  have H := HS_.out
  clear HS_
  by_cases c14 : t408 = true
  rotate_left
  · replace c14 := Bool.eq_false_iff.mpr c14
    subst c14
    rw [if_neg (show ¬ (false = true) by decide)] at H
    have H' := Aside0.mk H
    clear H
    go_wp2
    go_roundg k1
    case measure => have := HK1.out; omega
    case rel => exact ⟨(x5_1), (wrap64 (x11_1 + 1)), el_, H', ⟨by have := HK1.out; omega⟩, ⟨by (with_reducible repeat (first | apply Kd.S_alloc | apply Kd.S_drewN | apply Kd.S_drew)); exact Kd.S_mono (Kd.S_far (p := ⟨gb407, 1, none⟩) (Kd.S_far (p := ⟨gb407, 0, none⟩) (Kd.S_mono HO_5.out (fun k_ hk => (⟨hk, hk.2⟩ : _ ∧ k_ ≠ gb407))) (fun _ hk => hk.2) (.int .i64 ((rd_T69 l0 x11_1).f0))) (fun _ hk => hk.2) (.slice A406_1 ((rd_T69 l0 x11_1).f1).length c406_1)) (fun _ hk => trivial)⟩, ⟨pp_ BK1.out⟩, ⟨pb1_ HB.out GE407.out⟩⟩
  subst c14
  rw [if_pos rfl] at H
  obtain ⟨y409, hy409⟩ : ∃ y_ : List Int, y_ = (([] : List Int)) := ⟨_, rfl⟩
  replace H : (if y409.length + ((rd_T69 l0 x11_1).f1).length < 17592186044416 then (if x5_1.length < 4398046511104 then (impl_keptExts_with_impl_PassBox_1.l0 k1 (x5_1 ++ [(⟨(rd_T69 l0 x11_1).f0, (y409 ++ ((rd_T69 l0 x11_1).f1))⟩ : S69)]) l0 (l0.length : Int) (wrap64 (x11_1 + 1)) a1_0 l1_1 l1_2 a1_3) else (none)) else (none)) = some r := by first | (rw [hy409]; with_reducible exact H) | (have H2_ := (Option.bind_some _ _).symm.trans H; rw [hy409]; with_reducible exact H2_) | (have H2_ := (Option.bind_some _ _).symm.trans H; with_reducible exact H2_) | with_reducible exact H | (rw [hy409]; exact H) | exact H
  have Ny409 := Aside0.mk hy409
  clear hy409
  by_cases c15 : y409.length + ((rd_T69 l0 x11_1).f1).length < 17592186044416
  rotate_left
  · rw [if_neg c15] at H
    exact absurd H (by simp)
  rw [if_pos c15] at H
  have LMc15 := Aside0.mk c15
  clear c15
  obtain ⟨y412, hy412⟩ : ∃ y_ : List Int, y_ = (y409 ++ ((rd_T69 l0 x11_1).f1)) := ⟨_, rfl⟩
  replace H : (if x5_1.length < 4398046511104 then (impl_keptExts_with_impl_PassBox_1.l0 k1 (x5_1 ++ [(⟨(rd_T69 l0 x11_1).f0, y412⟩ : S69)]) l0 (l0.length : Int) (wrap64 (x11_1 + 1)) a1_0 l1_1 l1_2 a1_3) else (none)) = some r := by first | (rw [hy412]; with_reducible exact H) | (have H2_ := (Option.bind_some _ _).symm.trans H; rw [hy412]; with_reducible exact H2_) | (have H2_ := (Option.bind_some _ _).symm.trans H; with_reducible exact H2_) | with_reducible exact H | (rw [hy412]; exact H) | exact H
  have Ny412 := Aside0.mk hy412
  clear hy412
  by_cases c16 : x5_1.length < 4398046511104
  rotate_left
  · rw [if_neg c16] at H
    exact absurd H (by simp)
  rw [if_pos c16] at H
  have LMc16 := Aside0.mk c16
  clear c16
  obtain ⟨y415, hy415⟩ : ∃ y_ : List (S69), y_ = (x5_1 ++ [(⟨(rd_T69 l0 x11_1).f0, y412⟩ : S69)]) := ⟨_, rfl⟩
  replace H : (impl_keptExts_with_impl_PassBox_1.l0 k1 y415 l0 (l0.length : Int) (wrap64 (x11_1 + 1)) a1_0 l1_1 l1_2 a1_3) = some r := by first | (rw [hy415]; with_reducible exact H) | (have H2_ := (Option.bind_some _ _).symm.trans H; rw [hy415]; with_reducible exact H2_) | (have H2_ := (Option.bind_some _ _).symm.trans H; with_reducible exact H2_) | with_reducible exact H | (rw [hy415]; exact H) | exact H
  have Ny415 := Aside0.mk hy415
  clear hy415
  have H' := Aside0.mk H
  clear H
  try go_wp2
  have n0_ : Aside0 (Kd.S k69 69 ((w8.setCell ⟨gb407, 0, none⟩ (.int .i64 ((rd_T69 l0 x11_1).f0))).setCell ⟨gb407, 1, none⟩ (.slice A406_1 ((rd_T69 l0 x11_1).f1).length c406_1)) w.heap.size (fun k_ => k_ ≠ gb407) u5 x5_1) := ⟨by (with_reducible repeat (first | apply Kd.S_alloc | apply Kd.S_drewN | apply Kd.S_drew)); exact Kd.S_mono (Kd.S_far (p := ⟨gb407, 1, none⟩) (Kd.S_far (p := ⟨gb407, 0, none⟩) (Kd.S_mono HO_5.out (fun k_ hk => (⟨hk, hk.2⟩ : _ ∧ k_ ≠ gb407))) (fun _ hk => hk.2) (.int .i64 ((rd_T69 l0 x11_1).f0))) (fun _ hk => hk.2) (.slice A406_1 ((rd_T69 l0 x11_1).f1).length c406_1)) (fun _ hk => hk.1.2)⟩
  have n1_ : Aside0 (((w8.setCell ⟨gb407, 0, none⟩ (.int .i64 ((rd_T69 l0 x11_1).f0))).setCell ⟨gb407, 1, none⟩ (.slice A406_1 ((rd_T69 l0 x11_1).f1).length c406_1)).heap[B1]? = some (.cells #[.int .i64 a1_0, .slice A1_1 l1_1.length c1_1, .slice A1_2 l1_2.length c1_2, .bool a1_3] 50 (0, 0))) := ⟨pp_ BK1.out⟩
  have n2_ : Aside0 (((w8.setCell ⟨gb407, 0, none⟩ (.int .i64 ((rd_T69 l0 x11_1).f0))).setCell ⟨gb407, 1, none⟩ (.slice A406_1 ((rd_T69 l0 x11_1).f1).length c406_1)).heap[gb407]? = some (.cells #[.int .i64 ((rd_T69 l0 x11_1).f0), .slice A406_1 ((rd_T69 l0 x11_1).f1).length c406_1] 69 (0, 0))) := ⟨pp_ BK407.out⟩
  have n3_ : Aside0 (Below w.heap.size w ((w8.setCell ⟨gb407, 0, none⟩ (.int .i64 ((rd_T69 l0 x11_1).f0))).setCell ⟨gb407, 1, none⟩ (.slice A406_1 ((rd_T69 l0 x11_1).f1).length c406_1))) := ⟨pb1_ HB.out GE407.out⟩
  (try clear HO_5)
  (try clear BK1)
  (try clear BK407)
  (try clear HB)
  generalize ((w8.setCell ⟨gb407, 0, none⟩ (.int .i64 ((rd_T69 l0 x11_1).f0))).setCell ⟨gb407, 1, none⟩ (.slice A406_1 ((rd_T69 l0 x11_1).f1).length c406_1)) = w17 at n0_ n1_ n2_ n3_ ⊢
  (try (rw [show w17.drewN nd = w17.drewN nd from rfl]; replace n0_ := Aside0.mk (Kd.S_drewN n0_.out nd); replace n1_ := Aside0.mk (blk_drewN n1_.out nd); replace n2_ := Aside0.mk (blk_drewN n2_.out nd); replace n3_ := Aside0.mk (pw_below_drewN n3_.out nd); generalize w17.drewN nd = w17 at n0_ n1_ n2_ n3_ ⊢))
  have HO_5 := n0_
  have BK1 := n1_
  have BK407 := n2_
  have HB := n3_
  clear n0_ n1_ n2_ n3_
  (try (rw [drewN_self w17]; generalize hq_ : World.drewN w17 _ = w17; have n0_ : Aside0 (Kd.S k69 69 w17 w.heap.size (fun k_ => k_ ≠ gb407) u5 x5_1) := ⟨by rw [← hq_]; exact (ps_ HO_5.out)⟩; have n1_ : Aside0 (w17.heap[B1]? = some (.cells #[.int .i64 a1_0, .slice A1_1 l1_1.length c1_1, .slice A1_2 l1_2.length c1_2, .bool a1_3] 50 (0, 0))) := ⟨by rw [← hq_]; exact (pk_ BK1.out)⟩; have n2_ : Aside0 (w17.heap[gb407]? = some (.cells #[.int .i64 ((rd_T69 l0 x11_1).f0), .slice A406_1 ((rd_T69 l0 x11_1).f1).length c406_1] 69 (0, 0))) := ⟨by rw [← hq_]; exact (pk_ BK407.out)⟩; have n3_ : Aside0 (Below w.heap.size w w17) := ⟨by rw [← hq_]; exact (pb1_ HB.out GE407.out)⟩; clear HO_5 BK1 BK407 HB hq_; have HO_5 := n0_; have BK1 := n1_; have BK407 := n2_; have HB := n3_; clear n0_ n1_ n2_ n3_))
  have n0_ := Aside0.mk (Kd.S_drew HO_5.out)
  have n1_ := Aside0.mk (blk_drew BK1.out)
  have n2_ := Aside0.mk (blk_drew BK407.out)
  have n3_ := Aside0.mk (below_drew1 HB.out)
  clear HO_5
  clear BK1
  clear BK407
  clear HB
  have HO_5 := n0_
  have BK1 := n1_
  have BK407 := n2_
  have HB := n3_
  clear n0_ n1_ n2_ n3_
  refine start_ (n := 11) (S := fun w' => w'.cell? ⟨gb407, 0, none⟩ = some (.int .i64 ((rd_T69 l0 x11_1).f0)) ∧ w'.cell? ⟨gb407, 1, none⟩ = some (.slice A406_1 ((rd_T69 l0 x11_1).f1).length c406_1)) (ds := []) #[false, false, false, false, false, false, false, false, false, false, false] (by kernel_rfl) rfl rfl ⟨(blk_cell BK407.out 0).trans rfl, (blk_cell BK407.out 1).trans rfl⟩ (fun hHeld => ?_); refine with_tabW impl_keptExts_with_impl_PassBox_1.tab6 impl_keptExts_with_impl_PassBox_1.bits6 (fun HT_ HW_ => ?_)
  generalize w17.drew = w18 at HO_5 BK1 BK407 HB hHeld ⊢
  refine pu_ 0 (some 19) (tf_ 1 11) HT_ ?_
  refine pu_ 1 (some 20) (tf_ 2 11) HT_ ?_
  refine pu_ 4 (some 23) #[true, true, false, false, true, false, false, false, false, false, false] HT_ ?_
  refine ta_ 2 (some 21) #[true, true, true, false, true, false, false, false, false, false, false] HT_ HW_ hHeld ?_
  refine ta_ 5 (some 24) #[true, true, true, false, true, true, false, false, false, false, false] HT_ HW_ hHeld ?_
  refine on_ 3 (some 22) (tf_ 6 11) HT_ (fun K hK => ?_)
  refine Kd.R_lit_step (Kd.int .i64) _ 3 ?hg (N := 22) ?hd (xs := ([] : List Int)) (inner := []) (ok := fun _ => True) (okp := fun _ => True) ?hr ?hp (fun _ hk => hk) trivial (Below.refl _ _) (Nat.le_refl _) (by simp) ?_; (case hd => rfl); (case hg => rfl); (case hr => first | (go_simp; done) | (go_simp; rfl)); (case hp => exact (Reps.none _ _))
  intro v410 w19 ho20 hb hg_ hnew_
  clear hg_ hnew_
  (first | rw [← Ny409.out] at ho20 | (simp only [Int.reduceToNat] at ho20; rw [← Ny409.out] at ho20))
  have n0_ := Aside0.mk (Kd.S_elder' (ps_ HO_5.out) (Kd.R_base ho20) hb)
  have n1_ := Aside0.mk (Kd.R_lower ho20 (below_size (pb1_ HB.out GE407.out)))
  have n2_ := Aside0.mk (bb_ BK1.out hb)
  have n3_ := Aside0.mk (bb_ BK407.out hb)
  have n4_ := Aside0.mk (below_step (pb1_ HB.out GE407.out) hb)
  clear HO_5
  clear BK1
  clear BK407
  clear HB
  have HO_5 := n0_
  have HO411 := n1_
  have BK1 := n2_
  have BK407 := n3_
  have HB := n4_
  clear n0_ n1_ n2_ n3_ n4_
  clear hb ho20
  refine hK.out _ _ ⟨(blk_cell BK407.out 0).trans rfl, (blk_cell BK407.out 1).trans rfl⟩ (fun hHeld => ?_)
  clear hK K
  refine no_ (some 22) ?_
  refine on_ 6 (some 25) (tf_ 7 11) HT_ (fun K hK => ?_)
  refine Kd.R_append_rows_step (Kd.int .i64) (w0 := w) w.heap.size (by rfl) (.tmp 22) (.tmp 24) 23 3 (.int .i64 0) 8 rfl Try.underlying23 info3 rfl (by decide) (by omega) v410 y409 ((rd_T69 l0 x11_1).f1) _ _ _ (fun _ => True) (fun _ => False) rfl rfl ?aO ?aR (fun _ _ h => h) (fun _ h => h.elim) ?aF ?aB ?aS ?aL ?_
  (case aR => exact pc_ (Kd.C_below HR406_1.out HB.out))
  (case aB => exact (pb1_ HB.out GE407.out))
  (case aF => exact (fun _ _ => trivial))
  (case aO => exact (pr_ HO411.out))
  (case aS => exact (below_size (pb1_ HB.out GE407.out)))
  (case aL => have := LMc15.out; omega)
  intro v413 w21 ho hb hg hat
  rw [← Ny412.out] at ho
  have n0_ := Aside0.mk (Kd.S_after (ok := (fun k_ => k_ ≠ gb407)) (ps_ HO_5.out) hg hat)
  have n1_ := Aside0.mk (blk_grown (g := B1) (o := .cells #[.int .i64 a1_0, .slice A1_1 l1_1.length c1_1, .slice A1_2 l1_2.length c1_2, .bool a1_3] 50 (0, 0)) (pk_ BK1.out) hg (Kd.R_ne HO411.out BK1.out (by decide)))
  have n2_ := Aside0.mk (blk_grown (g := gb407) (o := .cells #[.int .i64 ((rd_T69 l0 x11_1).f0), .slice A406_1 ((rd_T69 l0 x11_1).f1).length c406_1] 69 (0, 0)) (pk_ BK407.out) hg (Kd.R_ne HO411.out BK407.out (by decide)))
  have n3_ := Aside0.mk (hb)
  have n4_ := Aside0.mk (ho)
  clear HO_5
  clear BK1
  clear BK407
  clear HB
  clear HO411
  have HO_5 := n0_
  have BK1 := n1_
  have BK407 := n2_
  have HB := n3_
  have HO414 := n4_
  clear n0_ n1_ n2_ n3_ n4_
  clear ho hb hg hat
  obtain ⟨Ao22, co22, eo22⟩ := Kd.R_slice HO414.out
  (first | subst eo22 | (injection eo22 with f1_ f2_ f3_; have f4_ := f1_.symm; have f5_ := f3_.symm; clear f1_ f2_ f3_; subst f4_; subst f5_))
  refine hK.out _ _ ⟨(blk_cell BK407.out 0).trans rfl, (blk_cell BK407.out 1).trans rfl⟩ (fun hHeld => ?_)
  clear hK K
  refine no_ (some 25) ?_
  refine pu_ 7 (some 26) (tf_ 8 11) HT_ ?_
  refine on_ 8 (some 27) (tf_ 9 11) HT_ (fun K hK => ?_)
  refine value_ (w1 := ?_) (v := ?_) (by rfl) rfl ?_ ?_
  rotate_left 2
  · go_simp
    constructor
    · rfl
    · rfl
  refine hK.out _ _ ⟨(blk_cell (blk_alloc BK407.out _) 0).trans rfl, (blk_cell (blk_alloc BK407.out _) 1).trans rfl⟩ (fun hHeld => ?_)
  clear hK K
  refine no_ (some 27) ?_
  refine on_ 9 (some 28) (tf_ 10 11) HT_ (fun K hK => ?_)
  refine Kd.S_append_step k69 (w0 := w) w.heap.size (by rfl) (.tmp 19) (.tmp 27) 48 69 (.agg #[(.int .i64 0), (.slice none 0 0)]) 32 rfl Try.underlying48 info69 rfl (by decide) (by omega) u5 x5_1 (⟨(rd_T69 l0 x11_1).f0, y412⟩ : S69) [.int .i64 ((rd_T69 l0 x11_1).f0), .slice Ao22 y412.length co22] (fun k_ => k_ ≠ gb407) (fun k_ => some k_ = (.slice Ao22 y412.length co22 : Value).ownBlock) rfl rfl ?aP (fun k_ hk_ => ((Kd.R_mono (ok' := fun k_ => ((fun k_ => k_ ≠ gb407)) k_ ∧ some k_ ≠ (u5 : Value).ownBlock) (Kd.R_types (Kd.R_apart' (HO414.out) (Kd.S_typed HO_5.out) (by decide)) BK407.out (by decide)) (fun k_ hk => ⟨hk.2, hk.1.2⟩))).1 k_ hk_.symm) ?aF ?aO ?aB ?aS ?aL ?_
  (case aP => exact k69_mkM _ _ _ (⟨(rd_T69 l0 x11_1).f0, y412⟩ : S69) (Kd.R_mono (Kd.R_tight rfl (Kd.R_mono (ok' := fun k_ => ((fun k_ => k_ ≠ gb407)) k_ ∧ some k_ ≠ (u5 : Value).ownBlock) (Kd.R_types (Kd.R_apart' (HO414.out) (Kd.S_typed HO_5.out) (by decide)) BK407.out (by decide)) (fun k_ hk => ⟨hk.2, hk.1.2⟩))) (fun _ h_ => h_)))
  (case aB => exact (pb1_ HB.out GE407.out))
  (case aF => exact (fun k_ hk => Kd.freshB (g := gb407) (o := .cells #[.int .i64 ((rd_T69 l0 x11_1).f0), .slice A406_1 ((rd_T69 l0 x11_1).f1).length c406_1] 69 (0, 0)) (pk_ BK407.out) k_ hk))
  (case aO => exact (by (with_reducible repeat (first | apply Kd.S_alloc | apply Kd.S_drewN | apply Kd.S_drew)); exact Kd.S_mono HO_5.out (fun k_ hk => ⟨hk.1, fun e_ => hk.2 e_⟩)))
  (case aS => exact (below_size (pb1_ HB.out GE407.out)))
  (case aL => have := LMc16.out; omega)
  intro v416 w23 ho hb hg hat
  rw [← Ny415.out] at ho
  have n0_ := Aside0.mk (blk_grown (g := B1) (o := .cells #[.int .i64 a1_0, .slice A1_1 l1_1.length c1_1, .slice A1_2 l1_2.length c1_2, .bool a1_3] 50 (0, 0)) (pk_ BK1.out) hg (Kd.S_ne HO_5.out BK1.out (by decide)))
  have n1_ := Aside0.mk (blk_grown (g := gb407) (o := .cells #[.int .i64 ((rd_T69 l0 x11_1).f0), .slice A406_1 ((rd_T69 l0 x11_1).f1).length c406_1] 69 (0, 0)) (pk_ BK407.out) hg (Kd.S_away HO_5.out (fun _ hk => hk.1)))
  have n2_ := Aside0.mk (hb)
  have n3_ := Aside0.mk (ho)
  clear BK1
  clear BK407
  clear HB
  clear HO_5
  clear HO414
  have BK1 := n0_
  have BK407 := n1_
  have HB := n2_
  have HO417 := n3_
  clear n0_ n1_ n2_ n3_
  clear ho hb hg hat
  refine hK.out _ _ ⟨(blk_cell BK407.out 0).trans rfl, (blk_cell BK407.out 1).trans rfl⟩ (fun hHeld => ?_)
  clear hK K
  refine no_ (some 28) ?_
  refine pu_ 10 (some 5) (tf_ 11 11) HT_ ?_
  refine done_ (done_of HT_.out (by kernel_rfl)) ?_
  try go_wp2
  go_roundg k1
  case measure => have := HK1.out; omega
  case rel => exact ⟨(y415), (wrap64 (x11_1 + 1)), el_, H', ⟨by have := HK1.out; omega⟩, ⟨ps_ (Kd.S_mono HO417.out (fun _ hk => trivial))⟩, ⟨pk_ BK1.out⟩, ⟨pb1_ HB.out GE407.out⟩⟩

end Go.Proofs.Ytpoandlbmaljhaa.Print
