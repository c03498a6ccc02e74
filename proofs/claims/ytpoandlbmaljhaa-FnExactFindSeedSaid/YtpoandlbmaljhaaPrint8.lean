-- Written by a program of this session (printx.py) out of the translation; Lean checks it.
import Derived.Test.YtpoandlbmaljhaaPrint0
import Derived.Test.YtpoandlbmaljhaaPrint7
namespace Go.Proofs.Ytpoandlbmaljhaa.Print
open Go.RowKit Go.Proofs.YtpoandlbmaljhaaW.PrintWords Go.Proofs.YtpoandlbmaljhaaW.PrintLast Go.Proofs.YtpoandlbmaljhaaW.PrintMore Go.Proofs.Ytpoandlbmaljhaa.Short
attribute [local go_sem] max2_int min2_int max_two min_two max_three min_three max_four min_four   -- for this text's walks alone
set_option linter.unusedVariables false
set_option linter.unusedSimpArgs false

/-! ### slices_IndexFunc_impl_Ext_impl_Ext_with_impl_ExtOf_1: function 100003 -/
def slices_IndexFunc_impl_Ext_impl_Ext_with_impl_ExtOf_1.l0 : Nat → List (S69) → Int → Int → Int → Option (Int)
  | 0, _, _, _, _ => none
  | k + 1, x0, x7, x8, x2000 => if x8 < x7 then (if 0 ≤ x8 then (if x8 < (x0.length : Int) then ((impl_ExtOf_1.f ((rd_T69 x0 x8).f0) ((rd_T69 x0 x8).f1) x2000).bind fun t332 => (if t332 = true then (some x8) else (slices_IndexFunc_impl_Ext_impl_Ext_with_impl_ExtOf_1.l0 k x0 x7 (wrap64 (x8 + 1)) x2000))) else (none)) else (none)) else (some (-1))
def slices_IndexFunc_impl_Ext_impl_Ext_with_impl_ExtOf_1.f (k : Nat) (l0 : List (S69)) (a1_0 : Int) : Option (Int) := slices_IndexFunc_impl_Ext_impl_Ext_with_impl_ExtOf_1.l0 k l0 (l0.length : Int) 0 a1_0
theorem slices_IndexFunc_impl_Ext_impl_Ext_with_impl_ExtOf_1.mono_l : ∀ k, (∀ y0 y1 y2 y3, LeO (slices_IndexFunc_impl_Ext_impl_Ext_with_impl_ExtOf_1.l0 k y0 y1 y2 y3) (slices_IndexFunc_impl_Ext_impl_Ext_with_impl_ExtOf_1.l0 (k + 1) y0 y1 y2 y3))
  | 0 => fun _ _ _ _ r h => by simp [slices_IndexFunc_impl_Ext_impl_Ext_with_impl_ExtOf_1.l0] at h
  | k + 1 => by
    have ih0 := slices_IndexFunc_impl_Ext_impl_Ext_with_impl_ExtOf_1.mono_l k
    · intro y0 y1 y2 y3
      unfold slices_IndexFunc_impl_Ext_impl_Ext_with_impl_ExtOf_1.l0
      repeat' first
      | (with_reducible exact ih0 _ _ _ _)
      | (with_reducible exact LeO.refl _)
      | (with_reducible exact LeO.none _)
      | (with_reducible refine LeO.ite ?_ ?_)
      | (with_reducible refine LeO.bind ?_ (fun _ => ?_))
      | exact ih0 _ _ _ _
      | exact LeO.none _
      | refine LeO.ite ?_ ?_
      | refine LeO.bind ?_ (fun _ => ?_)
theorem slices_IndexFunc_impl_Ext_impl_Ext_with_impl_ExtOf_1.mono : ∀ a0 a1 k, LeO (slices_IndexFunc_impl_Ext_impl_Ext_with_impl_ExtOf_1.f k a0 a1) (slices_IndexFunc_impl_Ext_impl_Ext_with_impl_ExtOf_1.f (k + 1) a0 a1) := by
  intro a0 a1 k
  have ih0 := slices_IndexFunc_impl_Ext_impl_Ext_with_impl_ExtOf_1.mono_l k
  unfold slices_IndexFunc_impl_Ext_impl_Ext_with_impl_ExtOf_1.f
  repeat' first
      | (with_reducible exact ih0 _ _ _ _)
      | (with_reducible exact LeO.refl _)
      | (with_reducible exact LeO.none _)
      | (with_reducible refine LeO.ite ?_ ?_)
      | (with_reducible refine LeO.bind ?_ (fun _ => ?_))
      | exact ih0 _ _ _ _
      | exact LeO.none _
      | refine LeO.ite ?_ ?_
      | refine LeO.bind ?_ (fun _ => ?_)
set_option maxHeartbeats 8000000 in
set_option maxRecDepth 100000 in
theorem slices_IndexFunc_impl_Ext_impl_Ext_with_impl_ExtOf_1.calls (k : Nat) (A0 : Option Addr) (c0 : Nat) (l0 : List (S69)) (B1 : Nat) (a1_0 : Int) (r : Int) (w : World) (hr0 : Kd.C k69 w A0 l0.length l0) (hc0 : l0.length ≤ c0) (hbv1 : w.heap[B1]? = some (.cells #[.int .i64 a1_0] 3 (0, 0))) (h : slices_IndexFunc_impl_Ext_impl_Ext_with_impl_ExtOf_1.f k l0 a1_0 = some r) :
    Calls Try.prog 99 #[.slice A0 l0.length c0, .func (.func 100) #[] #[.pointer (some ⟨B1, 0, none⟩)]] w fun e w' => e = .returned (.int .i64 r) ∧ Below w.heap.size w w' := by
  have hu69 := Try.underlying69
  have HR0 := Aside0.mk hr0
  have HC0 := Aside0.mk hc0
  clear hr0 hc0
  have BK1 := Aside0.mk hbv1
  clear hbv1
  have HB := Aside0.mk (Below.refl w.heap.size w)
  have H : (slices_IndexFunc_impl_Ext_impl_Ext_with_impl_ExtOf_1.l0 k l0 (l0.length : Int) 0 a1_0) = some r := h
  clear h
  have H' := Aside0.mk H
  clear H
  go_enter Try.func99, Try.ntmps99
  go_wp2
  go_loopg [8] k (fun kq v8 w' => ∃ (x8_1 : Int), v8 = .int .i64 x8_1 ∧ Aside0 (slices_IndexFunc_impl_Ext_impl_Ext_with_impl_ExtOf_1.l0 kq l0 (l0.length : Int) x8_1 a1_0 = some r) ∧ Aside0 (kq ≤ k) ∧ Aside0 (w'.heap[B1]? = some (.cells #[.int .i64 a1_0] 3 (0, 0))) ∧ Aside0 (Below w.heap.size w w'))
  case atStart => exact ⟨(0), el_, H', ⟨Nat.le_refl _⟩, ⟨pk_ BK1.out⟩, ⟨pb_ HB.out⟩⟩
  clear H'
  try clear p2
  obtain ⟨x8_1, rfl, HA, HK1, BK1, HB⟩ := hrel
  rcases gk with _ | k1
  · exact absurd HA.out (by simp [slices_IndexFunc_impl_Ext_impl_Ext_with_impl_ExtOf_1.l0])
  have H := HA.out
  clear HA
  simp only [slices_IndexFunc_impl_Ext_impl_Ext_with_impl_ExtOf_1.l0] at H
  by_cases c3 : x8_1 < (l0.length : Int)
  rotate_left
  · rw [if_neg c3] at H
    have c3b0 : decide (x8_1 < (l0.length : Int)) = false := decide_eq_false c3
    clear c3
    obtain rfl := Option.some.inj H
    go_wp2
    go_ret
    exact ⟨er_, pb_ HB.out⟩
  rw [if_pos c3] at H
  have c3b0 : decide (x8_1 < (l0.length : Int)) = true := decide_eq_true c3
  clear c3
  by_cases c4 : 0 ≤ x8_1
  rotate_left
  · rw [if_neg c4] at H
    exact absurd H (by simp)
  rw [if_pos c4] at H
  have c4b0 : decide (0 ≤ x8_1) = true := decide_eq_true c4
  clear c4
  by_cases c5 : x8_1 < (l0.length : Int)
  rotate_left
  · rw [if_neg c5] at H
    exact absurd H (by simp)
  rw [if_pos c5] at H
  have c5b0 : decide (x8_1 < (l0.length : Int)) = true := decide_eq_true c5
  clear c5
  replace H := Option.bind_eq_some_iff.mp H
  obtain ⟨t332, A60, H⟩ := H
  (try dsimp only at H)
  have A6 := Aside0.mk A60
  clear A60
  have HS_ := Aside0.mk H
  clear H
  have p331 : 0 ≤ (x8_1 : Int) := dt_
  have q331 : x8_1 < (l0.length : Int) := dt_
  obtain ⟨ad331, A331_1, c331_1, e331, hx331_0, hx331_1, hl331_1, hi331_1⟩ := at_T69 HR0.out x8_1 p331 q331
  cases e331
  replace hx331_0 := (HB.out.cell (World.block_lt_of_cell? w _ hx331_0)).trans hx331_0
  replace hx331_1 := (HB.out.cell (World.block_lt_of_cell? w _ hx331_1)).trans hx331_1
  have HR331_1 := Aside0.mk hi331_1
  have HC331_1 := Aside0.mk hl331_1
  clear hi331_1 hl331_1
  replace p331 := eq_true p331
  replace q331 := eq_true q331
  go_upto_if 16 with (first | (go_at_call 100; (with_reducible refine (impl_ExtOf_1.calls ((rd_T69 l0 x8_1).f0) _ _ ((rd_T69 l0 x8_1).f1) _ a1_0 t332 _ ?side1 ?side2 ?side3 A6.out).mono ?_); (case side1 => exact pc_ (Kd.C_below HR331_1.out HB.out)); (case side2 => exact HC331_1.out); (case side3 => exact pk_ BK1.out); rintro e w7 ⟨rfl, hb⟩; have n0_ := Aside0.mk (bb_ BK1.out hb); have n1_ := Aside0.mk (below_step (pb_ HB.out) hb); clear BK1; clear HB; have BK1 := n0_; have HB := n1_; clear n0_ n1_; (try clear hb); (try clear hb2); (try clear hk); (try clear hi)))
  (try simp only [Act.put, List.setIfInBounds_toArray, List.set_cons_zero, List.set_cons_succ])
  have H := HS_.out
  clear HS_
  by_cases c8 : t332 = true
  rotate_left
  · replace c8 := Bool.eq_false_iff.mpr c8
    subst c8
    rw [if_neg (show ¬ (false = true) by decide)] at H
    have H' := Aside0.mk H
    clear H
    go_wp2
    go_roundg k1
    case measure => have := HK1.out; omega
    case rel => exact ⟨(wrap64 (x8_1 + 1)), el_, H', ⟨by have := HK1.out; omega⟩, ⟨pk_ BK1.out⟩, ⟨pb_ HB.out⟩⟩
  subst c8
  rw [if_pos rfl] at H
  obtain rfl := Option.some.inj H
  go_wp2
  go_ret
  exact ⟨er_, pb_ HB.out⟩

/-! ### impl_ExtOf: function 88 -/
def impl_ExtOf.f (k : Nat) (l0 : List (S69)) (a1 : Int) : Option (Int) := (slices_IndexFunc_impl_Ext_impl_Ext_with_impl_ExtOf_1.f k l0 a1).bind fun t334 => (some t334)
theorem impl_ExtOf.mono : ∀ a0 a1 k, LeO (impl_ExtOf.f k a0 a1) (impl_ExtOf.f (k + 1) a0 a1) := by
  intro a0 a1 k
  unfold impl_ExtOf.f
  repeat' first
      | (with_reducible exact slices_IndexFunc_impl_Ext_impl_Ext_with_impl_ExtOf_1.mono _ _ _)
      | (with_reducible exact LeO.refl _)
      | (with_reducible exact LeO.none _)
      | (with_reducible refine LeO.ite ?_ ?_)
      | (with_reducible refine LeO.bind ?_ (fun _ => ?_))
      | exact slices_IndexFunc_impl_Ext_impl_Ext_with_impl_ExtOf_1.mono _ _ _
      | exact LeO.none _
      | refine LeO.ite ?_ ?_
      | refine LeO.bind ?_ (fun _ => ?_)
set_option maxHeartbeats 8000000 in
set_option maxRecDepth 100000 in
theorem impl_ExtOf.calls (k : Nat) (A0 : Option Addr) (c0 : Nat) (l0 : List (S69)) (a1 : Int) (r : Int) (w : World) (hr0 : Kd.C k69 w A0 l0.length l0) (hc0 : l0.length ≤ c0) (h : impl_ExtOf.f k l0 a1 = some r) :
    Calls Try.prog 88 #[.slice A0 l0.length c0, .int .i64 a1] w fun e w' => e = .returned (.int .i64 r) ∧ Below w.heap.size w w' := by
  have HR0 := Aside0.mk hr0
  have HC0 := Aside0.mk hc0
  clear hr0 hc0
  have HB := Aside0.mk (Below.refl w.heap.size w)
  have H : ((slices_IndexFunc_impl_Ext_impl_Ext_with_impl_ExtOf_1.f k l0 a1).bind fun t334 => (some t334)) = some r := h
  clear h
  replace H := Option.bind_eq_some_iff.mp H
  obtain ⟨t334, A30, H⟩ := H
  replace H : (some t334) = some r := H
  have A3 := Aside0.mk A30
  clear A30
  obtain rfl := Option.some.inj H
  go_enter Try.func88, Try.ntmps88
  go_wp2_with (first | ((with_reducible refine gate_dst (N := 3) rfl ?_); refine box_event ?hg (N := 3) ?hd (cs := #[.int .i64 a1]) (t := 3) ?hr ?_; (case hd => rfl); (case hg => rfl); (case hr => first | (go_simp; done) | (go_simp; rfl)); intro gb333 hg w4 hbox hb; have n0_ := Aside0.mk (below_step (pb_ HB.out) hb); have n1_ := Aside0.mk (hbox); have n2_ := Aside0.mk ((by rw [hg]; exact (below_size (pb_ HB.out)) : w.heap.size ≤ gb333)); have n3_ := Aside0.mk ((by rw [hg]; exact (below_size (pb_ HB.out)) : w.heap.size ≤ gb333)); clear HB; have HB := n0_; have BK333 := n1_; have GW333 := n2_; have GE333 := n3_; clear n0_ n1_ n2_ n3_; clear hb hbox hg) | (go_at_call 99; (with_reducible refine (slices_IndexFunc_impl_Ext_impl_Ext_with_impl_ExtOf_1.calls k _ _ l0 _ a1 t334 _ ?side1 ?side2 ?side3 A3.out).mono ?_); (case side1 => exact pc_ (Kd.C_below HR0.out HB.out)); (case side2 => exact HC0.out); (case side3 => exact pk_ BK333.out); rintro e w5 ⟨rfl, hb⟩; have n0_ := Aside0.mk (bb_ BK333.out hb); have n1_ := Aside0.mk (below_step (pb1_ HB.out GE333.out) hb); clear BK333; clear HB; have BK333 := n0_; have HB := n1_; clear n0_ n1_; (try clear hb); (try clear hb2); (try clear hk); (try clear hi)))
  go_ret
  exact ⟨er_, pb1_ HB.out GE333.out⟩

/-! ### impl_AreExts: function 73 -/
def impl_AreExts.l0 : Nat → List (S69) → List (S69) → Int → Int → Option (Bool)
  | 0, _, _, _, _ => none
  | k + 1, x0, x5, x6, x7 => if x7 < x6 then (if 0 ≤ x7 then (if x7 < (x5.length : Int) then ((impl_InRange.f ((rd_T69 x5 x7).f0) 0 255).bind fun t337 => (if t337 = true then (if x7 ≤ (x0.length : Int) then ((impl_ExtOf.f k (x0.take (x7 : Int).toNat) ((rd_T69 x5 x7).f0)).bind fun t342 => (if t342 ≥ 0 then (some false) else (if (((rd_T69 x5 x7).f1).length : Int) > 4 then (some false) else ((impl_areNumbers.f k ((rd_T69 x5 x7).f1) 0 255).bind fun t343 => (if t343 = true then (impl_AreExts.l0 k x0 x5 x6 (wrap64 (x7 + 1))) else (some false)))))) else (none)) else (some false))) else (none)) else (none)) else (some (decide ((x0.length : Int) ≤ 6)))
def impl_AreExts.f (k : Nat) (l0 : List (S69)) : Option (Bool) := impl_AreExts.l0 k l0 l0 (l0.length : Int) 0
theorem impl_AreExts.mono_l : ∀ k, (∀ y0 y1 y2 y3, LeO (impl_AreExts.l0 k y0 y1 y2 y3) (impl_AreExts.l0 (k + 1) y0 y1 y2 y3))
  | 0 => fun _ _ _ _ r h => by simp [impl_AreExts.l0] at h
  | k + 1 => by
    have ih0 := impl_AreExts.mono_l k
    · intro y0 y1 y2 y3
      unfold impl_AreExts.l0
      repeat' first
      | (with_reducible exact ih0 _ _ _ _)
      | (with_reducible exact impl_ExtOf.mono _ _ _)
      | (with_reducible exact impl_areNumbers.mono _ _ _ _)
      | (with_reducible exact LeO.refl _)
      | (with_reducible exact LeO.none _)
      | (with_reducible refine LeO.ite ?_ ?_)
      | (with_reducible refine LeO.bind ?_ (fun _ => ?_))
      | exact ih0 _ _ _ _
      | exact impl_ExtOf.mono _ _ _
      | exact impl_areNumbers.mono _ _ _ _
      | exact LeO.none _
      | refine LeO.ite ?_ ?_
      | refine LeO.bind ?_ (fun _ => ?_)
theorem impl_AreExts.mono : ∀ a0 k, LeO (impl_AreExts.f k a0) (impl_AreExts.f (k + 1) a0) := by
  intro a0 k
  have ih0 := impl_AreExts.mono_l k
  unfold impl_AreExts.f
  repeat' first
      | (with_reducible exact ih0 _ _ _ _)
      | (with_reducible exact impl_ExtOf.mono _ _ _)
      | (with_reducible exact impl_areNumbers.mono _ _ _ _)
      | (with_reducible exact LeO.refl _)
      | (with_reducible exact LeO.none _)
      | (with_reducible refine LeO.ite ?_ ?_)
      | (with_reducible refine LeO.bind ?_ (fun _ => ?_))
      | exact ih0 _ _ _ _
      | exact impl_ExtOf.mono _ _ _
      | exact impl_areNumbers.mono _ _ _ _
      | exact LeO.none _
      | refine LeO.ite ?_ ?_
      | refine LeO.bind ?_ (fun _ => ?_)
def impl_AreExts.T4 : Bool × List (List Nat × List Nat) := (true, [([], []), ([0], [0]), ([1], [1]), ([2], [2]), ([3, 2], [3]), ([4], [4]), ([4], [4]), ([5, 6, 4], [4, 5, 6]), ([4], [4]), ([8, 4], [4, 8]), ([7, 9, 4, 4], [4, 7, 9]), ([10, 4], [4, 10]), ([4, 11], [4, 11]), ([12, 10], [12]), ([13], [13]), ([14, 13], [13, 14]), ([15, 13], [13, 15]), ([16, 13], [13, 16]), ([13, 17], [13, 17]), ([18, 13], [18]), ([19], [19]), ([20, 19], [19, 20]), ([21, 19, 19], [19, 21]), ([22, 19], [19, 22]), ([19, 23], [19, 23])])
def impl_AreExts.B4 : List Nat := [0, 1, 3, 7, 15, 31, 31, 127, 31, 287, 1023, 2047, 4095, 8191, 16383, 32767, 65535, 131071, 262143, 524287, 1048575, 2097151, 4194303, 8388607, 16777215]
theorem impl_AreExts.tab4 : rtab .any (opsOf Try.f73 4) = impl_AreExts.T4 := by kernel_rfl
theorem impl_AreExts.bits4 : waitsOk impl_AreExts.T4.2 impl_AreExts.B4 = true := by kernel_rfl
set_option maxHeartbeats 8000000 in
set_option maxRecDepth 100000 in
theorem impl_AreExts.calls (k : Nat) (A0 : Option Addr) (c0 : Nat) (l0 : List (S69)) (r : Bool) (w : World) (hr0 : Kd.C k69 w A0 l0.length l0) (hc0 : l0.length ≤ c0) (h : impl_AreExts.f k l0 = some r) :
    Calls Try.prog 73 #[.slice A0 l0.length c0] w fun e w' => e = .returned (.bool r) ∧ Below w.heap.size w w' := by
  have hu69 := Try.underlying69
  have HR0 := Aside0.mk hr0
  have HC0 := Aside0.mk hc0
  clear hr0 hc0
  have HB := Aside0.mk (Below.refl w.heap.size w)
  have H : (impl_AreExts.l0 k l0 l0 (l0.length : Int) 0) = some r := h
  clear h
  have H' := Aside0.mk H
  clear H
  go_enter Try.func73, Try.ntmps73
  go_wp2
  go_loopg [7] k (fun kq v7 w' => ∃ (x7_1 : Int), v7 = .int .i64 x7_1 ∧ Aside0 (impl_AreExts.l0 kq l0 l0 (l0.length : Int) x7_1 = some r) ∧ Aside0 (kq ≤ k) ∧ Aside0 (Below w.heap.size w w'))
  case atStart => exact ⟨(0), el_, H', ⟨Nat.le_refl _⟩, ⟨pb_ HB.out⟩⟩
  clear H'
  obtain ⟨x7_1, rfl, HA, HK1, HB⟩ := hrel
  rcases gk with _ | k1
  · exact absurd HA.out (by simp [impl_AreExts.l0])
  have H := HA.out
  clear HA
  simp only [impl_AreExts.l0] at H
  by_cases c2 : x7_1 < (l0.length : Int)
  rotate_left
  · rw [if_neg c2] at H
    have c2b0 : decide (x7_1 < (l0.length : Int)) = false := decide_eq_false c2
    clear c2
    obtain rfl := Option.some.inj H
    go_wp2
    go_ret
    exact ⟨er_, pb_ HB.out⟩
  rw [if_pos c2] at H
  have c2b0 : decide (x7_1 < (l0.length : Int)) = true := decide_eq_true c2
  clear c2
  by_cases c3 : 0 ≤ x7_1
  rotate_left
  · rw [if_neg c3] at H
    exact absurd H (by simp)
  rw [if_pos c3] at H
  have c3b0 : decide (0 ≤ x7_1) = true := decide_eq_true c3
  clear c3
  by_cases c4 : x7_1 < (l0.length : Int)
  rotate_left
  · rw [if_neg c4] at H
    exact absurd H (by simp)
  rw [if_pos c4] at H
  have c4b0 : decide (x7_1 < (l0.length : Int)) = true := decide_eq_true c4
  clear c4
  have HS_ := Aside0.mk H
  clear H
  have p335 : 0 ≤ (x7_1 : Int) := dt_
  have q335 : x7_1 < (l0.length : Int) := dt_
  obtain ⟨ad335, A335_1, c335_1, e335, hx335_0, hx335_1, hl335_1, hi335_1⟩ := at_T69 HR0.out x7_1 p335 q335
  cases e335
  replace hx335_0 := (HB.out.cell (World.block_lt_of_cell? w _ hx335_0)).trans hx335_0
  replace hx335_1 := (HB.out.cell (World.block_lt_of_cell? w _ hx335_1)).trans hx335_1
  have HR335_1 := Aside0.mk hi335_1
  have HC335_1 := Aside0.mk hl335_1
  clear hi335_1 hl335_1
  replace p335 := eq_true p335
  replace q335 := eq_true q335
  go_upto_region 4 with (first | ((with_reducible refine gate_dst (N := 4) rfl ?_); (try (refine gate_guard (by rfl) ?_; dsimp only)); refine box_event ?hg (N := 4) ?hd (cs := #[.int .i64 0, .slice none 0 0]) (t := 69) ?hr ?_; (case hd => rfl); (case hg => rfl); (case hr => first | (go_simp; done) | (go_simp; rfl)); intro gb336 hg w5 hbox hb; have n0_ := Aside0.mk (below_step (pb_ HB.out) hb); have n1_ := Aside0.mk (hbox); have n2_ := Aside0.mk ((by rw [hg]; exact (below_size (pb_ HB.out)) : w.heap.size ≤ gb336)); have n3_ := Aside0.mk ((by rw [hg]; exact (below_size (pb_ HB.out)) : w.heap.size ≤ gb336)); clear HB; have HB := n0_; have BK336 := n1_; have GW336 := n2_; have GE336 := n3_; clear n0_ n1_ n2_ n3_; clear hb hbox hg; have hcz6_0 : w5.cell? ⟨gb336, 0, none⟩ = some (.int .i64 0) := (blk_cell BK336.out 0).trans rfl; have hcz6_1 : w5.cell? ⟨gb336, 1, none⟩ = some (.slice none 0 0) := (blk_cell BK336.out 1).trans rfl; have hfz6_0 := blk_frozen BK336.out 0; have hfz6_1 := blk_frozen BK336.out 1))
  (try simp only [Act.put, List.setIfInBounds_toArray, List.set_cons_zero, List.set_cons_succ])
  have H := HS_.out
  clear HS_
  replace H := Option.bind_eq_some_iff.mp H
  obtain ⟨t337, A70, H⟩ := H
  (try dsimp only at H)
  have A7 := Aside0.mk A70
  clear A70
  by_cases c8 : t337 = true
  rotate_left
  · replace c8 := Bool.eq_false_iff.mpr c8
    subst c8
    rw [if_neg (show ¬ (false = true) by decide)] at H
    obtain rfl := Option.some.inj H
    try go_wp2
    have n0_ : Aside0 (((w5.setCell ⟨gb336, 0, none⟩ (.int .i64 ((rd_T69 l0 x7_1).f0))).setCell ⟨gb336, 1, none⟩ (.slice A335_1 ((rd_T69 l0 x7_1).f1).length c335_1)).heap[gb336]? = some (.cells #[.int .i64 ((rd_T69 l0 x7_1).f0), .slice A335_1 ((rd_T69 l0 x7_1).f1).length c335_1] 69 (0, 0))) := ⟨pp_ BK336.out⟩
    have n1_ : Aside0 (Below w.heap.size w ((w5.setCell ⟨gb336, 0, none⟩ (.int .i64 ((rd_T69 l0 x7_1).f0))).setCell ⟨gb336, 1, none⟩ (.slice A335_1 ((rd_T69 l0 x7_1).f1).length c335_1))) := ⟨pb1_ HB.out GE336.out⟩
    (try clear BK336)
    (try clear HB)
    generalize ((w5.setCell ⟨gb336, 0, none⟩ (.int .i64 ((rd_T69 l0 x7_1).f0))).setCell ⟨gb336, 1, none⟩ (.slice A335_1 ((rd_T69 l0 x7_1).f1).length c335_1)) = w9 at n0_ n1_ ⊢
    (try (rw [show w9.drewN nd = w9.drewN nd from rfl]; replace n0_ := Aside0.mk (blk_drewN n0_.out nd); replace n1_ := Aside0.mk (pw_below_drewN n1_.out nd); generalize w9.drewN nd = w9 at n0_ n1_ ⊢))
    have BK336 := n0_
    have HB := n1_
    clear n0_ n1_
    have n0_ := Aside0.mk (blk_drew BK336.out)
    have n1_ := Aside0.mk (below_drew1 HB.out)
    clear BK336
    clear HB
    have BK336 := n0_
    have HB := n1_
    clear n0_ n1_
    refine start_ (n := 25) (S := fun w' => w'.cell? ⟨gb336, 0, none⟩ = some (.int .i64 ((rd_T69 l0 x7_1).f0)) ∧ w'.cell? ⟨gb336, 1, none⟩ = some (.slice A335_1 ((rd_T69 l0 x7_1).f1).length c335_1)) (ds := []) #[false, false, false, false, false, false, false, false, false, false, false, false, false, false, false, false, false, false, false, false, false, false, false, false, false] (by kernel_rfl) rfl rfl ⟨(blk_cell BK336.out 0).trans rfl, (blk_cell BK336.out 1).trans rfl⟩ (fun hHeld => ?_); refine with_tabW impl_AreExts.tab4 impl_AreExts.bits4 (fun HT_ HW_ => ?_)
    generalize w9.drew = w10 at BK336 HB hHeld ⊢
    refine pu_ 0 (some 12) (tf_ 1 25) HT_ ?_
    refine ta_ 1 (some 13) (tf_ 2 25) HT_ HW_ hHeld ?_
    refine on_ 2 (some 14) (tf_ 3 25) HT_ (fun K hK => ?_)
    refine goes_ Try.func61 (by kernel_rfl) rfl #[.int .i64 ((rd_T69 l0 x7_1).f0), .int .i64 0, .int .i64 255] (by rfl) rfl rfl mp_ ?_
    with_reducible refine (impl_InRange.calls ((rd_T69 l0 x7_1).f0) 0 255 false _ A7.out).mono ?_
    rintro e w' ⟨rfl, ⟨nd, rfl⟩⟩
    refine ⟨_, rfl, ?_⟩
    refine hK.out _ _ ⟨(blk_cell BK336.out 0).trans rfl, (blk_cell BK336.out 1).trans rfl⟩ (fun hHeld => ?_)
    clear hK K
    refine no_ (some 14) ?_
    refine pu_ 3 (some 15) (tf_ 4 25) HT_ ?_
    refine pu_ 4 (some 16) (tf_ 5 25) HT_ ?_
    refine pn_ 5 (some 17) (tf_ 6 25) HT_ ?_
    refine pn_ 6 (some 18) (tf_ 7 25) HT_ ?_
    refine pn_ 7 (some 19) (tf_ 8 25) HT_ ?_
    refine pn_ 8 (some 20) (tf_ 9 25) HT_ ?_
    refine pn_ 9 (some 21) (tf_ 10 25) HT_ ?_
    refine pn_ 10 (some 22) (tf_ 11 25) HT_ ?_
    refine pn_ 11 (some 23) (tf_ 12 25) HT_ ?_
    refine pu_ 12 (some 24) (tf_ 13 25) HT_ ?_
    refine pu_ 13 (some 25) (tf_ 14 25) HT_ ?_
    refine pn_ 14 (some 26) (tf_ 15 25) HT_ ?_
    refine pn_ 15 (some 27) (tf_ 16 25) HT_ ?_
    refine pn_ 16 (some 28) (tf_ 17 25) HT_ ?_
    refine pn_ 17 (some 29) (tf_ 18 25) HT_ ?_
    refine pu_ 18 (some 30) (tf_ 19 25) HT_ ?_
    refine pu_ 19 (some 31) (tf_ 20 25) HT_ ?_
    refine pn_ 20 (some 32) (tf_ 21 25) HT_ ?_
    refine pn_ 21 (some 33) (tf_ 22 25) HT_ ?_
    refine pn_ 22 (some 34) (tf_ 23 25) HT_ ?_
    refine pn_ 23 (some 35) (tf_ 24 25) HT_ ?_
    refine pu_ 24 (some 36) (tf_ 25 25) HT_ ?_
    refine done_ (done_of HT_.out (by kernel_rfl)) ?_
    try go_wp2
    go_ret
    exact ⟨er_, pb1_ HB.out GE336.out⟩
  subst c8
  rw [if_pos rfl] at H
  have c11b0 := eq_true (dt_ : 0 ≤ x7_1)
  by_cases c12 : x7_1 ≤ (l0.length : Int)
  rotate_left
  · rw [if_neg c12] at H
    exact absurd H (by simp)
  rw [if_pos c12] at H
  have c12b0 := eq_true c12
  have c12b1 : decide (x7_1 ≤ (l0.length : Int)) = true := decide_eq_true c12
  clear c12
  obtain ⟨y338, hy338⟩ : ∃ y_ : List (S69), y_ = (l0.take (x7_1 : Int).toNat) := ⟨_, rfl⟩
  replace H : ((impl_ExtOf.f k1 y338 ((rd_T69 l0 x7_1).f0)).bind fun t342 => (if t342 ≥ 0 then (some false) else (if (((rd_T69 l0 x7_1).f1).length : Int) > 4 then (some false) else ((impl_areNumbers.f k1 ((rd_T69 l0 x7_1).f1) 0 255).bind fun t343 => (if t343 = true then (impl_AreExts.l0 k1 l0 l0 (l0.length : Int) (wrap64 (x7_1 + 1))) else (some false)))))) = some r := by first | (rw [hy338]; with_reducible exact H) | (have H2_ := (Option.bind_some _ _).symm.trans H; rw [hy338]; with_reducible exact H2_) | (have H2_ := (Option.bind_some _ _).symm.trans H; with_reducible exact H2_) | with_reducible exact H | (rw [hy338]; exact H) | exact H
  have Ny338 := Aside0.mk hy338
  clear hy338
  replace H := Option.bind_eq_some_iff.mp H
  obtain ⟨t342, A130, H⟩ := H
  (try dsimp only at H)
  have A13 := Aside0.mk A130
  clear A130
  by_cases c14 : t342 ≥ 0
  · rw [if_pos c14] at H
    have c14b0 : decide (0 ≤ t342) = true := decide_eq_true c14
    clear c14
    (first | rw [c14b0] | (simp only [i64_w, i32_w]; rw [c14b0]) | skip)
    obtain rfl := Option.some.inj H
    try go_wp2
    have n0_ : Aside0 (((w5.setCell ⟨gb336, 0, none⟩ (.int .i64 ((rd_T69 l0 x7_1).f0))).setCell ⟨gb336, 1, none⟩ (.slice A335_1 ((rd_T69 l0 x7_1).f1).length c335_1)).heap[gb336]? = some (.cells #[.int .i64 ((rd_T69 l0 x7_1).f0), .slice A335_1 ((rd_T69 l0 x7_1).f1).length c335_1] 69 (0, 0))) := ⟨pp_ BK336.out⟩
    have n1_ : Aside0 (Below w.heap.size w ((w5.setCell ⟨gb336, 0, none⟩ (.int .i64 ((rd_T69 l0 x7_1).f0))).setCell ⟨gb336, 1, none⟩ (.slice A335_1 ((rd_T69 l0 x7_1).f1).length c335_1))) := ⟨pb1_ HB.out GE336.out⟩
    (try clear BK336)
    (try clear HB)
    generalize ((w5.setCell ⟨gb336, 0, none⟩ (.int .i64 ((rd_T69 l0 x7_1).f0))).setCell ⟨gb336, 1, none⟩ (.slice A335_1 ((rd_T69 l0 x7_1).f1).length c335_1)) = w15 at n0_ n1_ ⊢
    (try (rw [show w15.drewN nd = w15.drewN nd from rfl]; replace n0_ := Aside0.mk (blk_drewN n0_.out nd); replace n1_ := Aside0.mk (pw_below_drewN n1_.out nd); generalize w15.drewN nd = w15 at n0_ n1_ ⊢))
    have BK336 := n0_
    have HB := n1_
    clear n0_ n1_
    have n0_ := Aside0.mk (blk_drew BK336.out)
    have n1_ := Aside0.mk (below_drew1 HB.out)
    clear BK336
    clear HB
    have BK336 := n0_
    have HB := n1_
    clear n0_ n1_
    refine start_ (n := 25) (S := fun w' => w'.cell? ⟨gb336, 0, none⟩ = some (.int .i64 ((rd_T69 l0 x7_1).f0)) ∧ w'.cell? ⟨gb336, 1, none⟩ = some (.slice A335_1 ((rd_T69 l0 x7_1).f1).length c335_1)) (ds := []) #[false, false, false, false, false, false, false, false, false, false, false, false, false, false, false, false, false, false, false, false, false, false, false, false, false] (by kernel_rfl) rfl rfl ⟨(blk_cell BK336.out 0).trans rfl, (blk_cell BK336.out 1).trans rfl⟩ (fun hHeld => ?_); refine with_tabW impl_AreExts.tab4 impl_AreExts.bits4 (fun HT_ HW_ => ?_)
    generalize w15.drew = w16 at BK336 HB hHeld ⊢
    refine pu_ 0 (some 12) (tf_ 1 25) HT_ ?_
    refine ta_ 1 (some 13) (tf_ 2 25) HT_ HW_ hHeld ?_
    refine on_ 2 (some 14) (tf_ 3 25) HT_ (fun K hK => ?_)
    refine goes_ Try.func61 (by kernel_rfl) rfl #[.int .i64 ((rd_T69 l0 x7_1).f0), .int .i64 0, .int .i64 255] (by rfl) rfl rfl mp_ ?_
    with_reducible refine (impl_InRange.calls ((rd_T69 l0 x7_1).f0) 0 255 true _ A7.out).mono ?_
    rintro e w' ⟨rfl, ⟨nd, rfl⟩⟩
    refine ⟨_, rfl, ?_⟩
    have q17 : (x7_1 : Int) ≤ ((l0.length : Int) : Int) := dt_
    obtain ⟨i017, hi017, _, hsz17, _⟩ := info_parts info69
    have hroom17 : l0.length ≤ c0 := HC0.out
    have hC17 : Kd.C k69 _ (some ad335) l0.length l0 := HR0.out
    have hcut17 := cut_to (P := Try.prog) 48 69 .i64 Try.underlying48 hi017 (some ad335) l0.length c0 x7_1 dt_ q17 hroom17
    have hr17 := Kd.C_take (m := (x7_1 : Int).toNat) hC17 (by omega)
    have hy17 : y338.length = (x7_1 : Int).toNat := (by rw [Ny338.out, List.length_take]; omega)
    rw [← Ny338.out] at hr17
    rw [← hy17] at hcut17
    have HR341 := Aside0.mk hr17
    have HC341 := Aside0.mk (show y338.length ≤ c0 from by omega)
    clear hr17 hC17 hroom17 hi017 hsz17
    have KY17 := Aside0.mk hy17
    clear hy17
    replace q17 := eq_true q17
    refine hK.out _ _ ⟨(blk_cell BK336.out 0).trans rfl, (blk_cell BK336.out 1).trans rfl⟩ (fun hHeld => ?_)
    clear hK K
    refine no_ (some 14) ?_
    refine pu_ 3 (some 15) (tf_ 4 25) HT_ ?_
    refine pu_ 4 (some 16) (tf_ 5 25) HT_ ?_
    refine pu_ 5 (some 17) (tf_ 6 25) HT_ ?_
    refine pu_ 6 (some 18) (tf_ 7 25) HT_ ?_
    refine pu_ 7 (some 19) (tf_ 8 25) HT_ ?_
    refine pu_ 8 (some 20) (tf_ 9 25) HT_ ?_
    refine ta_ 9 (some 21) (tf_ 10 25) HT_ HW_ hHeld ?_
    refine on_ 10 (some 22) (tf_ 11 25) HT_ (fun K hK => ?_)
    refine goes_ Try.func88 (by kernel_rfl) rfl #[.slice (some ad335) y338.length c0, .int .i64 ((rd_T69 l0 x7_1).f0)] (by rfl) rfl rfl mp_ ?_
    with_reducible refine (impl_ExtOf.calls k1 _ _ y338 ((rd_T69 l0 x7_1).f0) t342 _ ?side1 ?side2 A13.out).mono ?_
    (case side1 => exact pc_ (Kd.C_below HR341.out (pb1_ HB.out GE336.out)))
    (case side2 => exact HC341.out)
    rintro e w18 ⟨rfl, hb⟩
    refine ⟨_, rfl, ?_⟩
    have n0_ := Aside0.mk (bb_ BK336.out hb)
    have n1_ := Aside0.mk (below_step (pb1_ HB.out GE336.out) hb)
    clear BK336
    clear HB
    have BK336 := n0_
    have HB := n1_
    clear n0_ n1_
    (try clear hb)
    (try clear hb2)
    (try clear hk)
    (try clear hi)
    refine hK.out _ _ ⟨(blk_cell BK336.out 0).trans rfl, (blk_cell BK336.out 1).trans rfl⟩ (fun hHeld => ?_)
    clear hK K
    refine no_ (some 22) ?_
    refine pu_ 11 (some 23) (tf_ 12 25) HT_ ?_
    refine pu_ 12 (some 24) (tf_ 13 25) HT_ ?_
    refine pu_ 13 (some 25) (tf_ 14 25) HT_ ?_
    refine pn_ 14 (some 26) (tf_ 15 25) HT_ ?_
    refine pn_ 15 (some 27) (tf_ 16 25) HT_ ?_
    refine pn_ 16 (some 28) (tf_ 17 25) HT_ ?_
    refine pn_ 17 (some 29) (tf_ 18 25) HT_ ?_
    refine pu_ 18 (some 30) (tf_ 19 25) HT_ ?_
    refine pu_ 19 (some 31) (tf_ 20 25) HT_ ?_
    refine pn_ 20 (some 32) (tf_ 21 25) HT_ ?_
    refine pn_ 21 (some 33) (tf_ 22 25) HT_ ?_
    refine pn_ 22 (some 34) (tf_ 23 25) HT_ ?_
    refine pn_ 23 (some 35) (tf_ 24 25) HT_ ?_
    refine pu_ 24 (some 36) (tf_ 25 25) HT_ ?_
    refine done_ (done_of HT_.out (by kernel_rfl)) ?_
    try go_wp2
    go_ret
    exact ⟨er_, pb1_ HB.out GE336.out⟩
  rw [if_neg c14] at H
  have c14b0 : decide (0 ≤ t342) = false := decide_eq_false c14
  clear c14
  (first | rw [c14b0] | (simp only [i64_w, i32_w]; rw [c14b0]) | skip)
  by_cases c19 : (((rd_T69 l0 x7_1).f1).length : Int) > 4
  · rw [if_pos c19] at H
    have c19b0 : decide (4 < (((rd_T69 l0 x7_1).f1).length : Int)) = true := decide_eq_true c19
    have c19b1 : decide (4 < ((rd_T69 l0 x7_1).f1).length) = true := decide_eq_true (by omega)
    clear c19
    obtain rfl := Option.some.inj H
    try go_wp2
    have n0_ : Aside0 (((w5.setCell ⟨gb336, 0, none⟩ (.int .i64 ((rd_T69 l0 x7_1).f0))).setCell ⟨gb336, 1, none⟩ (.slice A335_1 ((rd_T69 l0 x7_1).f1).length c335_1)).heap[gb336]? = some (.cells #[.int .i64 ((rd_T69 l0 x7_1).f0), .slice A335_1 ((rd_T69 l0 x7_1).f1).length c335_1] 69 (0, 0))) := ⟨pp_ BK336.out⟩
    have n1_ : Aside0 (Below w.heap.size w ((w5.setCell ⟨gb336, 0, none⟩ (.int .i64 ((rd_T69 l0 x7_1).f0))).setCell ⟨gb336, 1, none⟩ (.slice A335_1 ((rd_T69 l0 x7_1).f1).length c335_1))) := ⟨pb1_ HB.out GE336.out⟩
    (try clear BK336)
    (try clear HB)
    generalize ((w5.setCell ⟨gb336, 0, none⟩ (.int .i64 ((rd_T69 l0 x7_1).f0))).setCell ⟨gb336, 1, none⟩ (.slice A335_1 ((rd_T69 l0 x7_1).f1).length c335_1)) = w20 at n0_ n1_ ⊢
    (try (rw [show w20.drewN nd = w20.drewN nd from rfl]; replace n0_ := Aside0.mk (blk_drewN n0_.out nd); replace n1_ := Aside0.mk (pw_below_drewN n1_.out nd); generalize w20.drewN nd = w20 at n0_ n1_ ⊢))
    have BK336 := n0_
    have HB := n1_
    clear n0_ n1_
    have n0_ := Aside0.mk (blk_drew BK336.out)
    have n1_ := Aside0.mk (below_drew1 HB.out)
    clear BK336
    clear HB
    have BK336 := n0_
    have HB := n1_
    clear n0_ n1_
    refine start_ (n := 25) (S := fun w' => w'.cell? ⟨gb336, 0, none⟩ = some (.int .i64 ((rd_T69 l0 x7_1).f0)) ∧ w'.cell? ⟨gb336, 1, none⟩ = some (.slice A335_1 ((rd_T69 l0 x7_1).f1).length c335_1)) (ds := []) #[false, false, false, false, false, false, false, false, false, false, false, false, false, false, false, false, false, false, false, false, false, false, false, false, false] (by kernel_rfl) rfl rfl ⟨(blk_cell BK336.out 0).trans rfl, (blk_cell BK336.out 1).trans rfl⟩ (fun hHeld => ?_); refine with_tabW impl_AreExts.tab4 impl_AreExts.bits4 (fun HT_ HW_ => ?_)
    generalize w20.drew = w21 at BK336 HB hHeld ⊢
    refine pu_ 0 (some 12) (tf_ 1 25) HT_ ?_
    refine ta_ 1 (some 13) (tf_ 2 25) HT_ HW_ hHeld ?_
    refine on_ 2 (some 14) (tf_ 3 25) HT_ (fun K hK => ?_)
    refine goes_ Try.func61 (by kernel_rfl) rfl #[.int .i64 ((rd_T69 l0 x7_1).f0), .int .i64 0, .int .i64 255] (by rfl) rfl rfl mp_ ?_
    with_reducible refine (impl_InRange.calls ((rd_T69 l0 x7_1).f0) 0 255 true _ A7.out).mono ?_
    rintro e w' ⟨rfl, ⟨nd, rfl⟩⟩
    refine ⟨_, rfl, ?_⟩
    have q22 : (x7_1 : Int) ≤ ((l0.length : Int) : Int) := dt_
    obtain ⟨i022, hi022, _, hsz22, _⟩ := info_parts info69
    have hroom22 : l0.length ≤ c0 := HC0.out
    have hC22 : Kd.C k69 _ (some ad335) l0.length l0 := HR0.out
    have hcut22 := cut_to (P := Try.prog) 48 69 .i64 Try.underlying48 hi022 (some ad335) l0.length c0 x7_1 dt_ q22 hroom22
    have hr22 := Kd.C_take (m := (x7_1 : Int).toNat) hC22 (by omega)
    have hy22 : y338.length = (x7_1 : Int).toNat := (by rw [Ny338.out, List.length_take]; omega)
    rw [← Ny338.out] at hr22
    rw [← hy22] at hcut22
    have HR341 := Aside0.mk hr22
    have HC341 := Aside0.mk (show y338.length ≤ c0 from by omega)
    clear hr22 hC22 hroom22 hi022 hsz22
    have KY22 := Aside0.mk hy22
    clear hy22
    replace q22 := eq_true q22
    refine hK.out _ _ ⟨(blk_cell BK336.out 0).trans rfl, (blk_cell BK336.out 1).trans rfl⟩ (fun hHeld => ?_)
    clear hK K
    refine no_ (some 14) ?_
    refine pu_ 3 (some 15) (tf_ 4 25) HT_ ?_
    refine pu_ 4 (some 16) (tf_ 5 25) HT_ ?_
    refine pu_ 5 (some 17) (tf_ 6 25) HT_ ?_
    refine pu_ 6 (some 18) (tf_ 7 25) HT_ ?_
    refine pu_ 7 (some 19) (tf_ 8 25) HT_ ?_
    refine pu_ 8 (some 20) (tf_ 9 25) HT_ ?_
    refine ta_ 9 (some 21) (tf_ 10 25) HT_ HW_ hHeld ?_
    refine on_ 10 (some 22) (tf_ 11 25) HT_ (fun K hK => ?_)
    refine goes_ Try.func88 (by kernel_rfl) rfl #[.slice (some ad335) y338.length c0, .int .i64 ((rd_T69 l0 x7_1).f0)] (by rfl) rfl rfl mp_ ?_
    with_reducible refine (impl_ExtOf.calls k1 _ _ y338 ((rd_T69 l0 x7_1).f0) t342 _ ?side1 ?side2 A13.out).mono ?_
    (case side1 => exact pc_ (Kd.C_below HR341.out (pb1_ HB.out GE336.out)))
    (case side2 => exact HC341.out)
    rintro e w23 ⟨rfl, hb⟩
    refine ⟨_, rfl, ?_⟩
    have n0_ := Aside0.mk (bb_ BK336.out hb)
    have n1_ := Aside0.mk (below_step (pb1_ HB.out GE336.out) hb)
    clear BK336
    clear HB
    have BK336 := n0_
    have HB := n1_
    clear n0_ n1_
    (try clear hb)
    (try clear hb2)
    (try clear hk)
    (try clear hi)
    refine hK.out _ _ ⟨(blk_cell BK336.out 0).trans rfl, (blk_cell BK336.out 1).trans rfl⟩ (fun hHeld => ?_)
    clear hK K
    refine no_ (some 22) ?_
    refine pu_ 11 (some 23) (tf_ 12 25) HT_ ?_
    refine pu_ 12 (some 24) (tf_ 13 25) HT_ ?_
    refine pu_ 13 (some 25) (tf_ 14 25) HT_ ?_
    refine pu_ 14 (some 26) (tf_ 15 25) HT_ ?_
    refine ta_ 15 (some 27) (tf_ 16 25) HT_ HW_ hHeld ?_
    refine pu_ 16 (some 28) (tf_ 17 25) HT_ ?_
    refine pu_ 17 (some 29) (tf_ 18 25) HT_ ?_
    refine pu_ 18 (some 30) (tf_ 19 25) HT_ ?_
    refine pu_ 19 (some 31) (tf_ 20 25) HT_ ?_
    refine pn_ 20 (some 32) (tf_ 21 25) HT_ ?_
    refine pn_ 21 (some 33) (tf_ 22 25) HT_ ?_
    refine pn_ 22 (some 34) (tf_ 23 25) HT_ ?_
    refine pn_ 23 (some 35) (tf_ 24 25) HT_ ?_
    refine pu_ 24 (some 36) (tf_ 25 25) HT_ ?_
    refine done_ (done_of HT_.out (by kernel_rfl)) ?_
    try go_wp2
    go_ret
    exact ⟨er_, pb1_ HB.out GE336.out⟩
  rw [if_neg c19] at H
  have c19b0 : decide (4 < (((rd_T69 l0 x7_1).f1).length : Int)) = false := decide_eq_false c19
  have c19b1 : decide (4 < ((rd_T69 l0 x7_1).f1).length) = false := decide_eq_false (by omega)
  clear c19
  replace H := Option.bind_eq_some_iff.mp H
  obtain ⟨t343, A240, H⟩ := H
  (try dsimp only at H)
  have A24 := Aside0.mk A240
  clear A240
  have HS_ := Aside0.mk H
  clear H
  try go_wp2
  have n0_ : Aside0 (((w5.setCell ⟨gb336, 0, none⟩ (.int .i64 ((rd_T69 l0 x7_1).f0))).setCell ⟨gb336, 1, none⟩ (.slice A335_1 ((rd_T69 l0 x7_1).f1).length c335_1)).heap[gb336]? = some (.cells #[.int .i64 ((rd_T69 l0 x7_1).f0), .slice A335_1 ((rd_T69 l0 x7_1).f1).length c335_1] 69 (0, 0))) := ⟨pp_ BK336.out⟩
  have n1_ : Aside0 (Below w.heap.size w ((w5.setCell ⟨gb336, 0, none⟩ (.int .i64 ((rd_T69 l0 x7_1).f0))).setCell ⟨gb336, 1, none⟩ (.slice A335_1 ((rd_T69 l0 x7_1).f1).length c335_1))) := ⟨pb1_ HB.out GE336.out⟩
  (try clear BK336)
  (try clear HB)
  generalize ((w5.setCell ⟨gb336, 0, none⟩ (.int .i64 ((rd_T69 l0 x7_1).f0))).setCell ⟨gb336, 1, none⟩ (.slice A335_1 ((rd_T69 l0 x7_1).f1).length c335_1)) = w25 at n0_ n1_ ⊢
  (try (rw [show w25.drewN nd = w25.drewN nd from rfl]; replace n0_ := Aside0.mk (blk_drewN n0_.out nd); replace n1_ := Aside0.mk (pw_below_drewN n1_.out nd); generalize w25.drewN nd = w25 at n0_ n1_ ⊢))
  have BK336 := n0_
  have HB := n1_
  clear n0_ n1_
  have n0_ := Aside0.mk (blk_drew BK336.out)
  have n1_ := Aside0.mk (below_drew1 HB.out)
  clear BK336
  clear HB
  have BK336 := n0_
  have HB := n1_
  clear n0_ n1_
  refine start_ (n := 25) (S := fun w' => w'.cell? ⟨gb336, 0, none⟩ = some (.int .i64 ((rd_T69 l0 x7_1).f0)) ∧ w'.cell? ⟨gb336, 1, none⟩ = some (.slice A335_1 ((rd_T69 l0 x7_1).f1).length c335_1)) (ds := []) #[false, false, false, false, false, false, false, false, false, false, false, false, false, false, false, false, false, false, false, false, false, false, false, false, false] (by kernel_rfl) rfl rfl ⟨(blk_cell BK336.out 0).trans rfl, (blk_cell BK336.out 1).trans rfl⟩ (fun hHeld => ?_); refine with_tabW impl_AreExts.tab4 impl_AreExts.bits4 (fun HT_ HW_ => ?_)
  generalize w25.drew = w26 at BK336 HB hHeld ⊢
  refine pu_ 0 (some 12) (tf_ 1 25) HT_ ?_
  refine ta_ 1 (some 13) (tf_ 2 25) HT_ HW_ hHeld ?_
  refine on_ 2 (some 14) (tf_ 3 25) HT_ (fun K hK => ?_)
  refine goes_ Try.func61 (by kernel_rfl) rfl #[.int .i64 ((rd_T69 l0 x7_1).f0), .int .i64 0, .int .i64 255] (by rfl) rfl rfl mp_ ?_
  with_reducible refine (impl_InRange.calls ((rd_T69 l0 x7_1).f0) 0 255 true _ A7.out).mono ?_
  rintro e w' ⟨rfl, ⟨nd, rfl⟩⟩
  refine ⟨_, rfl, ?_⟩
  have q27 : (x7_1 : Int) ≤ ((l0.length : Int) : Int) := dt_
  obtain ⟨i027, hi027, _, hsz27, _⟩ := info_parts info69
  have hroom27 : l0.length ≤ c0 := HC0.out
  have hC27 : Kd.C k69 _ (some ad335) l0.length l0 := HR0.out
  have hcut27 := cut_to (P := Try.prog) 48 69 .i64 Try.underlying48 hi027 (some ad335) l0.length c0 x7_1 dt_ q27 hroom27
  have hr27 := Kd.C_take (m := (x7_1 : Int).toNat) hC27 (by omega)
  have hy27 : y338.length = (x7_1 : Int).toNat := (by rw [Ny338.out, List.length_take]; omega)
  rw [← Ny338.out] at hr27
  rw [← hy27] at hcut27
  have HR341 := Aside0.mk hr27
  have HC341 := Aside0.mk (show y338.length ≤ c0 from by omega)
  clear hr27 hC27 hroom27 hi027 hsz27
  have KY27 := Aside0.mk hy27
  clear hy27
  replace q27 := eq_true q27
  refine hK.out _ _ ⟨(blk_cell BK336.out 0).trans rfl, (blk_cell BK336.out 1).trans rfl⟩ (fun hHeld => ?_)
  clear hK K
  refine no_ (some 14) ?_
  refine pu_ 3 (some 15) (tf_ 4 25) HT_ ?_
  refine pu_ 4 (some 16) (tf_ 5 25) HT_ ?_
  refine pu_ 5 (some 17) (tf_ 6 25) HT_ ?_
  refine pu_ 6 (some 18) (tf_ 7 25) HT_ ?_
  refine pu_ 7 (some 19) (tf_ 8 25) HT_ ?_
  refine pu_ 8 (some 20) (tf_ 9 25) HT_ ?_
  refine ta_ 9 (some 21) (tf_ 10 25) HT_ HW_ hHeld ?_
  refine on_ 10 (some 22) (tf_ 11 25) HT_ (fun K hK => ?_)
  refine goes_ Try.func88 (by kernel_rfl) rfl #[.slice (some ad335) y338.length c0, .int .i64 ((rd_T69 l0 x7_1).f0)] (by rfl) rfl rfl mp_ ?_
  with_reducible refine (impl_ExtOf.calls k1 _ _ y338 ((rd_T69 l0 x7_1).f0) t342 _ ?side1 ?side2 A13.out).mono ?_
  (case side1 => exact pc_ (Kd.C_below HR341.out (pb1_ HB.out GE336.out)))
  (case side2 => exact HC341.out)
  rintro e w28 ⟨rfl, hb⟩
  refine ⟨_, rfl, ?_⟩
  have n0_ := Aside0.mk (bb_ BK336.out hb)
  have n1_ := Aside0.mk (below_step (pb1_ HB.out GE336.out) hb)
  clear BK336
  clear HB
  have BK336 := n0_
  have HB := n1_
  clear n0_ n1_
  (try clear hb)
  (try clear hb2)
  (try clear hk)
  (try clear hi)
  refine hK.out _ _ ⟨(blk_cell BK336.out 0).trans rfl, (blk_cell BK336.out 1).trans rfl⟩ (fun hHeld => ?_)
  clear hK K
  refine no_ (some 22) ?_
  refine pu_ 11 (some 23) (tf_ 12 25) HT_ ?_
  refine pu_ 12 (some 24) (tf_ 13 25) HT_ ?_
  refine pu_ 13 (some 25) (tf_ 14 25) HT_ ?_
  refine pu_ 14 (some 26) (tf_ 15 25) HT_ ?_
  refine ta_ 15 (some 27) (tf_ 16 25) HT_ HW_ hHeld ?_
  refine pu_ 16 (some 28) (tf_ 17 25) HT_ ?_
  refine pu_ 17 (some 29) (tf_ 18 25) HT_ ?_
  refine pu_ 18 (some 30) (tf_ 19 25) HT_ ?_
  refine pu_ 19 (some 31) (tf_ 20 25) HT_ ?_
  refine pu_ 20 (some 32) (tf_ 21 25) HT_ ?_
  refine ta_ 21 (some 33) (tf_ 22 25) HT_ HW_ hHeld ?_
  refine on_ 22 (some 34) (tf_ 23 25) HT_ (fun K hK => ?_)
  refine goes_ Try.func79 (by kernel_rfl) rfl #[.slice A335_1 ((rd_T69 l0 x7_1).f1).length c335_1, .int .i64 0, .int .i64 255] (by rfl) rfl rfl mp_ ?_
  with_reducible refine (impl_areNumbers.calls k1 _ _ ((rd_T69 l0 x7_1).f1) 0 255 t343 _ ?side1 ?side2 A24.out).mono ?_
  (case side1 => exact pc_ (Kd.C_below HR335_1.out HB.out))
  (case side2 => exact HC335_1.out)
  rintro e w29 ⟨rfl, hb⟩
  refine ⟨_, rfl, ?_⟩
  have n0_ := Aside0.mk (bb_ BK336.out hb)
  have n1_ := Aside0.mk (below_step (pb1_ HB.out GE336.out) hb)
  clear BK336
  clear HB
  have BK336 := n0_
  have HB := n1_
  clear n0_ n1_
  (try clear hb)
  (try clear hb2)
  (try clear hk)
  (try clear hi)
  refine hK.out _ _ ⟨(blk_cell BK336.out 0).trans rfl, (blk_cell BK336.out 1).trans rfl⟩ (fun hHeld => ?_)
  clear hK K
  refine no_ (some 34) ?_
  refine pu_ 23 (some 35) (tf_ 24 25) HT_ ?_
  refine pu_ 24 (some 36) (tf_ 25 25) HT_ ?_
  refine done_ (done_of HT_.out (by kernel_rfl)) ?_
  go_upto_if 36 with (fail)
  have H := HS_.out
  clear HS_
  by_cases c30 : t343 = true
  rotate_left
  · replace c30 := Bool.eq_false_iff.mpr c30
    subst c30
    rw [if_neg (show ¬ (false = true) by decide)] at H
    obtain rfl := Option.some.inj H
    go_wp2
    go_ret
    exact ⟨er_, pb1_ HB.out GE336.out⟩
  subst c30
  rw [if_pos rfl] at H
  have H' := Aside0.mk H
  clear H
  go_wp2
  go_roundg k1
  case measure => have := HK1.out; omega
  case rel => exact ⟨(wrap64 (x7_1 + 1)), el_, H', ⟨by have := HK1.out; omega⟩, ⟨pb1_ HB.out GE336.out⟩⟩

/-! ### impl_IsHello: function 84 -/
def impl_IsHello.f (k : Nat) (l0_0 : List Int) (l0_1 : List (S69)) : Option (Bool) := (impl_AreVersions.f k l0_0).bind fun t345 => (if t345 = true then ((impl_AreExts.f k l0_1).bind fun t346 => (some t346)) else (some false))
theorem impl_IsHello.mono : ∀ a0 a1 k, LeO (impl_IsHello.f k a0 a1) (impl_IsHello.f (k + 1) a0 a1) := by
  intro a0 a1 k
  unfold impl_IsHello.f
  repeat' first
      | (with_reducible exact impl_AreExts.mono _ _)
      | (with_reducible exact impl_AreVersions.mono _ _)
      | (with_reducible exact LeO.refl _)
      | (with_reducible exact LeO.none _)
      | (with_reducible refine LeO.ite ?_ ?_)
      | (with_reducible refine LeO.bind ?_ (fun _ => ?_))
      | exact impl_AreExts.mono _ _
      | exact impl_AreVersions.mono _ _
      | exact LeO.none _
      | refine LeO.ite ?_ ?_
      | refine LeO.bind ?_ (fun _ => ?_)
set_option maxHeartbeats 8000000 in
set_option maxRecDepth 100000 in
theorem impl_IsHello.calls (k : Nat) (A0_0 : Option Addr) (c0_0 : Nat) (l0_0 : List Int) (A0_1 : Option Addr) (c0_1 : Nat) (l0_1 : List (S69)) (r : Bool) (w : World) (hr0_0 : Kd.C (Kd.int .i64) w A0_0 l0_0.length l0_0) (hc0_0 : l0_0.length ≤ c0_0) (hr0_1 : Kd.C k69 w A0_1 l0_1.length l0_1) (hc0_1 : l0_1.length ≤ c0_1) (h : impl_IsHello.f k l0_0 l0_1 = some r) :
    Calls Try.prog 84 #[.agg #[.slice A0_0 l0_0.length c0_0, .slice A0_1 l0_1.length c0_1]] w fun e w' => e = .returned (.bool r) ∧ Below w.heap.size w w' := by
  have hu63 := Try.underlying63
  have HR0_0 := Aside0.mk hr0_0
  have HC0_0 := Aside0.mk hc0_0
  clear hr0_0 hc0_0
  have HR0_1 := Aside0.mk hr0_1
  have HC0_1 := Aside0.mk hc0_1
  clear hr0_1 hc0_1
  have HB := Aside0.mk (Below.refl w.heap.size w)
  have H : ((impl_AreVersions.f k l0_0).bind fun t345 => (if t345 = true then ((impl_AreExts.f k l0_1).bind fun t346 => (some t346)) else (some false))) = some r := h
  clear h
  have HS_ := Aside0.mk H
  clear H
  go_enter Try.func84, Try.ntmps84
  go_upto_region 1 with (first | ((with_reducible refine gate_dst (N := 1) rfl ?_); refine box_event ?hg (N := 1) ?hd (cs := #[.slice A0_0 l0_0.length c0_0, .slice A0_1 l0_1.length c0_1]) (t := 63) ?hr ?_; (case hd => rfl); (case hg => rfl); (case hr => first | (go_simp; done) | (go_simp; rfl)); intro gb344 hg w2 hbox hb; have n0_ := Aside0.mk (below_step (pb_ HB.out) hb); have n1_ := Aside0.mk (hbox); have n2_ := Aside0.mk ((by rw [hg]; exact (below_size (pb_ HB.out)) : w.heap.size ≤ gb344)); have n3_ := Aside0.mk ((by rw [hg]; exact (below_size (pb_ HB.out)) : w.heap.size ≤ gb344)); clear HB; have HB := n0_; have BK344 := n1_; have GW344 := n2_; have GE344 := n3_; clear n0_ n1_ n2_ n3_; clear hb hbox hg))
  (try simp only [Act.put, List.setIfInBounds_toArray, List.set_cons_zero, List.set_cons_succ])
  have H := HS_.out
  clear HS_
  replace H := Option.bind_eq_some_iff.mp H
  obtain ⟨t345, A30, H⟩ := H
  (try dsimp only at H)
  have A3 := Aside0.mk A30
  clear A30
  by_cases c4 : t345 = true
  rotate_left
  · replace c4 := Bool.eq_false_iff.mpr c4
    subst c4
    rw [if_neg (show ¬ (false = true) by decide)] at H
    obtain rfl := Option.some.inj H
    obtain ⟨hcz5_0, hcz5_1, hfz5_0, hfz5_1⟩ := bc2_ BK344.out
    go_wp2_with (first | ((with_reducible refine gate_callee (f := 55) rfl ?_); refine goesL_ (some 5) rfl rfl Try.func55 (by kernel_rfl) rfl #[.slice A0_0 l0_0.length c0_0] rfl mp_ ?_; (with_reducible refine (impl_AreVersions.calls k _ _ l0_0 false _ ?side1 ?side2 A3.out).mono ?_); (case side1 => exact pc_ (Kd.C_below HR0_0.out HB.out)); (case side2 => exact HC0_0.out); rintro e w' ⟨rfl, ⟨nd, rfl⟩⟩; refine ⟨_, rfl, ?_⟩))
    go_ret
    exact ⟨er_, pb1_ HB.out GE344.out⟩
  subst c4
  rw [if_pos rfl] at H
  replace H := Option.bind_eq_some_iff.mp H
  obtain ⟨t346, A60, H⟩ := H
  replace H : (some t346) = some r := H
  have A6 := Aside0.mk A60
  clear A60
  obtain rfl := Option.some.inj H
  obtain ⟨hcz7_0, hcz7_1, hfz7_0, hfz7_1⟩ := bc2_ BK344.out
  go_wp2_with (first | ((with_reducible refine gate_callee (f := 55) rfl ?_); refine goesL_ (some 5) rfl rfl Try.func55 (by kernel_rfl) rfl #[.slice A0_0 l0_0.length c0_0] rfl mp_ ?_; (with_reducible refine (impl_AreVersions.calls k _ _ l0_0 true _ ?side1 ?side2 A3.out).mono ?_); (case side1 => exact pc_ (Kd.C_below HR0_0.out HB.out)); (case side2 => exact HC0_0.out); rintro e w' ⟨rfl, ⟨nd, rfl⟩⟩; refine ⟨_, rfl, ?_⟩) | (go_at_call 73; (with_reducible refine (impl_AreExts.calls k _ _ l0_1 t346 _ ?side1 ?side2 A6.out).mono ?_); (case side1 => exact pc_ (Kd.C_below HR0_1.out (pb1_ HB.out GE344.out))); (case side2 => exact HC0_1.out); rintro e w8 ⟨rfl, hb⟩; have n0_ := Aside0.mk (bb_ BK344.out hb); have n1_ := Aside0.mk (below_step (pb1_ HB.out GE344.out) hb); clear BK344; clear HB; have BK344 := n0_; have HB := n1_; clear n0_ n1_; (try clear hb); (try clear hb2); (try clear hk); (try clear hi)))
  go_ret
  exact ⟨er_, pb1_ HB.out GE344.out⟩

/-! ### impl_copyExts_1: function 103 -/
def impl_copyExts_1.f (a0 : Int) : Option (Bool) := some true
set_option maxHeartbeats 8000000 in
set_option maxRecDepth 100000 in
theorem impl_copyExts_1.calls (a0 : Int) (r : Bool) (w : World) (h : impl_copyExts_1.f a0 = some r) :
    Calls Try.prog 103 #[.int .i64 a0] w fun e w' => e = .returned (.bool r) ∧ Drawn0 w w' := by
  have H : (some true) = some r := h
  clear h
  obtain rfl := Option.some.inj H
  go_enter Try.func103, Try.ntmps103
  go_wp2
  go_ret
  exact ⟨by first | rfl | (simp; done) | (simp [*]; done), by repeat (first | exact Drawn0.refl _ | apply Drawn0.step)⟩

end Go.Proofs.Ytpoandlbmaljhaa.Print
