-- Written by a program of this session (printx.py) out of the translation; Lean checks it.
import Derived.Test.YtldcchjbaglppaaPrint0
import Derived.Test.YtldcchjbaglppaaPrint3
namespace Go.Proofs.Ytldcchjbaglppaa.Print
open Go.RowKit Go.Proofs.YtldcchjbaglppaaW.PrintWords Go.Proofs.YtldcchjbaglppaaW.PrintLast Go.Proofs.YtldcchjbaglppaaW.PrintMore Go.Proofs.Ytldcchjbaglppaa.Short
attribute [local go_sem] max2_int min2_int max_two min_two max_three min_three max_four min_four   -- for this text's walks alone
set_option linter.unusedVariables false
set_option linter.unusedSimpArgs false

/-! ### impl_IsMachine: function 55 -/
mutual
def impl_IsMachine.j0 : Nat → Bool → Int → List Bool → List (S78) → Option (Bool)
  | 0, _, _, _, _ => none
  | k + 1, x24, x159000, x159001, x159002 => if x24 = true then (some false) else (impl_IsMachine.l0 k x159002 (x159002.length : Int) 0 x159000 x159001 x159002)
def impl_IsMachine.l0 : Nat → List (S78) → Int → Int → Int → List Bool → List (S78) → Option (Bool)
  | 0, _, _, _, _, _, _ => none
  | k + 1, x26, x27, x28, x159000, x159001, x159002 => if x28 < x27 then (if 0 ≤ x28 then (if x28 < (x26.length : Int) then ((impl_InRange.f ((rd_T78 x26 x28).f0) 0 (wrap64 (x159000 - 1))).bind fun t162 => (if t162 = true then ((impl_InRange.f ((rd_T78 x26 x28).f3) 0 (wrap64 (x159000 - 1))).bind fun t163 => (if t163 = true then ((impl_InRange.f ((rd_T78 x26 x28).f2) 0 5).bind fun t164 => (impl_IsMachine.j2 k x28 x26 x27 x28 (!t164) x159000 x159001 x159002 ((rd_T78 x26 x28).f0) ((rd_T78 x26 x28).f1) ((rd_T78 x26 x28).f2) ((rd_T78 x26 x28).f3))) else (impl_IsMachine.j2 k x28 x26 x27 x28 true x159000 x159001 x159002 ((rd_T78 x26 x28).f0) ((rd_T78 x26 x28).f1) ((rd_T78 x26 x28).f2) ((rd_T78 x26 x28).f3)))) else (impl_IsMachine.j2 k x28 x26 x27 x28 true x159000 x159001 x159002 ((rd_T78 x26 x28).f0) ((rd_T78 x26 x28).f1) ((rd_T78 x26 x28).f2) ((rd_T78 x26 x28).f3)))) else (none)) else (none)) else (some true)
def impl_IsMachine.j2 : Nat → Int → List (S78) → Int → Int → Bool → Int → List Bool → List (S78) → Int → Bool → Int → Int → Option (Bool)
  | 0, _, _, _, _, _, _, _, _, _, _, _, _ => none
  | k + 1, x3, x26, x27, x28, x54, x159000, x159001, x159002, x162000, x162001, x162002, x162003 => if x54 = true then (some false) else (if 0 ≤ x3 then (if x3 ≤ (x159002.length : Int) then ((some (x159002.take (x3 : Int).toNat : List (S78))).bind fun y165 => (impl_IsMachine.l1 k x26 x27 x28 y165 (y165.length : Int) 0 x159000 x159001 x159002 x162000 x162001 x162002 x162003)) else (none)) else (none))
def impl_IsMachine.l1 : Nat → List (S78) → Int → Int → List (S78) → Int → Int → Int → List Bool → List (S78) → Int → Bool → Int → Int → Option (Bool)
  | 0, _, _, _, _, _, _, _, _, _, _, _, _, _ => none
  | k + 1, x26, x27, x28, x58, x59, x60, x159000, x159001, x159002, x162000, x162001, x162002, x162003 => if x60 < x59 then (if 0 ≤ x60 then (if x60 < (x58.length : Int) then (if ((rd_T78 x58 x60).f0) = x162000 then (if (((rd_T78 x58 x60).f1) != x162001) = true then (some false) else (if ((rd_T78 x58 x60).f2) = x162002 then (some false) else (impl_IsMachine.l1 k x26 x27 x28 x58 x59 (wrap64 (x60 + 1)) x159000 x159001 x159002 x162000 x162001 x162002 x162003))) else (impl_IsMachine.l1 k x26 x27 x28 x58 x59 (wrap64 (x60 + 1)) x159000 x159001 x159002 x162000 x162001 x162002 x162003)) else (none)) else (none)) else (impl_IsMachine.l0 k x26 x27 (wrap64 (x28 + 1)) x159000 x159001 x159002)
end
def impl_IsMachine.f (k : Nat) (a0_0 : Int) (l0_1 : List Bool) (l0_2 : List (S78)) : Option (Bool) := (impl_InRange.f a0_0 1 6).bind fun t159 => (if t159 = true then (if (l0_1.length : Int) = a0_0 then (impl_IsMachine.j0 k (decide ((l0_2.length : Int) > 12)) a0_0 l0_1 l0_2) else (impl_IsMachine.j0 k true a0_0 l0_1 l0_2)) else (impl_IsMachine.j0 k true a0_0 l0_1 l0_2))
theorem impl_IsMachine.mono_l : ∀ k, (∀ y0 y1 y2 y3, LeO (impl_IsMachine.j0 k y0 y1 y2 y3) (impl_IsMachine.j0 (k + 1) y0 y1 y2 y3)) ∧ (∀ y0 y1 y2 y3 y4 y5, LeO (impl_IsMachine.l0 k y0 y1 y2 y3 y4 y5) (impl_IsMachine.l0 (k + 1) y0 y1 y2 y3 y4 y5)) ∧ (∀ y0 y1 y2 y3 y4 y5 y6 y7 y8 y9 y10 y11, LeO (impl_IsMachine.j2 k y0 y1 y2 y3 y4 y5 y6 y7 y8 y9 y10 y11) (impl_IsMachine.j2 (k + 1) y0 y1 y2 y3 y4 y5 y6 y7 y8 y9 y10 y11)) ∧ (∀ y0 y1 y2 y3 y4 y5 y6 y7 y8 y9 y10 y11 y12, LeO (impl_IsMachine.l1 k y0 y1 y2 y3 y4 y5 y6 y7 y8 y9 y10 y11 y12) (impl_IsMachine.l1 (k + 1) y0 y1 y2 y3 y4 y5 y6 y7 y8 y9 y10 y11 y12))
  | 0 => ⟨fun _ _ _ _ r h => by simp [impl_IsMachine.j0] at h, fun _ _ _ _ _ _ r h => by simp [impl_IsMachine.l0] at h, fun _ _ _ _ _ _ _ _ _ _ _ _ r h => by simp [impl_IsMachine.j2] at h, fun _ _ _ _ _ _ _ _ _ _ _ _ _ r h => by simp [impl_IsMachine.l1] at h⟩
  | k + 1 => by
    obtain ⟨ih0, ih1, ih2, ih3⟩ := impl_IsMachine.mono_l k
    refine ⟨?_, ?_, ?_, ?_⟩
    · intro y0 y1 y2 y3
      unfold impl_IsMachine.j0
      repeat' first
      | (with_reducible exact ih0 _ _ _ _)
      | (with_reducible exact ih1 _ _ _ _ _ _)
      | (with_reducible exact ih2 _ _ _ _ _ _ _ _ _ _ _ _)
      | (with_reducible exact ih3 _ _ _ _ _ _ _ _ _ _ _ _ _)
      | (with_reducible exact LeO.refl _)
      | (with_reducible exact LeO.none _)
      | (with_reducible refine LeO.ite ?_ ?_)
      | (with_reducible refine LeO.bind ?_ (fun _ => ?_))
      | exact ih0 _ _ _ _
      | exact ih1 _ _ _ _ _ _
      | exact ih2 _ _ _ _ _ _ _ _ _ _ _ _
      | exact ih3 _ _ _ _ _ _ _ _ _ _ _ _ _
      | exact LeO.none _
      | refine LeO.ite ?_ ?_
      | refine LeO.bind ?_ (fun _ => ?_)
    · intro y0 y1 y2 y3 y4 y5
      unfold impl_IsMachine.l0
      repeat' first
      | (with_reducible exact ih0 _ _ _ _)
      | (with_reducible exact ih1 _ _ _ _ _ _)
      | (with_reducible exact ih2 _ _ _ _ _ _ _ _ _ _ _ _)
      | (with_reducible exact ih3 _ _ _ _ _ _ _ _ _ _ _ _ _)
      | (with_reducible exact LeO.refl _)
      | (with_reducible exact LeO.none _)
      | (with_reducible refine LeO.ite ?_ ?_)
      | (with_reducible refine LeO.bind ?_ (fun _ => ?_))
      | exact ih0 _ _ _ _
      | exact ih1 _ _ _ _ _ _
      | exact ih2 _ _ _ _ _ _ _ _ _ _ _ _
      | exact ih3 _ _ _ _ _ _ _ _ _ _ _ _ _
      | exact LeO.none _
      | refine LeO.ite ?_ ?_
      | refine LeO.bind ?_ (fun _ => ?_)
    · intro y0 y1 y2 y3 y4 y5 y6 y7 y8 y9 y10 y11
      unfold impl_IsMachine.j2
      repeat' first
      | (with_reducible exact ih0 _ _ _ _)
      | (with_reducible exact ih1 _ _ _ _ _ _)
      | (with_reducible exact ih2 _ _ _ _ _ _ _ _ _ _ _ _)
      | (with_reducible exact ih3 _ _ _ _ _ _ _ _ _ _ _ _ _)
      | (with_reducible exact LeO.refl _)
      | (with_reducible exact LeO.none _)
      | (with_reducible refine LeO.ite ?_ ?_)
      | (with_reducible refine LeO.bind ?_ (fun _ => ?_))
      | exact ih0 _ _ _ _
      | exact ih1 _ _ _ _ _ _
      | exact ih2 _ _ _ _ _ _ _ _ _ _ _ _
      | exact ih3 _ _ _ _ _ _ _ _ _ _ _ _ _
      | exact LeO.none _
      | refine LeO.ite ?_ ?_
      | refine LeO.bind ?_ (fun _ => ?_)
    · intro y0 y1 y2 y3 y4 y5 y6 y7 y8 y9 y10 y11 y12
      unfold impl_IsMachine.l1
      repeat' first
      | (with_reducible exact ih0 _ _ _ _)
      | (with_reducible exact ih1 _ _ _ _ _ _)
      | (with_reducible exact ih2 _ _ _ _ _ _ _ _ _ _ _ _)
      | (with_reducible exact ih3 _ _ _ _ _ _ _ _ _ _ _ _ _)
      | (with_reducible exact LeO.refl _)
      | (with_reducible exact LeO.none _)
      | (with_reducible refine LeO.ite ?_ ?_)
      | (with_reducible refine LeO.bind ?_ (fun _ => ?_))
      | exact ih0 _ _ _ _
      | exact ih1 _ _ _ _ _ _
      | exact ih2 _ _ _ _ _ _ _ _ _ _ _ _
      | exact ih3 _ _ _ _ _ _ _ _ _ _ _ _ _
      | exact LeO.none _
      | refine LeO.ite ?_ ?_
      | refine LeO.bind ?_ (fun _ => ?_)
theorem impl_IsMachine.mono : ∀ a0 a1 a2 k, LeO (impl_IsMachine.f k a0 a1 a2) (impl_IsMachine.f (k + 1) a0 a1 a2) := by
  intro a0 a1 a2 k
  obtain ⟨ih0, ih1, ih2, ih3⟩ := impl_IsMachine.mono_l k
  unfold impl_IsMachine.f
  repeat' first
      | (with_reducible exact ih0 _ _ _ _)
      | (with_reducible exact ih1 _ _ _ _ _ _)
      | (with_reducible exact ih2 _ _ _ _ _ _ _ _ _ _ _ _)
      | (with_reducible exact ih3 _ _ _ _ _ _ _ _ _ _ _ _ _)
      | (with_reducible exact LeO.refl _)
      | (with_reducible exact LeO.none _)
      | (with_reducible refine LeO.ite ?_ ?_)
      | (with_reducible refine LeO.bind ?_ (fun _ => ?_))
      | exact ih0 _ _ _ _
      | exact ih1 _ _ _ _ _ _
      | exact ih2 _ _ _ _ _ _ _ _ _ _ _ _
      | exact ih3 _ _ _ _ _ _ _ _ _ _ _ _ _
      | exact LeO.none _
      | refine LeO.ite ?_ ?_
      | refine LeO.bind ?_ (fun _ => ?_)
set_option maxHeartbeats 8000000 in
set_option maxRecDepth 100000 in
theorem impl_IsMachine.calls (k : Nat) (a0_0 : Int) (A0_1 : Option Addr) (c0_1 : Nat) (l0_1 : List Bool) (A0_2 : Option Addr) (c0_2 : Nat) (l0_2 : List (S78)) (r : Bool) (w : World) (hr0_1 : Kd.C Kd.bool w A0_1 l0_1.length l0_1) (hc0_1 : l0_1.length ≤ c0_1) (hr0_2 : Kd.C k78 w A0_2 l0_2.length l0_2) (hc0_2 : l0_2.length ≤ c0_2) (h : impl_IsMachine.f k a0_0 l0_1 l0_2 = some r) :
    Calls Try.prog 55 #[.agg #[.int .i64 a0_0, .slice A0_1 l0_1.length c0_1, .slice A0_2 l0_2.length c0_2]] w fun e w' => e = .returned (.bool r) ∧ Below w.heap.size w w' := by
  have hu34 := Try.underlying34
  have hu78 := Try.underlying78
  have HR0_1 := Aside0.mk hr0_1
  have HC0_1 := Aside0.mk hc0_1
  clear hr0_1 hc0_1
  have HR0_2 := Aside0.mk hr0_2
  have HC0_2 := Aside0.mk hc0_2
  clear hr0_2 hc0_2
  have HB := Aside0.mk (Below.refl w.heap.size w)
  have H : ((impl_InRange.f a0_0 1 6).bind fun t159 => (if t159 = true then (if (l0_1.length : Int) = a0_0 then (impl_IsMachine.j0 k (decide ((l0_2.length : Int) > 12)) a0_0 l0_1 l0_2) else (impl_IsMachine.j0 k true a0_0 l0_1 l0_2)) else (impl_IsMachine.j0 k true a0_0 l0_1 l0_2))) = some r := h
  clear h
  have HC2 := Aside0.mk H
  clear H
  go_enter Try.func55, Try.ntmps55
  go_upto_region 1 with (first | ((with_reducible refine gate_dst (N := 1) rfl ?_); (try (refine gate_guard (by rfl) ?_; dsimp only)); refine box_event ?hg (N := 1) ?hd (cs := #[.int .i64 a0_0, .slice A0_1 l0_1.length c0_1, .slice A0_2 l0_2.length c0_2]) (t := 34) ?hr ?_; (case hd => rfl); (case hg => rfl); (case hr => first | (go_simp; done) | (go_simp; rfl)); intro gb158 hg w3 hbox hb; have n0_ := Aside0.mk (below_step (pb_ HB.out) hb); have n1_ := Aside0.mk (hbox); have n2_ := Aside0.mk ((by rw [hg]; exact (below_size (pb_ HB.out)) : w.heap.size ≤ gb158)); have n3_ := Aside0.mk ((by rw [hg]; exact (below_size (pb_ HB.out)) : w.heap.size ≤ gb158)); clear HB; have HB := n0_; have BK158 := n1_; have GW158 := n2_; have GE158 := n3_; clear n0_ n1_ n2_ n3_; clear hb hbox hg))
  (try simp only [Act.put, List.setIfInBounds_toArray, List.set_cons_zero, List.set_cons_succ])
  go_cut [24] (fun v24 wc => ∃ (kq : Nat) (x24_1 : Bool), v24 = .bool x24_1 ∧ Aside0 (impl_IsMachine.j0 kq x24_1 a0_0 l0_1 l0_2 = some r) ∧ Aside0 (kq ≤ k) ∧ Aside0 (wc.heap[gb158]? = some (.cells #[.int .i64 a0_0, (.slice A0_1 l0_1.length c0_1), (.slice A0_2 l0_2.length c0_2)] 34 (0, 0))) ∧ Aside0 (Below w.heap.size w wc))
  case first =>
    have H := HC2.out
    clear HC2
    replace H := Option.bind_eq_some_iff.mp H
    obtain ⟨t159, A40, H⟩ := H
    (try dsimp only at H)
    have A4 := Aside0.mk A40
    clear A40
    by_cases c5 : t159 = true
    rotate_left
    · replace c5 := Bool.eq_false_iff.mpr c5
      subst c5
      rw [if_neg (show ¬ (false = true) by decide)] at H
      have H' := Aside0.mk H
      clear H
      obtain ⟨hcz6_0, hcz6_1, hcz6_2, hfz6_0, hfz6_1, hfz6_2⟩ := bc3_ BK158.out
      go_wp2_with (first | ((with_reducible refine gate_callee (f := 47) rfl ?_); refine gl_ (some 9) Try.func47 #[.int .i64 a0_0, .int .i64 1, .int .i64 6] ?_; (with_reducible refine (impl_InRange.calls a0_0 1 6 false _ A4.out).mono ?_); rintro e w' ⟨rfl, ⟨nd, rfl⟩⟩; refine ⟨_, rfl, ?_⟩))
      go_meet
      case rel => exact ⟨_, (true), el_, H', ⟨by first | omega | exact Nat.le_refl _⟩, ⟨pk_ BK158.out⟩, ⟨pb1_ HB.out GE158.out⟩⟩
    subst c5
    rw [if_pos rfl] at H
    by_cases c7 : (l0_1.length : Int) = a0_0
    rotate_left
    · rw [if_neg c7] at H
      have c7b0 : ((l0_1.length : Int) == a0_0) = false := beq_eq_false_iff_ne.mpr c7
      have c7b1 : ((l0_1.length : Int) != a0_0) = true := bne_iff_ne.mpr c7
      (first | rw [c7b0] | (simp only [i64_w, i32_w]; rw [c7b0]) | rw [c7b1] | (have c_ := c7b1; rw [bne] at c_; rw [c_]; clear c_) | skip)
      have H' := Aside0.mk H
      clear H
      obtain ⟨hcz8_0, hcz8_1, hcz8_2, hfz8_0, hfz8_1, hfz8_2⟩ := bc3_ BK158.out
      go_wp2_with (first | ((with_reducible refine gate_callee (f := 47) rfl ?_); refine gl_ (some 9) Try.func47 #[.int .i64 a0_0, .int .i64 1, .int .i64 6] ?_; (with_reducible refine (impl_InRange.calls a0_0 1 6 true _ A4.out).mono ?_); rintro e w' ⟨rfl, ⟨nd, rfl⟩⟩; refine ⟨_, rfl, ?_⟩))
      go_meet
      case rel => exact ⟨_, (true), el_, H', ⟨by first | omega | exact Nat.le_refl _⟩, ⟨pk_ BK158.out⟩, ⟨pb1_ HB.out GE158.out⟩⟩
    rw [if_pos c7] at H
    have c7b0 : ((l0_1.length : Int) == a0_0) = true := beq_iff_eq.mpr c7
    have c7b1 : ((l0_1.length : Int) != a0_0) = false := bne_eq_false_iff_eq.mpr c7
    clear c7
    (first | rw [c7b0] | (simp only [i64_w, i32_w]; rw [c7b0]) | rw [c7b1] | (have c_ := c7b1; rw [bne] at c_; rw [c_]; clear c_) | skip)
    have H' := Aside0.mk H
    clear H
    obtain ⟨hcz9_0, hcz9_1, hcz9_2, hfz9_0, hfz9_1, hfz9_2⟩ := bc3_ BK158.out
    go_wp2_with (first | ((with_reducible refine gate_callee (f := 47) rfl ?_); refine gl_ (some 9) Try.func47 #[.int .i64 a0_0, .int .i64 1, .int .i64 6] ?_; (with_reducible refine (impl_InRange.calls a0_0 1 6 true _ A4.out).mono ?_); rintro e w' ⟨rfl, ⟨nd, rfl⟩⟩; refine ⟨_, rfl, ?_⟩))
    go_meet
    case rel => exact ⟨_, (decide ((l0_2.length : Int) > 12)), el_, H', ⟨by first | omega | exact Nat.le_refl _⟩, ⟨pk_ BK158.out⟩, ⟨pb1_ HB.out GE158.out⟩⟩
  clear HC2
  try clear p2
  try clear c4
  try clear c5
  try clear c7
  try clear c7b0
  try clear c7b1
  try clear hcz6_0
  try clear hcz6_1
  try clear hcz6_2
  try clear hcz8_0
  try clear hcz8_1
  try clear hcz8_2
  try clear hcz9_0
  try clear hcz9_1
  try clear hcz9_2
  try clear hfz6_0
  try clear hfz6_1
  try clear hfz6_2
  try clear hfz8_0
  try clear hfz8_1
  try clear hfz8_2
  try clear hfz9_0
  try clear hfz9_1
  try clear hfz9_2
  obtain ⟨kq, x24_1, rfl, HA, HJ1, BK158, HB⟩ := hcut
  rcases kq with _ | kj1
  · exact absurd HA.out (by simp [impl_IsMachine.j0])
  have H := HA.out
  clear HA
  simp only [impl_IsMachine.j0] at H
  by_cases c10 : x24_1 = true
  · subst c10
    rw [if_pos rfl] at H
    obtain rfl := Option.some.inj H
    go_wp2
    go_ret
    exact ⟨er_, pb1_ HB.out GE158.out⟩
  replace c10 := Bool.eq_false_iff.mpr c10
  subst c10
  rw [if_neg (show ¬ (false = true) by decide)] at H
  have H' := Aside0.mk H
  clear H
  obtain ⟨hcz11_0, hcz11_1, hcz11_2, hfz11_0, hfz11_1, hfz11_2⟩ := bc3_ BK158.out
  go_wp2
  go_loopg [28] kj1 (fun kq v28 w' => ∃ (x28_2 : Int), v28 = .int .i64 x28_2 ∧ Aside0 (impl_IsMachine.l0 kq l0_2 (l0_2.length : Int) x28_2 a0_0 l0_1 l0_2 = some r) ∧ Aside0 (kq ≤ kj1) ∧ Aside0 (w'.heap[gb158]? = some (.cells #[.int .i64 a0_0, (.slice A0_1 l0_1.length c0_1), (.slice A0_2 l0_2.length c0_2)] 34 (0, 0))) ∧ Aside0 (Below w.heap.size w w'))
  case atStart => exact ⟨(0), el_, H', ⟨Nat.le_refl _⟩, ⟨pk_ BK158.out⟩, ⟨pb1_ HB.out GE158.out⟩⟩
  clear H'
  try clear c1
  try clear p2
  try clear c4
  try clear c5
  try clear c7
  try clear c7b0
  try clear c7b1
  try clear c10
  try clear hcz11_0
  try clear hcz11_1
  try clear hcz11_2
  try clear hcz6_0
  try clear hcz6_1
  try clear hcz6_2
  try clear hcz8_0
  try clear hcz8_1
  try clear hcz8_2
  try clear hcz9_0
  try clear hcz9_1
  try clear hcz9_2
  try clear hfz11_0
  try clear hfz11_1
  try clear hfz11_2
  try clear hfz6_0
  try clear hfz6_1
  try clear hfz6_2
  try clear hfz8_0
  try clear hfz8_1
  try clear hfz8_2
  try clear hfz9_0
  try clear hfz9_1
  try clear hfz9_2
  try clear p2
  obtain ⟨x28_2, rfl, HA, HK2, BK158, HB⟩ := hrel
  rcases gk with _ | k2
  · exact absurd HA.out (by simp [impl_IsMachine.l0])
  have H := HA.out
  clear HA
  simp only [impl_IsMachine.l0] at H
  by_cases c12 : x28_2 < (l0_2.length : Int)
  rotate_left
  · rw [if_neg c12] at H
    have c12b0 : decide (x28_2 < (l0_2.length : Int)) = false := decide_eq_false c12
    clear c12
    obtain rfl := Option.some.inj H
    go_wp2
    go_ret
    exact ⟨er_, pb1_ HB.out GE158.out⟩
  rw [if_pos c12] at H
  have c12b0 : decide (x28_2 < (l0_2.length : Int)) = true := decide_eq_true c12
  clear c12
  by_cases c13 : 0 ≤ x28_2
  rotate_left
  · rw [if_neg c13] at H
    exact absurd H (by simp)
  rw [if_pos c13] at H
  have c13b0 : decide (0 ≤ x28_2) = true := decide_eq_true c13
  clear c13
  by_cases c14 : x28_2 < (l0_2.length : Int)
  rotate_left
  · rw [if_neg c14] at H
    exact absurd H (by simp)
  rw [if_pos c14] at H
  have c14b0 : decide (x28_2 < (l0_2.length : Int)) = true := decide_eq_true c14
  clear c14
  have HC15 := Aside0.mk H
  clear H
  have p160 : 0 ≤ (x28_2 : Int) := dt_
  have q160 : x28_2 < (l0_2.length : Int) := dt_
  obtain ⟨ad160, e160, hx160_0, hx160_1, hx160_2, hx160_3⟩ := at_T78 HR0_2.out x28_2 p160 q160
  cases e160
  replace hx160_0 := bt_ HB hx160_0
  replace hx160_1 := bt_ HB hx160_1
  replace hx160_2 := bt_ HB hx160_2
  replace hx160_3 := bt_ HB hx160_3
  replace p160 := eq_true p160
  replace q160 := eq_true q160
  go_upto_region 6 with (first | ((with_reducible refine gate_dst (N := 4) rfl ?_); (try (refine gate_guard (by rfl) ?_; dsimp only)); refine box_event ?hg (N := 4) ?hd (cs := #[.int .i64 0, .bool false, .int .i64 0, .int .i64 0]) (t := 78) ?hr ?_; (case hd => rfl); (case hg => rfl); (case hr => first | (go_simp; done) | (go_simp; rfl)); intro gb161 hg w16 hbox hb; have n0_ := Aside0.mk (bb_ BK158.out hb); have n1_ := Aside0.mk (below_step (pb1_ HB.out GE158.out) hb); have n2_ := Aside0.mk (hbox); have n3_ := Aside0.mk ((by rw [hg]; exact (below_size (pb1_ HB.out GE158.out)) : w.heap.size ≤ gb161)); have n4_ := Aside0.mk ((by rw [hg]; exact (below_size (pb1_ HB.out GE158.out)) : w.heap.size ≤ gb161)); have n5_ := Aside0.mk ((by rw [hg]; exact Nat.ne_of_lt (blk_lt (pk_ BK158.out)) : gb158 ≠ gb161)); have n6_ := Aside0.mk ((by rw [hg]; exact Nat.ne_of_gt (blk_lt (pk_ BK158.out)) : gb161 ≠ gb158)); clear BK158; clear HB; have BK158 := n0_; have HB := n1_; have BK161 := n2_; have GW161 := n3_; have GE161 := n4_; have NB158_161 := n5_; have NB161_158 := n6_; clear n0_ n1_ n2_ n3_ n4_ n5_ n6_; clear hb hbox hg; have hnb17 := NB161_158.out; have hnc17 := NB158_161.out; obtain ⟨hcz18_0, hcz18_1, hcz18_2, hcz18_3, hfz18_0, hfz18_1, hfz18_2, hfz18_3⟩ := bc4_ BK161.out))
  (try simp only [Act.put, List.setIfInBounds_toArray, List.set_cons_zero, List.set_cons_succ])
  go_cut [54] (fun v54 wc => ∃ (kq : Nat) (x54_14 : Bool), v54 = .bool x54_14 ∧ Aside0 (impl_IsMachine.j2 kq x28_2 l0_2 (l0_2.length : Int) x28_2 x54_14 a0_0 l0_1 l0_2 ((rd_T78 l0_2 x28_2).f0) ((rd_T78 l0_2 x28_2).f1) ((rd_T78 l0_2 x28_2).f2) ((rd_T78 l0_2 x28_2).f3) = some r) ∧ Aside0 (kq ≤ k2) ∧ Aside0 (wc.heap[gb158]? = some (.cells #[.int .i64 a0_0, (.slice A0_1 l0_1.length c0_1), (.slice (some ad160) l0_2.length c0_2)] 34 (0, 0))) ∧ Aside0 (wc.heap[gb161]? = some (.cells #[.int .i64 ((rd_T78 l0_2 x28_2).f0), .bool ((rd_T78 l0_2 x28_2).f1), .int .i64 ((rd_T78 l0_2 x28_2).f2), .int .i64 ((rd_T78 l0_2 x28_2).f3)] 78 (0, 0))) ∧ Aside0 (Below w.heap.size w wc))
  case first =>
    have H := HC15.out
    clear HC15
    replace H := Option.bind_eq_some_iff.mp H
    obtain ⟨t162, A190, H⟩ := H
    (try dsimp only at H)
    have A19 := Aside0.mk A190
    clear A190
    by_cases c20 : t162 = true
    rotate_left
    · replace c20 := Bool.eq_false_iff.mpr c20
      subst c20
      rw [if_neg (show ¬ (false = true) by decide)] at H
      have H' := Aside0.mk H
      clear H
      have hnb21 := NB161_158.out
      have hnc21 := NB158_161.out
      obtain ⟨hcz22_0, hcz22_1, hcz22_2, hcz22_3, hfz22_0, hfz22_1, hfz22_2, hfz22_3⟩ := bc4_ BK161.out
      obtain ⟨hcz23_0, hcz23_1, hcz23_2, hfz23_0, hfz23_1, hfz23_2⟩ := bc3_ BK158.out
      go_wp2_with (first | ((with_reducible refine gate_callee (f := 47) rfl ?_); refine gl_ (some 38) Try.func47 #[.int .i64 ((rd_T78 l0_2 x28_2).f0), .int .i64 0, .int .i64 (wrap64 (a0_0 - 1))] ?_; (with_reducible refine (impl_InRange.calls ((rd_T78 l0_2 x28_2).f0) 0 (wrap64 (a0_0 - 1)) false _ A19.out).mono ?_); rintro e w' ⟨rfl, ⟨nd, rfl⟩⟩; refine ⟨_, rfl, ?_⟩))
      go_meet
      case rel => exact ⟨_, (true), el_, H', ⟨by have := HJ1.out; have := HK2.out; first | omega | exact Nat.le_refl _⟩, ⟨pp_ BK158.out⟩, ⟨pp_ BK161.out⟩, ⟨pb2_ HB.out GE158.out GE161.out⟩⟩
    subst c20
    rw [if_pos rfl] at H
    replace H := Option.bind_eq_some_iff.mp H
    obtain ⟨t163, A240, H⟩ := H
    (try dsimp only at H)
    have A24 := Aside0.mk A240
    clear A240
    by_cases c25 : t163 = true
    rotate_left
    · replace c25 := Bool.eq_false_iff.mpr c25
      subst c25
      rw [if_neg (show ¬ (false = true) by decide)] at H
      have H' := Aside0.mk H
      clear H
      have hnb26 := NB161_158.out
      have hnc26 := NB158_161.out
      obtain ⟨hcz27_0, hcz27_1, hcz27_2, hcz27_3, hfz27_0, hfz27_1, hfz27_2, hfz27_3⟩ := bc4_ BK161.out
      obtain ⟨hcz28_0, hcz28_1, hcz28_2, hfz28_0, hfz28_1, hfz28_2⟩ := bc3_ BK158.out
      go_wp2_with (first | ((with_reducible refine gate_callee (f := 47) rfl ?_); refine gl_ (some 38) Try.func47 #[.int .i64 ((rd_T78 l0_2 x28_2).f0), .int .i64 0, .int .i64 (wrap64 (a0_0 - 1))] ?_; (with_reducible refine (impl_InRange.calls ((rd_T78 l0_2 x28_2).f0) 0 (wrap64 (a0_0 - 1)) true _ A19.out).mono ?_); rintro e w' ⟨rfl, ⟨nd, rfl⟩⟩; refine ⟨_, rfl, ?_⟩) | (go_at_call 47; (with_reducible refine (impl_InRange.calls ((rd_T78 l0_2 x28_2).f3) 0 (wrap64 (a0_0 - 1)) false _ A24.out).mono ?_); rintro e w' ⟨rfl, ⟨nd, rfl⟩⟩))
      go_meet
      case rel => exact ⟨_, (true), el_, H', ⟨by have := HJ1.out; have := HK2.out; first | omega | exact Nat.le_refl _⟩, ⟨pp_ BK158.out⟩, ⟨pp_ BK161.out⟩, ⟨pb2_ HB.out GE158.out GE161.out⟩⟩
    subst c25
    rw [if_pos rfl] at H
    replace H := Option.bind_eq_some_iff.mp H
    obtain ⟨t164, A290, H⟩ := H
    (try dsimp only at H)
    have A29 := Aside0.mk A290
    clear A290
    have H' := Aside0.mk H
    clear H
    have hnb30 := NB161_158.out
    have hnc30 := NB158_161.out
    obtain ⟨hcz31_0, hcz31_1, hcz31_2, hcz31_3, hfz31_0, hfz31_1, hfz31_2, hfz31_3⟩ := bc4_ BK161.out
    obtain ⟨hcz32_0, hcz32_1, hcz32_2, hfz32_0, hfz32_1, hfz32_2⟩ := bc3_ BK158.out
    go_wp2_with (first | ((with_reducible refine gate_callee (f := 47) rfl ?_); refine gl_ (some 38) Try.func47 #[.int .i64 ((rd_T78 l0_2 x28_2).f0), .int .i64 0, .int .i64 (wrap64 (a0_0 - 1))] ?_; (with_reducible refine (impl_InRange.calls ((rd_T78 l0_2 x28_2).f0) 0 (wrap64 (a0_0 - 1)) true _ A19.out).mono ?_); rintro e w' ⟨rfl, ⟨nd, rfl⟩⟩; refine ⟨_, rfl, ?_⟩) | (go_at_call 47; (with_reducible refine (impl_InRange.calls ((rd_T78 l0_2 x28_2).f3) 0 (wrap64 (a0_0 - 1)) true _ A24.out).mono ?_); rintro e w' ⟨rfl, ⟨nd, rfl⟩⟩) | (go_at_call 47; (with_reducible refine (impl_InRange.calls ((rd_T78 l0_2 x28_2).f2) 0 5 t164 _ A29.out).mono ?_); rintro e w' ⟨rfl, ⟨nd, rfl⟩⟩))
    go_meet
    case rel => exact ⟨_, (!t164), el_, H', ⟨by have := HJ1.out; have := HK2.out; first | omega | exact Nat.le_refl _⟩, ⟨pp_ BK158.out⟩, ⟨pp_ BK161.out⟩, ⟨pb2_ HB.out GE158.out GE161.out⟩⟩
  clear HC15
  try clear c1
  try clear p1
  try clear q1
  try clear hx1
  try clear c2
  try clear p2
  try clear c3
  try clear c4
  try clear c5
  try clear p6
  try clear c7
  try clear c7b0
  try clear c7b1
  try clear c10
  try clear c12
  try clear c12b0
  try clear c13
  try clear c13b0
  try clear c14
  try clear c14b0
  try clear p16
  try clear q16
  try clear hx16
  try clear c17
  try clear c20
  try clear c21
  try clear c25
  try clear c26
  try clear c30
  try clear hcz11_0
  try clear hcz11_1
  try clear hcz11_2
  try clear hcz18_0
  try clear hcz18_1
  try clear hcz18_2
  try clear hcz18_3
  try clear hcz22_0
  try clear hcz22_1
  try clear hcz22_2
  try clear hcz22_3
  try clear hcz23_0
  try clear hcz23_1
  try clear hcz23_2
  try clear hcz27_0
  try clear hcz27_1
  try clear hcz27_2
  try clear hcz27_3
  try clear hcz28_0
  try clear hcz28_1
  try clear hcz28_2
  try clear hcz31_0
  try clear hcz31_1
  try clear hcz31_2
  try clear hcz31_3
  try clear hcz32_0
  try clear hcz32_1
  try clear hcz32_2
  try clear hcz6_0
  try clear hcz6_1
  try clear hcz6_2
  try clear hcz8_0
  try clear hcz8_1
  try clear hcz8_2
  try clear hcz9_0
  try clear hcz9_1
  try clear hcz9_2
  try clear hfz11_0
  try clear hfz11_1
  try clear hfz11_2
  try clear hfz18_0
  try clear hfz18_1
  try clear hfz18_2
  try clear hfz18_3
  try clear hfz22_0
  try clear hfz22_1
  try clear hfz22_2
  try clear hfz22_3
  try clear hfz23_0
  try clear hfz23_1
  try clear hfz23_2
  try clear hfz27_0
  try clear hfz27_1
  try clear hfz27_2
  try clear hfz27_3
  try clear hfz28_0
  try clear hfz28_1
  try clear hfz28_2
  try clear hfz31_0
  try clear hfz31_1
  try clear hfz31_2
  try clear hfz31_3
  try clear hfz32_0
  try clear hfz32_1
  try clear hfz32_2
  try clear hfz6_0
  try clear hfz6_1
  try clear hfz6_2
  try clear hfz8_0
  try clear hfz8_1
  try clear hfz8_2
  try clear hfz9_0
  try clear hfz9_1
  try clear hfz9_2
  try clear hx160_0
  try clear hx160_1
  try clear hx160_2
  try clear hx160_3
  try clear p160
  try clear p2
  try clear q160
  obtain ⟨kq, x54_14, rfl, HA, HJ14, BK158, BK161, HB⟩ := hcut
  rcases kq with _ | kj14
  · exact absurd HA.out (by simp [impl_IsMachine.j2])
  have H := HA.out
  clear HA
  simp only [impl_IsMachine.j2] at H
  by_cases c33 : x54_14 = true
  · subst c33
    rw [if_pos rfl] at H
    obtain rfl := Option.some.inj H
    go_wp2
    go_ret
    exact ⟨er_, pb2_ HB.out GE158.out GE161.out⟩
  replace c33 := Bool.eq_false_iff.mpr c33
  subst c33
  rw [if_neg (show ¬ (false = true) by decide)] at H
  by_cases c34 : 0 ≤ x28_2
  rotate_left
  · rw [if_neg c34] at H
    exact absurd H (by simp)
  rw [if_pos c34] at H
  have c34b0 := eq_true c34
  have c34b1 : decide (0 ≤ x28_2) = true := decide_eq_true c34
  clear c34
  by_cases c35 : x28_2 ≤ (l0_2.length : Int)
  rotate_left
  · rw [if_neg c35] at H
    exact absurd H (by simp)
  rw [if_pos c35] at H
  have c35b0 := eq_true c35
  have c35b1 : decide (x28_2 ≤ (l0_2.length : Int)) = true := decide_eq_true c35
  clear c35
  obtain ⟨y165, hy165⟩ : ∃ y_ : List (S78), y_ = (l0_2.take (x28_2 : Int).toNat) := ⟨_, rfl⟩
  replace H : (impl_IsMachine.l1 kj14 l0_2 (l0_2.length : Int) x28_2 y165 (y165.length : Int) 0 a0_0 l0_1 l0_2 ((rd_T78 l0_2 x28_2).f0) ((rd_T78 l0_2 x28_2).f1) ((rd_T78 l0_2 x28_2).f2) ((rd_T78 l0_2 x28_2).f3)) = some r := by first | (rw [hy165]; with_reducible exact H) | (have H2_ := (Option.bind_some _ _).symm.trans H; rw [hy165]; with_reducible exact H2_) | (have H2_ := (Option.bind_some _ _).symm.trans H; with_reducible exact H2_) | with_reducible exact H | (rw [hy165]; exact H) | exact H
  have Ny165 := Aside0.mk hy165
  clear hy165
  have H' := Aside0.mk H
  clear H
  have hnb36 := NB158_161.out
  have hnc36 := NB161_158.out
  obtain ⟨hcz37_0, hcz37_1, hcz37_2, hfz37_0, hfz37_1, hfz37_2⟩ := bc3_ BK158.out
  have q38 : (x28_2 : Int) ≤ ((l0_2.length : Int) : Int) := dt_
  obtain ⟨i038, hi038, _, hsz38, _⟩ := info_parts info78
  have hroom38 : l0_2.length ≤ c0_2 := HC0_2.out
  have hC38 : Kd.C k78 _ (some ad160) l0_2.length l0_2 := HR0_2.out
  have hcut38 := cut_to (P := Try.prog) 32 78 .i64 Try.underlying32 hi038 (some ad160) l0_2.length c0_2 x28_2 dt_ q38 hroom38
  have hr38 := Kd.C_take (m := (x28_2 : Int).toNat) hC38 (by omega)
  have hy38 : y165.length = (x28_2 : Int).toNat := (by rw [Ny165.out, List.length_take]; omega)
  rw [← Ny165.out] at hr38
  rw [← hy38] at hcut38
  have HR168 := Aside0.mk hr38
  have HC168 := Aside0.mk (show y165.length ≤ c0_2 from by omega)
  clear hr38 hC38 hroom38 hi038 hsz38
  have KY38 := Aside0.mk hy38
  clear hy38
  replace q38 := eq_true q38
  go_wp2
  go_loopg [60] kj14 (fun kq v60 w' => ∃ (x60_4 : Int), v60 = .int .i64 x60_4 ∧ Aside0 (impl_IsMachine.l1 kq l0_2 (l0_2.length : Int) x28_2 y165 (y165.length : Int) x60_4 a0_0 l0_1 l0_2 ((rd_T78 l0_2 x28_2).f0) ((rd_T78 l0_2 x28_2).f1) ((rd_T78 l0_2 x28_2).f2) ((rd_T78 l0_2 x28_2).f3) = some r) ∧ Aside0 (kq ≤ kj14) ∧ Aside0 (w'.heap[gb158]? = some (.cells #[.int .i64 a0_0, (.slice A0_1 l0_1.length c0_1), (.slice (some ad160) l0_2.length c0_2)] 34 (0, 0))) ∧ Aside0 (w'.heap[gb161]? = some (.cells #[.int .i64 ((rd_T78 l0_2 x28_2).f0), .bool ((rd_T78 l0_2 x28_2).f1), .int .i64 ((rd_T78 l0_2 x28_2).f2), .int .i64 ((rd_T78 l0_2 x28_2).f3)] 78 (0, 0))) ∧ Aside0 (Below w.heap.size w w'))
  case atStart => exact ⟨(0), el_, H', ⟨Nat.le_refl _⟩, ⟨pk_ BK158.out⟩, ⟨pk_ BK161.out⟩, ⟨pb2_ HB.out GE158.out GE161.out⟩⟩
  clear H'
  try clear c1
  try clear p1
  try clear q1
  try clear hx1
  try clear c2
  try clear p2
  try clear c3
  try clear q3
  try clear c4
  try clear c5
  try clear p6
  try clear c7
  try clear c7b0
  try clear c7b1
  try clear c10
  try clear c12
  try clear c12b0
  try clear c13
  try clear c13b0
  try clear c14
  try clear c14b0
  try clear p16
  try clear q16
  try clear hx16
  try clear c17
  try clear c20
  try clear c21
  try clear c25
  try clear c26
  try clear c30
  try clear c33
  try clear c34
  try clear c34b0
  try clear c34b1
  try clear c35
  try clear c35b0
  try clear c35b1
  try clear c36
  try clear q38
  try clear hcz11_0
  try clear hcz11_1
  try clear hcz11_2
  try clear hcz18_0
  try clear hcz18_1
  try clear hcz18_2
  try clear hcz18_3
  try clear hcz22_0
  try clear hcz22_1
  try clear hcz22_2
  try clear hcz22_3
  try clear hcz23_0
  try clear hcz23_1
  try clear hcz23_2
  try clear hcz27_0
  try clear hcz27_1
  try clear hcz27_2
  try clear hcz27_3
  try clear hcz28_0
  try clear hcz28_1
  try clear hcz28_2
  try clear hcz31_0
  try clear hcz31_1
  try clear hcz31_2
  try clear hcz31_3
  try clear hcz32_0
  try clear hcz32_1
  try clear hcz32_2
  try clear hcz37_0
  try clear hcz37_1
  try clear hcz37_2
  try clear hcz6_0
  try clear hcz6_1
  try clear hcz6_2
  try clear hcz8_0
  try clear hcz8_1
  try clear hcz8_2
  try clear hcz9_0
  try clear hcz9_1
  try clear hcz9_2
  try clear hfz11_0
  try clear hfz11_1
  try clear hfz11_2
  try clear hfz18_0
  try clear hfz18_1
  try clear hfz18_2
  try clear hfz18_3
  try clear hfz22_0
  try clear hfz22_1
  try clear hfz22_2
  try clear hfz22_3
  try clear hfz23_0
  try clear hfz23_1
  try clear hfz23_2
  try clear hfz27_0
  try clear hfz27_1
  try clear hfz27_2
  try clear hfz27_3
  try clear hfz28_0
  try clear hfz28_1
  try clear hfz28_2
  try clear hfz31_0
  try clear hfz31_1
  try clear hfz31_2
  try clear hfz31_3
  try clear hfz32_0
  try clear hfz32_1
  try clear hfz32_2
  try clear hfz37_0
  try clear hfz37_1
  try clear hfz37_2
  try clear hfz6_0
  try clear hfz6_1
  try clear hfz6_2
  try clear hfz8_0
  try clear hfz8_1
  try clear hfz8_2
  try clear hfz9_0
  try clear hfz9_1
  try clear hfz9_2
  try clear hx160_0
  try clear hx160_1
  try clear hx160_2
  try clear hx160_3
  try clear p1
  try clear p16
  try clear p160
  try clear p2
  try clear p6
  try clear q1
  try clear q16
  try clear q160
  try clear q38
  obtain ⟨x60_4, rfl, HA, HK4, BK158, BK161, HB⟩ := hrel
  rcases gk with _ | k4
  · exact absurd HA.out (by simp [impl_IsMachine.l1])
  have H := HA.out
  clear HA
  simp only [impl_IsMachine.l1] at H
  by_cases c39 : x60_4 < (y165.length : Int)
  rotate_left
  · rw [if_neg c39] at H
    have c39b0 : decide (x60_4 < (y165.length : Int)) = false := decide_eq_false c39
    clear c39
    have H' := Aside0.mk H
    clear H
    go_wp2
    go_roundg k4
    case measure => have := HJ1.out; have := HK2.out; have := HJ14.out; have := HK4.out; omega
    case rel => exact ⟨(wrap64 (x28_2 + 1)), el_, H', ⟨by have := HJ1.out; have := HK2.out; have := HJ14.out; have := HK4.out; omega⟩, ⟨pk_ BK158.out⟩, ⟨pb2_ HB.out GE158.out GE161.out⟩⟩
  rw [if_pos c39] at H
  have c39b0 : decide (x60_4 < (y165.length : Int)) = true := decide_eq_true c39
  clear c39
  by_cases c40 : 0 ≤ x60_4
  rotate_left
  · rw [if_neg c40] at H
    exact absurd H (by simp)
  rw [if_pos c40] at H
  have c40b0 : decide (0 ≤ x60_4) = true := decide_eq_true c40
  clear c40
  by_cases c41 : x60_4 < (y165.length : Int)
  rotate_left
  · rw [if_neg c41] at H
    exact absurd H (by simp)
  rw [if_pos c41] at H
  have c41b0 : decide (x60_4 < (y165.length : Int)) = true := decide_eq_true c41
  clear c41
  have HS_ := Aside0.mk H
  clear H
  have p169 : 0 ≤ (x60_4 : Int) := dt_
  have q169 : x60_4 < (y165.length : Int) := dt_
  obtain ⟨ad169, e169, hx169_0, hx169_1, hx169_2, hx169_3⟩ := at_T78 HR168.out x60_4 p169 q169
  obtain rfl : ad160 = ad169 := (by injection e169)
  replace hx169_0 := bt_ HB hx169_0
  replace hx169_1 := bt_ HB hx169_1
  replace hx169_2 := bt_ HB hx169_2
  replace hx169_3 := bt_ HB hx169_3
  replace p169 := eq_true p169
  replace q169 := eq_true q169
  go_upto_region 11 with (first | ((with_reducible refine gate_dst (N := 6) rfl ?_); (try (refine gate_guard (by rfl) ?_; dsimp only)); refine box_event ?hg (N := 6) ?hd (cs := #[.int .i64 0, .bool false, .int .i64 0, .int .i64 0]) (t := 78) ?hr ?_; (case hd => rfl); (case hg => rfl); (case hr => first | (go_simp; done) | (go_simp; rfl)); intro gb170 hg w42 hbox hb; have n0_ := Aside0.mk (bb_ BK158.out hb); have n1_ := Aside0.mk (bb_ BK161.out hb); have n2_ := Aside0.mk (below_step (pb2_ HB.out GE158.out GE161.out) hb); have n3_ := Aside0.mk (hbox); have n4_ := Aside0.mk ((by rw [hg]; exact (below_size (pb2_ HB.out GE158.out GE161.out)) : w.heap.size ≤ gb170)); have n5_ := Aside0.mk ((by rw [hg]; exact (below_size (pb2_ HB.out GE158.out GE161.out)) : w.heap.size ≤ gb170)); have n6_ := Aside0.mk ((by rw [hg]; exact Nat.ne_of_lt (blk_lt (pk_ BK158.out)) : gb158 ≠ gb170)); have n7_ := Aside0.mk ((by rw [hg]; exact Nat.ne_of_gt (blk_lt (pk_ BK158.out)) : gb170 ≠ gb158)); have n8_ := Aside0.mk ((by rw [hg]; exact Nat.ne_of_lt (blk_lt (pk_ BK161.out)) : gb161 ≠ gb170)); have n9_ := Aside0.mk ((by rw [hg]; exact Nat.ne_of_gt (blk_lt (pk_ BK161.out)) : gb170 ≠ gb161)); clear BK158; clear BK161; clear HB; have BK158 := n0_; have BK161 := n1_; have HB := n2_; have BK170 := n3_; have GW170 := n4_; have GE170 := n5_; have NB158_170 := n6_; have NB170_158 := n7_; have NB161_170 := n8_; have NB170_161 := n9_; clear n0_ n1_ n2_ n3_ n4_ n5_ n6_ n7_ n8_ n9_; clear hb hbox hg; have hnb43 := NB170_158.out; have hnc43 := NB158_170.out; have hnb44 := NB170_161.out; have hnc44 := NB161_170.out; obtain ⟨hcz45_0, hcz45_1, hcz45_2, hcz45_3, hfz45_0, hfz45_1, hfz45_2, hfz45_3⟩ := bc4_ BK170.out))
  (try simp only [Act.put, List.setIfInBounds_toArray, List.set_cons_zero, List.set_cons_succ])
  have H := HS_.out
  clear HS_
  by_cases c46 : ((rd_T78 y165 x60_4).f0) = ((rd_T78 l0_2 x28_2).f0)
  rotate_left
  · rw [if_neg c46] at H
    have c46b0 : (((rd_T78 y165 x60_4).f0) == ((rd_T78 l0_2 x28_2).f0)) = false := beq_eq_false_iff_ne.mpr c46
    have c46b1 : (((rd_T78 y165 x60_4).f0) != ((rd_T78 l0_2 x28_2).f0)) = true := bne_iff_ne.mpr c46
    (first | rw [c46b0] | (simp only [i64_w, i32_w]; rw [c46b0]) | rw [c46b1] | (have c_ := c46b1; rw [bne] at c_; rw [c_]; clear c_) | skip)
    have H' := Aside0.mk H
    clear H
    have hnb47 := NB170_158.out
    have hnc47 := NB158_170.out
    have hnb48 := NB170_161.out
    have hnc48 := NB161_170.out
    obtain ⟨hcz49_0, hcz49_1, hcz49_2, hcz49_3, hfz49_0, hfz49_1, hfz49_2, hfz49_3⟩ := bc4_ BK170.out
    have hnb50 := NB161_158.out
    have hnc50 := NB158_161.out
    obtain ⟨hcz51_0, hcz51_1, hcz51_2, hcz51_3, hfz51_0, hfz51_1, hfz51_2, hfz51_3⟩ := bc4_ BK161.out
    go_wp2
    go_roundg k4
    case measure => have := HJ1.out; have := HK2.out; have := HJ14.out; have := HK4.out; omega
    case rel => exact ⟨(wrap64 (x60_4 + 1)), el_, H', ⟨by have := HJ1.out; have := HK2.out; have := HJ14.out; have := HK4.out; omega⟩, ⟨pp_ BK158.out⟩, ⟨pp_ BK161.out⟩, ⟨pb3_ HB.out GE158.out GE161.out GE170.out⟩⟩
  rw [if_pos c46] at H
  have c46b0 : (((rd_T78 y165 x60_4).f0) == ((rd_T78 l0_2 x28_2).f0)) = true := beq_iff_eq.mpr c46
  have c46b1 : (((rd_T78 y165 x60_4).f0) != ((rd_T78 l0_2 x28_2).f0)) = false := bne_eq_false_iff_eq.mpr c46
  clear c46
  (first | rw [c46b0] | (simp only [i64_w, i32_w]; rw [c46b0]) | rw [c46b1] | (have c_ := c46b1; rw [bne] at c_; rw [c_]; clear c_) | skip)
  by_cases c52 : (((rd_T78 y165 x60_4).f1) != ((rd_T78 l0_2 x28_2).f1)) = true
  · rw [if_pos c52] at H
    have c52b0 : (((rd_T78 y165 x60_4).f1) != ((rd_T78 l0_2 x28_2).f1)) = true := c52
    (try (have c52b1 : decide (((rd_T78 y165 x60_4).f1) = ((rd_T78 l0_2 x28_2).f1)) = false := by simpa using c52))
    (try (have c52b2 : (((rd_T78 y165 x60_4).f1) == ((rd_T78 l0_2 x28_2).f1)) = false := by simpa using c52))
    (try (have c52b3 : ¬ (((rd_T78 y165 x60_4).f1) = ((rd_T78 l0_2 x28_2).f1)) := by simpa using c52))
    clear c52
    obtain rfl := Option.some.inj H
    have hnb53 := NB170_158.out
    have hnc53 := NB158_170.out
    have hnb54 := NB170_161.out
    have hnc54 := NB161_170.out
    obtain ⟨hcz55_0, hcz55_1, hcz55_2, hcz55_3, hfz55_0, hfz55_1, hfz55_2, hfz55_3⟩ := bc4_ BK170.out
    have hnb56 := NB161_158.out
    have hnc56 := NB158_161.out
    obtain ⟨hcz57_0, hcz57_1, hcz57_2, hcz57_3, hfz57_0, hfz57_1, hfz57_2, hfz57_3⟩ := bc4_ BK161.out
    go_wp2
    go_ret
    exact ⟨er_, pb3_ HB.out GE158.out GE161.out GE170.out⟩
  rw [if_neg c52] at H
  have c52b0 : (((rd_T78 y165 x60_4).f1) != ((rd_T78 l0_2 x28_2).f1)) = false := by simpa using c52
  (try (have c52b1 : decide (((rd_T78 y165 x60_4).f1) = ((rd_T78 l0_2 x28_2).f1)) = true := by simpa using c52))
  (try (have c52b2 : (((rd_T78 y165 x60_4).f1) == ((rd_T78 l0_2 x28_2).f1)) = true := by simpa using c52))
  clear c52
  by_cases c58 : ((rd_T78 y165 x60_4).f2) = ((rd_T78 l0_2 x28_2).f2)
  rotate_left
  · rw [if_neg c58] at H
    have c58b0 : (((rd_T78 y165 x60_4).f2) == ((rd_T78 l0_2 x28_2).f2)) = false := beq_eq_false_iff_ne.mpr c58
    have c58b1 : (((rd_T78 y165 x60_4).f2) != ((rd_T78 l0_2 x28_2).f2)) = true := bne_iff_ne.mpr c58
    have H' := Aside0.mk H
    clear H
    have hnb59 := NB170_158.out
    have hnc59 := NB158_170.out
    have hnb60 := NB170_161.out
    have hnc60 := NB161_170.out
    obtain ⟨hcz61_0, hcz61_1, hcz61_2, hcz61_3, hfz61_0, hfz61_1, hfz61_2, hfz61_3⟩ := bc4_ BK170.out
    have hnb62 := NB161_158.out
    have hnc62 := NB158_161.out
    obtain ⟨hcz63_0, hcz63_1, hcz63_2, hcz63_3, hfz63_0, hfz63_1, hfz63_2, hfz63_3⟩ := bc4_ BK161.out
    go_wp2
    go_roundg k4
    case measure => have := HJ1.out; have := HK2.out; have := HJ14.out; have := HK4.out; omega
    case rel => exact ⟨(wrap64 (x60_4 + 1)), el_, H', ⟨by have := HJ1.out; have := HK2.out; have := HJ14.out; have := HK4.out; omega⟩, ⟨pp_ BK158.out⟩, ⟨pp_ BK161.out⟩, ⟨pb3_ HB.out GE158.out GE161.out GE170.out⟩⟩
  rw [if_pos c58] at H
  have c58b0 : (((rd_T78 y165 x60_4).f2) == ((rd_T78 l0_2 x28_2).f2)) = true := beq_iff_eq.mpr c58
  have c58b1 : (((rd_T78 y165 x60_4).f2) != ((rd_T78 l0_2 x28_2).f2)) = false := bne_eq_false_iff_eq.mpr c58
  clear c58
  obtain rfl := Option.some.inj H
  have hnb64 := NB170_158.out
  have hnc64 := NB158_170.out
  have hnb65 := NB170_161.out
  have hnc65 := NB161_170.out
  obtain ⟨hcz66_0, hcz66_1, hcz66_2, hcz66_3, hfz66_0, hfz66_1, hfz66_2, hfz66_3⟩ := bc4_ BK170.out
  have hnb67 := NB161_158.out
  have hnc67 := NB158_161.out
  obtain ⟨hcz68_0, hcz68_1, hcz68_2, hcz68_3, hfz68_0, hfz68_1, hfz68_2, hfz68_3⟩ := bc4_ BK161.out
  go_wp2
  go_ret
  exact ⟨er_, pb3_ HB.out GE158.out GE161.out GE170.out⟩

end Go.Proofs.Ytldcchjbaglppaa.Print
