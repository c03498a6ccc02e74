-- Written by a program of this session (printx.py) out of the translation; Lean checks it.
import Derived.Test.YtpoandlbmaljhaaPrint0
import Derived.Test.YtpoandlbmaljhaaPrint8
import Derived.Test.YtpoandlbmaljhaaPrint10
import Derived.Test.YtpoandlbmaljhaaPrint11
namespace Go.Proofs.Ytpoandlbmaljhaa.Print
open Go.RowKit Go.Proofs.YtpoandlbmaljhaaW.PrintWords Go.Proofs.YtpoandlbmaljhaaW.PrintLast Go.Proofs.YtpoandlbmaljhaaW.PrintMore Go.Proofs.Ytpoandlbmaljhaa.Short
attribute [local go_sem] max2_int min2_int max_two min_two max_three min_three max_four min_four   -- for this text's walks alone
set_option linter.unusedVariables false
set_option linter.unusedSimpArgs false

/-! ### impl_IsHello: function 84 -/
def impl_IsHello.f (k : Nat) (l0_0 : List Int) (l0_1 : List (S69)) : Option (Bool) := (impl_AreVersions.f k l0_0).bind fun t409 => (if t409 = true then ((impl_AreExts.f k l0_1).bind fun t410 => (some t410)) else (some false))
theorem impl_IsHello.mono : ∀ a0 a1 k, LeO (impl_IsHello.f k a0 a1) (impl_IsHello.f (k + 1) a0 a1) := by
  intro a0 a1 k
  unfold impl_IsHello.f
  repeat' first
      | (with_reducible exact impl_AreExts.mono _ _)
      | (with_reducible exact impl_AreVersions.mono _ _)
      | (with_reducible exact LeO.refl _)
      | (with_reducible exact LeO.none _)
      | (with_reducible refine LeO.ite ?_ ?_)
      | (with_reducible refine LeO.bind ?_ (fun _ => ?_))
      | exact impl_AreExts.mono _ _
      | exact impl_AreVersions.mono _ _
      | exact LeO.none _
      | refine LeO.ite ?_ ?_
      | refine LeO.bind ?_ (fun _ => ?_)
set_option maxHeartbeats 8000000 in
set_option maxRecDepth 100000 in
theorem impl_IsHello.calls (k : Nat) (A0_0 : Option Addr) (c0_0 : Nat) (l0_0 : List Int) (A0_1 : Option Addr) (c0_1 : Nat) (l0_1 : List (S69)) (r : Bool) (w : World) (hr0_0 : Kd.C (Kd.int .i64) w A0_0 l0_0.length l0_0) (hc0_0 : l0_0.length ≤ c0_0) (hr0_1 : Kd.C k69 w A0_1 l0_1.length l0_1) (hc0_1 : l0_1.length ≤ c0_1) (h : impl_IsHello.f k l0_0 l0_1 = some r) :
    Calls Try.prog 84 #[.agg #[.slice A0_0 l0_0.length c0_0, .slice A0_1 l0_1.length c0_1]] w fun e w' => e = .returned (.bool r) ∧ Below w.heap.size w w' := by
  have hu63 := Try.underlying63
  have HR0_0 := Aside0.mk hr0_0
  have HC0_0 := Aside0.mk hc0_0
  clear hr0_0 hc0_0
  have HR0_1 := Aside0.mk hr0_1
  have HC0_1 := Aside0.mk hc0_1
  clear hr0_1 hc0_1
  have HB := Aside0.mk (Below.refl w.heap.size w)
  have H : ((impl_AreVersions.f k l0_0).bind fun t409 => (if t409 = true then ((impl_AreExts.f k l0_1).bind fun t410 => (some t410)) else (some false))) = some r := h
  clear h
  have HS_ := Aside0.mk H
  clear H
  go_enter Try.func84, Try.ntmps84
  go_upto_region 1 with (first | ((with_reducible refine gate_dst (N := 1) rfl ?_); refine box_event ?hg (N := 1) ?hd (cs := #[.slice A0_0 l0_0.length c0_0, .slice A0_1 l0_1.length c0_1]) (t := 63) ?hr ?_; (case hd => rfl); (case hg => rfl); (case hr => first | (go_simp; done) | (go_simp; rfl)); intro gb408 hg w2 hbox hb; have n0_ := Aside0.mk (below_step (pb_ HB.out) hb); have n1_ := Aside0.mk (hbox); have n2_ := Aside0.mk ((by rw [hg]; exact (below_size (pb_ HB.out)) : w.heap.size ≤ gb408)); have n3_ := Aside0.mk ((by rw [hg]; exact (below_size (pb_ HB.out)) : w.heap.size ≤ gb408)); clear HB; have HB := n0_; have BK408 := n1_; have GW408 := n2_; have GE408 := n3_; clear n0_ n1_ n2_ n3_; clear hb hbox hg))
  (try simp only [Act.put, List.setIfInBounds_toArray, List.set_cons_zero, List.set_cons_succ])
  have H := HS_.out
  clear HS_
  replace H := Option.bind_eq_some_iff.mp H
  obtain ⟨t409, A30, H⟩ := H
  (try dsimp only at H)
  have A3 := Aside0.mk A30
  clear A30
  by_cases c4 : t409 = true
  rotate_left
  · replace c4 := Bool.eq_false_iff.mpr c4
    subst c4
    rw [if_neg (show ¬ (false = true) by decide)] at H
    obtain rfl := Option.some.inj H
    obtain ⟨hcz5_0, hcz5_1, hfz5_0, hfz5_1⟩ := bc2_ BK408.out
    go_wp2_with (first | ((with_reducible refine gate_callee (f := 55) rfl ?_); refine goesL_ (some 5) rfl rfl Try.func55 (by kernel_rfl) rfl #[.slice A0_0 l0_0.length c0_0] rfl mp_ ?_; (with_reducible refine (impl_AreVersions.calls k _ _ l0_0 false _ ?side1 ?side2 A3.out).mono ?_); (case side1 => exact pc_ (Kd.C_below HR0_0.out HB.out)); (case side2 => exact HC0_0.out); rintro e w' ⟨rfl, ⟨nd, rfl⟩⟩; refine ⟨_, rfl, ?_⟩))
    go_ret
    exact ⟨er_, pb1_ HB.out GE408.out⟩
  subst c4
  rw [if_pos rfl] at H
  replace H := Option.bind_eq_some_iff.mp H
  obtain ⟨t410, A60, H⟩ := H
  replace H : (some t410) = some r := H
  have A6 := Aside0.mk A60
  clear A60
  obtain rfl := Option.some.inj H
  obtain ⟨hcz7_0, hcz7_1, hfz7_0, hfz7_1⟩ := bc2_ BK408.out
  go_wp2_with (first | ((with_reducible refine gate_callee (f := 55) rfl ?_); refine goesL_ (some 5) rfl rfl Try.func55 (by kernel_rfl) rfl #[.slice A0_0 l0_0.length c0_0] rfl mp_ ?_; (with_reducible refine (impl_AreVersions.calls k _ _ l0_0 true _ ?side1 ?side2 A3.out).mono ?_); (case side1 => exact pc_ (Kd.C_below HR0_0.out HB.out)); (case side2 => exact HC0_0.out); rintro e w' ⟨rfl, ⟨nd, rfl⟩⟩; refine ⟨_, rfl, ?_⟩) | (go_at_call 73; (with_reducible refine (impl_AreExts.calls k _ _ l0_1 t410 _ ?side1 ?side2 A6.out).mono ?_); (case side1 => exact pc_ (Kd.C_below HR0_1.out (pb1_ HB.out GE408.out))); (case side2 => exact HC0_1.out); rintro e w8 ⟨rfl, hb⟩; have n0_ := Aside0.mk (bb_ BK408.out hb); have n1_ := Aside0.mk (below_step (pb1_ HB.out GE408.out) hb); clear BK408; clear HB; have BK408 := n0_; have HB := n1_; clear n0_ n1_; (try clear hb); (try clear hb2); (try clear hk); (try clear hi)))
  go_ret
  exact ⟨er_, pb1_ HB.out GE408.out⟩

/-! ### impl_copyExts_1: function 103 -/
def impl_copyExts_1.f (a0 : Int) : Option (Bool) := some true
set_option maxHeartbeats 8000000 in
set_option maxRecDepth 100000 in
theorem impl_copyExts_1.calls (a0 : Int) (r : Bool) (w : World) (h : impl_copyExts_1.f a0 = some r) :
    Calls Try.prog 103 #[.int .i64 a0] w fun e w' => e = .returned (.bool r) ∧ Drawn0 w w' := by
  have H : (some true) = some r := h
  clear h
  obtain rfl := Option.some.inj H
  go_enter Try.func103, Try.ntmps103
  go_wp2
  go_ret
  exact ⟨by first | rfl | (simp; done) | (simp [*]; done), by repeat (first | exact Drawn0.refl _ | apply Drawn0.step)⟩

/-! ### impl_keptExts_with_impl_copyExts_1: function 100010 -/
def impl_keptExts_with_impl_copyExts_1.l0 : Nat → List (S69) → List (S69) → Int → Int → Option ((List (S69)))
  | 0, _, _, _, _ => none
  | k + 1, x5, x9, x10, x11 => if x11 < x10 then (if 0 ≤ x11 then (if x11 < (x9.length : Int) then ((impl_copyExts_1.f ((rd_T69 x9 x11).f0)).bind fun t416 => (if t416 = true then ((some (([] : List Int) : List Int)).bind fun y417 => (if y417.length + ((rd_T69 x9 x11).f1).length < 17592186044416 then (if x5.length < 4398046511104 then (impl_keptExts_with_impl_copyExts_1.l0 k (x5 ++ [(⟨(rd_T69 x9 x11).f0, (y417 ++ ((rd_T69 x9 x11).f1))⟩ : S69)]) x9 x10 (wrap64 (x11 + 1))) else (none)) else (none))) else (impl_keptExts_with_impl_copyExts_1.l0 k x5 x9 x10 (wrap64 (x11 + 1))))) else (none)) else (none)) else (some x5)
def impl_keptExts_with_impl_copyExts_1.f (k : Nat) (l0 : List (S69)) : Option ((List (S69))) := impl_keptExts_with_impl_copyExts_1.l0 k (([] : List (S69))) l0 (l0.length : Int) 0
theorem impl_keptExts_with_impl_copyExts_1.mono_l : ∀ k, (∀ y0 y1 y2 y3, LeO (impl_keptExts_with_impl_copyExts_1.l0 k y0 y1 y2 y3) (impl_keptExts_with_impl_copyExts_1.l0 (k + 1) y0 y1 y2 y3))
  | 0 => fun _ _ _ _ r h => by simp [impl_keptExts_with_impl_copyExts_1.l0] at h
  | k + 1 => by
    have ih0 := impl_keptExts_with_impl_copyExts_1.mono_l k
    · intro y0 y1 y2 y3
      unfold impl_keptExts_with_impl_copyExts_1.l0
      repeat' first
      | (with_reducible exact ih0 _ _ _ _)
      | (with_reducible exact LeO.refl _)
      | (with_reducible exact LeO.none _)
      | (with_reducible refine LeO.ite ?_ ?_)
      | (with_reducible refine LeO.bind ?_ (fun _ => ?_))
      | exact ih0 _ _ _ _
      | exact LeO.none _
      | refine LeO.ite ?_ ?_
      | refine LeO.bind ?_ (fun _ => ?_)
theorem impl_keptExts_with_impl_copyExts_1.mono : ∀ a0 k, LeO (impl_keptExts_with_impl_copyExts_1.f k a0) (impl_keptExts_with_impl_copyExts_1.f (k + 1) a0) := by
  intro a0 k
  have ih0 := impl_keptExts_with_impl_copyExts_1.mono_l k
  unfold impl_keptExts_with_impl_copyExts_1.f
  repeat' first
      | (with_reducible exact ih0 _ _ _ _)
      | (with_reducible exact LeO.refl _)
      | (with_reducible exact LeO.none _)
      | (with_reducible refine LeO.ite ?_ ?_)
      | (with_reducible refine LeO.bind ?_ (fun _ => ?_))
      | exact ih0 _ _ _ _
      | exact LeO.none _
      | refine LeO.ite ?_ ?_
      | refine LeO.bind ?_ (fun _ => ?_)
def impl_keptExts_with_impl_copyExts_1.T6 : Bool × List (List Nat × List Nat) := (true, [([], []), ([], []), ([1], [1]), ([], []), ([], []), ([4], [4]), ([3, 5], [3, 5]), ([2, 6], [2, 6]), ([7], [7]), ([0, 8, 6], [0, 8]), ([9, 9, 0, 1, 2, 3, 4, 5, 6, 7, 8, 9], [0, 9])])
def impl_keptExts_with_impl_copyExts_1.B6 : List Nat := [0, 0, 2, 0, 0, 16, 56, 126, 254, 511, 1023]
theorem impl_keptExts_with_impl_copyExts_1.tab6 : rtab .any (opsOf Try.f95 6) = impl_keptExts_with_impl_copyExts_1.T6 := by kernel_rfl
theorem impl_keptExts_with_impl_copyExts_1.bits6 : waitsOk impl_keptExts_with_impl_copyExts_1.T6.2 impl_keptExts_with_impl_copyExts_1.B6 = true := by kernel_rfl
set_option maxHeartbeats 8000000 in
set_option maxRecDepth 100000 in
theorem impl_keptExts_with_impl_copyExts_1.calls (k : Nat) (A0 : Option Addr) (c0 : Nat) (l0 : List (S69)) (r : List (S69)) (w : World) (hr0 : Kd.C k69 w A0 l0.length l0) (hc0 : l0.length ≤ c0) (h : impl_keptExts_with_impl_copyExts_1.f k l0 = some r) :
    Calls Try.prog 95 #[.slice A0 l0.length c0, .func (.func 103) #[] #[]] w fun e w' => ∃ v0_ : Value, e = .returned (v0_) ∧ Kd.S k69 69 w' w.heap.size (fun _ => True) v0_ r ∧ Below w.heap.size w w' := by
  have hu69 := Try.underlying69
  have HR0 := Aside0.mk hr0
  have HC0 := Aside0.mk hc0
  clear hr0 hc0
  have HB := Aside0.mk (Below.refl w.heap.size w)
  have H : (impl_keptExts_with_impl_copyExts_1.l0 k (([] : List (S69))) l0 (l0.length : Int) 0) = some r := h
  clear h
  obtain ⟨y411, hy411⟩ : ∃ y_ : List (S69), y_ = (([] : List (S69))) := ⟨_, rfl⟩
  replace H : (impl_keptExts_with_impl_copyExts_1.l0 k y411 l0 (l0.length : Int) 0) = some r := by first | (rw [hy411]; with_reducible exact H) | (have H2_ := (Option.bind_some _ _).symm.trans H; rw [hy411]; with_reducible exact H2_) | (have H2_ := (Option.bind_some _ _).symm.trans H; with_reducible exact H2_) | with_reducible exact H | (rw [hy411]; exact H) | exact H
  have Ny411 := Aside0.mk hy411
  clear hy411
  have H' := Aside0.mk H
  clear H
  go_enter Try.func95, Try.ntmps95
  go_wp2_with (first | ((with_reducible refine gate_dst (N := 8) rfl ?_); refine Kd.S_lit k69 _ 69 ?hg (N := 8) ?hd (xs := ([] : List (S69))) (inner := []) (ok := fun _ => True) (okp := fun _ => True) ?hr ?hp (fun _ hk => hk) trivial (Below.refl _ _) (Nat.le_refl _) (by simp) ?_; (case hd => rfl); (case hg => rfl); (case hr => first | (go_simp; done) | (go_simp; rfl)); (case hp => exact (Reps.none _ _)); intro v412 w2 ho3 hb hg_ hnew_; clear hg_ hnew_; (first | rw [← Ny411.out] at ho3 | (simp only [Int.reduceToNat] at ho3; rw [← Ny411.out] at ho3)); have n0_ := Aside0.mk (Kd.S_lower ho3 (below_size (pb_ HB.out))); have n1_ := Aside0.mk (below_step (pb_ HB.out) hb); clear HB; have HO413 := n0_; have HB := n1_; clear n0_ n1_; clear hb ho3))
  (try simp only [Act.put, List.setIfInBounds_toArray, List.set_cons_zero, List.set_cons_succ])
  go_loopg [5, 11] k (fun kq v5 v11 w' => ∃ (x5_1 : List (S69)) (x11_1 : Int), v11 = .int .i64 x11_1 ∧ Aside0 (impl_keptExts_with_impl_copyExts_1.l0 kq x5_1 l0 (l0.length : Int) x11_1 = some r) ∧ Aside0 (kq ≤ k) ∧ Aside0 (Kd.S k69 69 w' w.heap.size (fun _ => True) v5 x5_1) ∧ Aside0 (Below w.heap.size w w'))
  case atStart => exact ⟨(y411), (0), el_, H', ⟨Nat.le_refl _⟩, ⟨ps_ HO413.out⟩, ⟨pb_ HB.out⟩⟩
  clear H'
  try clear p2
  obtain ⟨x5_1, x11_1, rfl, HA, HK1, HO_5, HB⟩ := hrel
  rcases gk with _ | k1
  · exact absurd HA.out (by simp [impl_keptExts_with_impl_copyExts_1.l0])
  have H := HA.out
  clear HA
  simp only [impl_keptExts_with_impl_copyExts_1.l0] at H
  by_cases c4 : x11_1 < (l0.length : Int)
  rotate_left
  · rw [if_neg c4] at H
    have c4b0 : decide (x11_1 < (l0.length : Int)) = false := decide_eq_false c4
    clear c4
    obtain rfl := Option.some.inj H
    go_wp2
    go_ret
    exact ⟨_, er_, ps_ HO_5.out, pb_ HB.out⟩
  rw [if_pos c4] at H
  have c4b0 : decide (x11_1 < (l0.length : Int)) = true := decide_eq_true c4
  clear c4
  by_cases c5 : 0 ≤ x11_1
  rotate_left
  · rw [if_neg c5] at H
    exact absurd H (by simp)
  rw [if_pos c5] at H
  have c5b0 : decide (0 ≤ x11_1) = true := decide_eq_true c5
  clear c5
  by_cases c6 : x11_1 < (l0.length : Int)
  rotate_left
  · rw [if_neg c6] at H
    exact absurd H (by simp)
  rw [if_pos c6] at H
  have c6b0 : decide (x11_1 < (l0.length : Int)) = true := decide_eq_true c6
  clear c6
  have HS_ := Aside0.mk H
  clear H
  have p414 : 0 ≤ (x11_1 : Int) := dt_
  have q414 : x11_1 < (l0.length : Int) := dt_
  obtain ⟨ad414, A414_1, c414_1, e414, hx414_0, hx414_1, hl414_1, hi414_1⟩ := at_T69 HR0.out x11_1 p414 q414
  cases e414
  replace hx414_0 := (HB.out.cell (World.block_lt_of_cell? w _ hx414_0)).trans hx414_0
  replace hx414_1 := (HB.out.cell (World.block_lt_of_cell? w _ hx414_1)).trans hx414_1
  have HR414_1 := Aside0.mk hi414_1
  have HC414_1 := Aside0.mk hl414_1
  clear hi414_1 hl414_1
  replace p414 := eq_true p414
  replace q414 := eq_true q414
  go_upto_region 5 with (first | ((with_reducible refine gate_dst (N := 7) rfl ?_); refine box_event ?hg (N := 7) ?hd (cs := #[.int .i64 0, .slice none 0 0]) (t := 69) ?hr ?_; (case hd => rfl); (case hg => rfl); (case hr => first | (go_simp; done) | (go_simp; rfl)); intro gb415 hg w7 hbox hb; have n0_ := Aside0.mk (Kd.S_below (Kd.S_elderB (ps_ HO_5.out) gb415 (Nat.le_of_eq hg.symm)) hb); have n1_ := Aside0.mk (below_step (pb_ HB.out) hb); have n2_ := Aside0.mk (hbox); have n3_ := Aside0.mk ((by rw [hg]; exact (below_size (pb_ HB.out)) : w.heap.size ≤ gb415)); have n4_ := Aside0.mk ((by rw [hg]; exact (below_size (pb_ HB.out)) : w.heap.size ≤ gb415)); clear HO_5; clear HB; have HO_5 := n0_; have HB := n1_; have BK415 := n2_; have GW415 := n3_; have GE415 := n4_; clear n0_ n1_ n2_ n3_ n4_; clear hb hbox hg; have hcz8_0 : w7.cell? ⟨gb415, 0, none⟩ = some (.int .i64 0) := (blk_cell BK415.out 0).trans rfl; have hcz8_1 : w7.cell? ⟨gb415, 1, none⟩ = some (.slice none 0 0) := (blk_cell BK415.out 1).trans rfl; have hfz8_0 := blk_frozen BK415.out 0; have hfz8_1 := blk_frozen BK415.out 1))
  (try simp only [Act.put, List.setIfInBounds_toArray, List.set_cons_zero, List.set_cons_succ])
  have H := HS_.out
  clear HS_
  replace H := Option.bind_eq_some_iff.mp H
  obtain ⟨t416, A90, H⟩ := H
  (try dsimp only at H)
  have A9 := Aside0.mk A90
  clear A90
  have HS_ := Aside0.mk H
  clear H
  obtain ⟨hcz10_0, hcz10_1, hfz10_0, hfz10_1⟩ := bc2_ BK415.out
  go_upto_if 18 with (first | (go_at_call 103; (with_reducible refine (impl_copyExts_1.calls ((rd_T69 l0 x11_1).f0) t416 _ A9.out).mono ?_); rintro e w' ⟨rfl, ⟨nd, rfl⟩⟩))
  (try simp only [Act.put, List.setIfInBounds_toArray, List.set_cons_zero, List.set_cons_succ])
  have H := HS_.out
  clear HS_
  by_cases c11 : t416 = true
  rotate_left
  · replace c11 := Bool.eq_false_iff.mpr c11
    subst c11
    rw [if_neg (show ¬ (false = true) by decide)] at H
    have H' := Aside0.mk H
    clear H
    go_wp2
    go_roundg k1
    case measure => have := HK1.out; omega
    case rel => exact ⟨(x5_1), (wrap64 (x11_1 + 1)), el_, H', ⟨by have := HK1.out; omega⟩, ⟨by (with_reducible repeat (first | apply Kd.S_alloc | apply Kd.S_drewN | apply Kd.S_drew)); exact Kd.S_mono (Kd.S_far (p := ⟨gb415, 1, none⟩) (Kd.S_far (p := ⟨gb415, 0, none⟩) (Kd.S_mono HO_5.out (fun k_ hk => (⟨hk, hk.2⟩ : _ ∧ k_ ≠ gb415))) (fun _ hk => hk.2) (.int .i64 ((rd_T69 l0 x11_1).f0))) (fun _ hk => hk.2) (.slice A414_1 ((rd_T69 l0 x11_1).f1).length c414_1)) (fun _ hk => trivial)⟩, ⟨pb1_ HB.out GE415.out⟩⟩
  subst c11
  rw [if_pos rfl] at H
  obtain ⟨y417, hy417⟩ : ∃ y_ : List Int, y_ = (([] : List Int)) := ⟨_, rfl⟩
  replace H : (if y417.length + ((rd_T69 l0 x11_1).f1).length < 17592186044416 then (if x5_1.length < 4398046511104 then (impl_keptExts_with_impl_copyExts_1.l0 k1 (x5_1 ++ [(⟨(rd_T69 l0 x11_1).f0, (y417 ++ ((rd_T69 l0 x11_1).f1))⟩ : S69)]) l0 (l0.length : Int) (wrap64 (x11_1 + 1))) else (none)) else (none)) = some r := by first | (rw [hy417]; with_reducible exact H) | (have H2_ := (Option.bind_some _ _).symm.trans H; rw [hy417]; with_reducible exact H2_) | (have H2_ := (Option.bind_some _ _).symm.trans H; with_reducible exact H2_) | with_reducible exact H | (rw [hy417]; exact H) | exact H
  have Ny417 := Aside0.mk hy417
  clear hy417
  by_cases c12 : y417.length + ((rd_T69 l0 x11_1).f1).length < 17592186044416
  rotate_left
  · rw [if_neg c12] at H
    exact absurd H (by simp)
  rw [if_pos c12] at H
  have LMc12 := Aside0.mk c12
  clear c12
  obtain ⟨y420, hy420⟩ : ∃ y_ : List Int, y_ = (y417 ++ ((rd_T69 l0 x11_1).f1)) := ⟨_, rfl⟩
  replace H : (if x5_1.length < 4398046511104 then (impl_keptExts_with_impl_copyExts_1.l0 k1 (x5_1 ++ [(⟨(rd_T69 l0 x11_1).f0, y420⟩ : S69)]) l0 (l0.length : Int) (wrap64 (x11_1 + 1))) else (none)) = some r := by first | (rw [hy420]; with_reducible exact H) | (have H2_ := (Option.bind_some _ _).symm.trans H; rw [hy420]; with_reducible exact H2_) | (have H2_ := (Option.bind_some _ _).symm.trans H; with_reducible exact H2_) | with_reducible exact H | (rw [hy420]; exact H) | exact H
  have Ny420 := Aside0.mk hy420
  clear hy420
  by_cases c13 : x5_1.length < 4398046511104
  rotate_left
  · rw [if_neg c13] at H
    exact absurd H (by simp)
  rw [if_pos c13] at H
  have LMc13 := Aside0.mk c13
  clear c13
  obtain ⟨y423, hy423⟩ : ∃ y_ : List (S69), y_ = (x5_1 ++ [(⟨(rd_T69 l0 x11_1).f0, y420⟩ : S69)]) := ⟨_, rfl⟩
  replace H : (impl_keptExts_with_impl_copyExts_1.l0 k1 y423 l0 (l0.length : Int) (wrap64 (x11_1 + 1))) = some r := by first | (rw [hy423]; with_reducible exact H) | (have H2_ := (Option.bind_some _ _).symm.trans H; rw [hy423]; with_reducible exact H2_) | (have H2_ := (Option.bind_some _ _).symm.trans H; with_reducible exact H2_) | with_reducible exact H | (rw [hy423]; exact H) | exact H
  have Ny423 := Aside0.mk hy423
  clear hy423
  have H' := Aside0.mk H
  clear H
  try go_wp2
  have n0_ : Aside0 (Kd.S k69 69 ((w7.setCell ⟨gb415, 0, none⟩ (.int .i64 ((rd_T69 l0 x11_1).f0))).setCell ⟨gb415, 1, none⟩ (.slice A414_1 ((rd_T69 l0 x11_1).f1).length c414_1)) w.heap.size (fun k_ => k_ ≠ gb415) u5 x5_1) := ⟨by (with_reducible repeat (first | apply Kd.S_alloc | apply Kd.S_drewN | apply Kd.S_drew)); exact Kd.S_mono (Kd.S_far (p := ⟨gb415, 1, none⟩) (Kd.S_far (p := ⟨gb415, 0, none⟩) (Kd.S_mono HO_5.out (fun k_ hk => (⟨hk, hk.2⟩ : _ ∧ k_ ≠ gb415))) (fun _ hk => hk.2) (.int .i64 ((rd_T69 l0 x11_1).f0))) (fun _ hk => hk.2) (.slice A414_1 ((rd_T69 l0 x11_1).f1).length c414_1)) (fun _ hk => hk.1.2)⟩
  have n1_ : Aside0 (((w7.setCell ⟨gb415, 0, none⟩ (.int .i64 ((rd_T69 l0 x11_1).f0))).setCell ⟨gb415, 1, none⟩ (.slice A414_1 ((rd_T69 l0 x11_1).f1).length c414_1)).heap[gb415]? = some (.cells #[.int .i64 ((rd_T69 l0 x11_1).f0), .slice A414_1 ((rd_T69 l0 x11_1).f1).length c414_1] 69 (0, 0))) := ⟨pp_ BK415.out⟩
  have n2_ : Aside0 (Below w.heap.size w ((w7.setCell ⟨gb415, 0, none⟩ (.int .i64 ((rd_T69 l0 x11_1).f0))).setCell ⟨gb415, 1, none⟩ (.slice A414_1 ((rd_T69 l0 x11_1).f1).length c414_1))) := ⟨pb1_ HB.out GE415.out⟩
  (try clear HO_5)
  (try clear BK415)
  (try clear HB)
  generalize ((w7.setCell ⟨gb415, 0, none⟩ (.int .i64 ((rd_T69 l0 x11_1).f0))).setCell ⟨gb415, 1, none⟩ (.slice A414_1 ((rd_T69 l0 x11_1).f1).length c414_1)) = w14 at n0_ n1_ n2_ ⊢
  (try (rw [show w14.drewN nd = w14.drewN nd from rfl]; replace n0_ := Aside0.mk (Kd.S_drewN n0_.out nd); replace n1_ := Aside0.mk (blk_drewN n1_.out nd); replace n2_ := Aside0.mk (pw_below_drewN n2_.out nd); generalize w14.drewN nd = w14 at n0_ n1_ n2_ ⊢))
  have HO_5 := n0_
  have BK415 := n1_
  have HB := n2_
  clear n0_ n1_ n2_
  (try (rw [drewN_self w14]; generalize hq_ : World.drewN w14 _ = w14; have n0_ : Aside0 (Kd.S k69 69 w14 w.heap.size (fun k_ => k_ ≠ gb415) u5 x5_1) := ⟨by rw [← hq_]; exact (ps_ HO_5.out)⟩; have n1_ : Aside0 (w14.heap[gb415]? = some (.cells #[.int .i64 ((rd_T69 l0 x11_1).f0), .slice A414_1 ((rd_T69 l0 x11_1).f1).length c414_1] 69 (0, 0))) := ⟨by rw [← hq_]; exact (pk_ BK415.out)⟩; have n2_ : Aside0 (Below w.heap.size w w14) := ⟨by rw [← hq_]; exact (pb1_ HB.out GE415.out)⟩; clear HO_5 BK415 HB hq_; have HO_5 := n0_; have BK415 := n1_; have HB := n2_; clear n0_ n1_ n2_))
  have n0_ := Aside0.mk (Kd.S_drew HO_5.out)
  have n1_ := Aside0.mk (blk_drew BK415.out)
  have n2_ := Aside0.mk (below_drew1 HB.out)
  clear HO_5
  clear BK415
  clear HB
  have HO_5 := n0_
  have BK415 := n1_
  have HB := n2_
  clear n0_ n1_ n2_
  refine start_ (n := 11) (S := fun w' => w'.cell? ⟨gb415, 0, none⟩ = some (.int .i64 ((rd_T69 l0 x11_1).f0)) ∧ w'.cell? ⟨gb415, 1, none⟩ = some (.slice A414_1 ((rd_T69 l0 x11_1).f1).length c414_1)) (ds := []) #[false, false, false, false, false, false, false, false, false, false, false] (by kernel_rfl) rfl rfl ⟨(blk_cell BK415.out 0).trans rfl, (blk_cell BK415.out 1).trans rfl⟩ (fun hHeld => ?_); refine with_tabW impl_keptExts_with_impl_copyExts_1.tab6 impl_keptExts_with_impl_copyExts_1.bits6 (fun HT_ HW_ => ?_)
  generalize w14.drew = w15 at HO_5 BK415 HB hHeld ⊢
  refine pu_ 0 (some 19) (tf_ 1 11) HT_ ?_
  refine pu_ 1 (some 20) (tf_ 2 11) HT_ ?_
  refine pu_ 4 (some 23) #[true, true, false, false, true, false, false, false, false, false, false] HT_ ?_
  refine ta_ 2 (some 21) #[true, true, true, false, true, false, false, false, false, false, false] HT_ HW_ hHeld ?_
  refine ta_ 5 (some 24) #[true, true, true, false, true, true, false, false, false, false, false] HT_ HW_ hHeld ?_
  refine on_ 3 (some 22) (tf_ 6 11) HT_ (fun K hK => ?_)
  refine Kd.R_lit_step (Kd.int .i64) _ 3 ?hg (N := 22) ?hd (xs := ([] : List Int)) (inner := []) (ok := fun _ => True) (okp := fun _ => True) ?hr ?hp (fun _ hk => hk) trivial (Below.refl _ _) (Nat.le_refl _) (by simp) ?_; (case hd => rfl); (case hg => rfl); (case hr => first | (go_simp; done) | (go_simp; rfl)); (case hp => exact (Reps.none _ _))
  intro v418 w16 ho17 hb hg_ hnew_
  clear hg_ hnew_
  (first | rw [← Ny417.out] at ho17 | (simp only [Int.reduceToNat] at ho17; rw [← Ny417.out] at ho17))
  have n0_ := Aside0.mk (Kd.S_elder' (ps_ HO_5.out) (Kd.R_base ho17) hb)
  have n1_ := Aside0.mk (Kd.R_lower ho17 (below_size (pb1_ HB.out GE415.out)))
  have n2_ := Aside0.mk (bb_ BK415.out hb)
  have n3_ := Aside0.mk (below_step (pb1_ HB.out GE415.out) hb)
  clear HO_5
  clear BK415
  clear HB
  have HO_5 := n0_
  have HO419 := n1_
  have BK415 := n2_
  have HB := n3_
  clear n0_ n1_ n2_ n3_
  clear hb ho17
  refine hK.out _ _ ⟨(blk_cell BK415.out 0).trans rfl, (blk_cell BK415.out 1).trans rfl⟩ (fun hHeld => ?_)
  clear hK K
  refine no_ (some 22) ?_
  refine on_ 6 (some 25) (tf_ 7 11) HT_ (fun K hK => ?_)
  refine Kd.R_append_rows_step (Kd.int .i64) (w0 := w) w.heap.size (by rfl) (.tmp 22) (.tmp 24) 23 3 (.int .i64 0) 8 rfl Try.underlying23 info3 rfl (by decide) (by omega) v418 y417 ((rd_T69 l0 x11_1).f1) _ _ _ (fun _ => True) (fun _ => False) rfl rfl ?aO ?aR (fun _ _ h => h) (fun _ h => h.elim) ?aF ?aB ?aS ?aL ?_
  (case aR => exact pc_ (Kd.C_below HR414_1.out HB.out))
  (case aB => exact (pb1_ HB.out GE415.out))
  (case aF => exact (fun _ _ => trivial))
  (case aO => exact (pr_ HO419.out))
  (case aS => exact (below_size (pb1_ HB.out GE415.out)))
  (case aL => have := LMc12.out; omega)
  intro v421 w18 ho hb hg hat
  rw [← Ny420.out] at ho
  have n0_ := Aside0.mk (Kd.S_after (ok := (fun k_ => k_ ≠ gb415)) (ps_ HO_5.out) hg hat)
  have n1_ := Aside0.mk (blk_grown (g := gb415) (o := .cells #[.int .i64 ((rd_T69 l0 x11_1).f0), .slice A414_1 ((rd_T69 l0 x11_1).f1).length c414_1] 69 (0, 0)) (pk_ BK415.out) hg (Kd.R_ne HO419.out BK415.out (by decide)))
  have n2_ := Aside0.mk (hb)
  have n3_ := Aside0.mk (ho)
  clear HO_5
  clear BK415
  clear HB
  clear HO419
  have HO_5 := n0_
  have BK415 := n1_
  have HB := n2_
  have HO422 := n3_
  clear n0_ n1_ n2_ n3_
  clear ho hb hg hat
  obtain ⟨Ao19, co19, eo19⟩ := Kd.R_slice HO422.out
  (first | subst eo19 | (injection eo19 with f1_ f2_ f3_; have f4_ := f1_.symm; have f5_ := f3_.symm; clear f1_ f2_ f3_; subst f4_; subst f5_))
  refine hK.out _ _ ⟨(blk_cell BK415.out 0).trans rfl, (blk_cell BK415.out 1).trans rfl⟩ (fun hHeld => ?_)
  clear hK K
  refine no_ (some 25) ?_
  refine pu_ 7 (some 26) (tf_ 8 11) HT_ ?_
  refine on_ 8 (some 27) (tf_ 9 11) HT_ (fun K hK => ?_)
  refine value_ (w1 := ?_) (v := ?_) (by rfl) rfl ?_ ?_
  rotate_left 2
  · go_simp
    constructor
    · rfl
    · rfl
  refine hK.out _ _ ⟨(blk_cell (blk_alloc BK415.out _) 0).trans rfl, (blk_cell (blk_alloc BK415.out _) 1).trans rfl⟩ (fun hHeld => ?_)
  clear hK K
  refine no_ (some 27) ?_
  refine on_ 9 (some 28) (tf_ 10 11) HT_ (fun K hK => ?_)
  refine Kd.S_append_step k69 (w0 := w) w.heap.size (by rfl) (.tmp 19) (.tmp 27) 48 69 (.agg #[(.int .i64 0), (.slice none 0 0)]) 32 rfl Try.underlying48 info69 rfl (by decide) (by omega) u5 x5_1 (⟨(rd_T69 l0 x11_1).f0, y420⟩ : S69) [.int .i64 ((rd_T69 l0 x11_1).f0), .slice Ao19 y420.length co19] (fun k_ => k_ ≠ gb415) (fun k_ => some k_ = (.slice Ao19 y420.length co19 : Value).ownBlock) rfl rfl ?aP (fun k_ hk_ => ((Kd.R_mono (ok' := fun k_ => ((fun k_ => k_ ≠ gb415)) k_ ∧ some k_ ≠ (u5 : Value).ownBlock) (Kd.R_types (Kd.R_apart' (HO422.out) (Kd.S_typed HO_5.out) (by decide)) BK415.out (by decide)) (fun k_ hk => ⟨hk.2, hk.1.2⟩))).1 k_ hk_.symm) ?aF ?aO ?aB ?aS ?aL ?_
  (case aP => exact k69_mkM _ _ _ (⟨(rd_T69 l0 x11_1).f0, y420⟩ : S69) (Kd.R_mono (Kd.R_tight rfl (Kd.R_mono (ok' := fun k_ => ((fun k_ => k_ ≠ gb415)) k_ ∧ some k_ ≠ (u5 : Value).ownBlock) (Kd.R_types (Kd.R_apart' (HO422.out) (Kd.S_typed HO_5.out) (by decide)) BK415.out (by decide)) (fun k_ hk => ⟨hk.2, hk.1.2⟩))) (fun _ h_ => h_)))
  (case aB => exact (pb1_ HB.out GE415.out))
  (case aF => exact (fun k_ hk => Kd.freshB (g := gb415) (o := .cells #[.int .i64 ((rd_T69 l0 x11_1).f0), .slice A414_1 ((rd_T69 l0 x11_1).f1).length c414_1] 69 (0, 0)) (pk_ BK415.out) k_ hk))
  (case aO => exact (by (with_reducible repeat (first | apply Kd.S_alloc | apply Kd.S_drewN | apply Kd.S_drew)); exact Kd.S_mono HO_5.out (fun k_ hk => ⟨hk.1, fun e_ => hk.2 e_⟩)))
  (case aS => exact (below_size (pb1_ HB.out GE415.out)))
  (case aL => have := LMc13.out; omega)
  intro v424 w20 ho hb hg hat
  rw [← Ny423.out] at ho
  have n0_ := Aside0.mk (blk_grown (g := gb415) (o := .cells #[.int .i64 ((rd_T69 l0 x11_1).f0), .slice A414_1 ((rd_T69 l0 x11_1).f1).length c414_1] 69 (0, 0)) (pk_ BK415.out) hg (Kd.S_away HO_5.out (fun _ hk => hk.1)))
  have n1_ := Aside0.mk (hb)
  have n2_ := Aside0.mk (ho)
  clear BK415
  clear HB
  clear HO_5
  clear HO422
  have BK415 := n0_
  have HB := n1_
  have HO425 := n2_
  clear n0_ n1_ n2_
  clear ho hb hg hat
  refine hK.out _ _ ⟨(blk_cell BK415.out 0).trans rfl, (blk_cell BK415.out 1).trans rfl⟩ (fun hHeld => ?_)
  clear hK K
  refine no_ (some 28) ?_
  refine pu_ 10 (some 5) (tf_ 11 11) HT_ ?_
  refine done_ (done_of HT_.out (by kernel_rfl)) ?_
  try go_wp2
  go_roundg k1
  case measure => have := HK1.out; omega
  case rel => exact ⟨(y423), (wrap64 (x11_1 + 1)), el_, H', ⟨by have := HK1.out; omega⟩, ⟨ps_ (Kd.S_mono HO425.out (fun _ hk => trivial))⟩, ⟨pb1_ HB.out GE415.out⟩⟩

/-! ### impl_copyExts: function 92 -/
def impl_copyExts.f (k : Nat) (l0 : List (S69)) : Option ((List (S69))) := (impl_keptExts_with_impl_copyExts_1.f k l0).bind fun t426 => (some t426)
theorem impl_copyExts.mono : ∀ a0 k, LeO (impl_copyExts.f k a0) (impl_copyExts.f (k + 1) a0) := by
  intro a0 k
  unfold impl_copyExts.f
  repeat' first
      | (with_reducible exact impl_keptExts_with_impl_copyExts_1.mono _ _)
      | (with_reducible exact LeO.refl _)
      | (with_reducible exact LeO.none _)
      | (with_reducible refine LeO.ite ?_ ?_)
      | (with_reducible refine LeO.bind ?_ (fun _ => ?_))
      | exact impl_keptExts_with_impl_copyExts_1.mono _ _
      | exact LeO.none _
      | refine LeO.ite ?_ ?_
      | refine LeO.bind ?_ (fun _ => ?_)
set_option maxHeartbeats 8000000 in
set_option maxRecDepth 100000 in
theorem impl_copyExts.calls (k : Nat) (A0 : Option Addr) (c0 : Nat) (l0 : List (S69)) (r : List (S69)) (w : World) (hr0 : Kd.C k69 w A0 l0.length l0) (hc0 : l0.length ≤ c0) (h : impl_copyExts.f k l0 = some r) :
    Calls Try.prog 92 #[.slice A0 l0.length c0] w fun e w' => ∃ v0_ : Value, e = .returned (v0_) ∧ Kd.S k69 69 w' w.heap.size (fun _ => True) v0_ r ∧ Below w.heap.size w w' := by
  have HR0 := Aside0.mk hr0
  have HC0 := Aside0.mk hc0
  clear hr0 hc0
  have HB := Aside0.mk (Below.refl w.heap.size w)
  have H : ((impl_keptExts_with_impl_copyExts_1.f k l0).bind fun t426 => (some t426)) = some r := h
  clear h
  replace H := Option.bind_eq_some_iff.mp H
  obtain ⟨t426, A20, H⟩ := H
  replace H : (some t426) = some r := H
  have A2 := Aside0.mk A20
  clear A20
  obtain rfl := Option.some.inj H
  go_enter Try.func92, Try.ntmps92
  go_wp2_with (first | (go_at_call 95; (with_reducible refine (impl_keptExts_with_impl_copyExts_1.calls k _ _ l0 t426 _ ?side1 ?side2 A2.out).mono ?_); (case side1 => exact pc_ HR0.out); (case side2 => exact HC0.out); rintro e w3 ⟨v427, rfl, ho0, hb⟩; have n0_ := Aside0.mk (Kd.S_lower ho0 (below_size (pb_ HB.out))); have n1_ := Aside0.mk (below_step (pb_ HB.out) hb); clear HB; have HO428 := n0_; have HB := n1_; clear n0_ n1_; (try clear hb); (try clear hb2); (try clear hk); (try clear hi); (try clear ho0)))
  go_ret
  exact ⟨_, er_, ps_ HO428.out, pb_ HB.out⟩

/-! ### impl_copyHello: function 85 -/
def impl_copyHello.f (k : Nat) (l0_0 : List Int) (l0_1 : List (S69)) : Option (List Int × (List (S69))) := (some (([] : List Int) : List Int)).bind fun y431 => (if y431.length + l0_0.length < 17592186044416 then ((impl_copyExts.f k l0_1).bind fun t437 => (some ((y431 ++ l0_0), t437))) else (none))
theorem impl_copyHello.mono : ∀ a0 a1 k, LeO (impl_copyHello.f k a0 a1) (impl_copyHello.f (k + 1) a0 a1) := by
  intro a0 a1 k
  unfold impl_copyHello.f
  repeat' first
      | (with_reducible exact impl_copyExts.mono _ _)
      | (with_reducible exact LeO.refl _)
      | (with_reducible exact LeO.none _)
      | (with_reducible refine LeO.ite ?_ ?_)
      | (with_reducible refine LeO.bind ?_ (fun _ => ?_))
      | exact impl_copyExts.mono _ _
      | exact LeO.none _
      | refine LeO.ite ?_ ?_
      | refine LeO.bind ?_ (fun _ => ?_)
def impl_copyHello.T1 : Bool × List (List Nat × List Nat) := (true, [([], []), ([], []), ([1], [1]), ([0, 2], [0, 2]), ([], []), ([4], [4]), ([5, 3], [5]), ([3, 6], [3, 6]), ([7, 6, 0, 1, 2, 3, 4, 5, 6, 7], [7])])
def impl_copyHello.B1 : List Nat := [0, 0, 2, 7, 0, 16, 63, 127, 255]
theorem impl_copyHello.tab1 : rtab .any (opsOf Try.f85 1) = impl_copyHello.T1 := by kernel_rfl
theorem impl_copyHello.bits1 : waitsOk impl_copyHello.T1.2 impl_copyHello.B1 = true := by kernel_rfl
set_option maxHeartbeats 8000000 in
set_option maxRecDepth 100000 in
theorem impl_copyHello.calls (k : Nat) (A0_0 : Option Addr) (c0_0 : Nat) (l0_0 : List Int) (A0_1 : Option Addr) (c0_1 : Nat) (l0_1 : List (S69)) (r1 : List Int) (r2 : List (S69)) (w : World) (hr0_0 : Kd.C (Kd.int .i64) w A0_0 l0_0.length l0_0) (hc0_0 : l0_0.length ≤ c0_0) (hr0_1 : Kd.C k69 w A0_1 l0_1.length l0_1) (hc0_1 : l0_1.length ≤ c0_1) (h : impl_copyHello.f k l0_0 l0_1 = some (r1, r2)) :
    Calls Try.prog 85 #[.agg #[.slice A0_0 l0_0.length c0_0, .slice A0_1 l0_1.length c0_1]] w fun e w' => ∃ v0_ v1_ : Value, e = .returned (.agg #[v0_, v1_]) ∧ Kd.R (Kd.int .i64) 3 w' w.heap.size (fun _ => True) v0_ r1 ∧ Kd.S k69 69 w' w.heap.size (fun k_ => some k_ ≠ (v0_ : Value).ownBlock) v1_ r2 ∧ Below w.heap.size w w' := by
  have hu63 := Try.underlying63
  have HR0_0 := Aside0.mk hr0_0
  have HC0_0 := Aside0.mk hc0_0
  clear hr0_0 hc0_0
  have HR0_1 := Aside0.mk hr0_1
  have HC0_1 := Aside0.mk hc0_1
  clear hr0_1 hc0_1
  have HB := Aside0.mk (Below.refl w.heap.size w)
  have H : ((some (([] : List Int) : List Int)).bind fun y431 => (if y431.length + l0_0.length < 17592186044416 then ((impl_copyExts.f k l0_1).bind fun t437 => (some ((y431 ++ l0_0), t437))) else (none))) = some (r1, r2) := h
  clear h
  obtain ⟨y431, hy431⟩ : ∃ y_ : List Int, y_ = (([] : List Int)) := ⟨_, rfl⟩
  replace H : (if y431.length + l0_0.length < 17592186044416 then ((impl_copyExts.f k l0_1).bind fun t437 => (some ((y431 ++ l0_0), t437))) else (none)) = some (r1, r2) := by first | (rw [hy431]; with_reducible exact H) | (have H2_ := (Option.bind_some _ _).symm.trans H; rw [hy431]; with_reducible exact H2_) | (have H2_ := (Option.bind_some _ _).symm.trans H; with_reducible exact H2_) | with_reducible exact H | (rw [hy431]; exact H) | exact H
  have Ny431 := Aside0.mk hy431
  clear hy431
  by_cases c2 : y431.length + l0_0.length < 17592186044416
  rotate_left
  · rw [if_neg c2] at H
    exact absurd H (by simp)
  rw [if_pos c2] at H
  have LMc2 := Aside0.mk c2
  clear c2
  obtain ⟨y434, hy434⟩ : ∃ y_ : List Int, y_ = (y431 ++ l0_0) := ⟨_, rfl⟩
  replace H : ((impl_copyExts.f k l0_1).bind fun t437 => (some (y434, t437))) = some (r1, r2) := by first | (rw [hy434]; with_reducible exact H) | (have H2_ := (Option.bind_some _ _).symm.trans H; rw [hy434]; with_reducible exact H2_) | (have H2_ := (Option.bind_some _ _).symm.trans H; with_reducible exact H2_) | with_reducible exact H | (rw [hy434]; exact H) | exact H
  have Ny434 := Aside0.mk hy434
  clear hy434
  replace H := Option.bind_eq_some_iff.mp H
  obtain ⟨t437, A30, H⟩ := H
  replace H : (some (y434, t437)) = some (r1, r2) := H
  have A3 := Aside0.mk A30
  clear A30
  simp only [Option.some.injEq, Prod.mk.injEq] at H
  obtain ⟨rfl, rfl⟩ := H
  go_enter Try.func85, Try.ntmps85
  try go_wp2_with (first | ((with_reducible refine gate_dst (N := 1) rfl ?_); refine box_event ?hg (N := 1) ?hd (cs := #[.slice A0_0 l0_0.length c0_0, .slice A0_1 l0_1.length c0_1]) (t := 63) ?hr ?_; (case hd => rfl); (case hg => rfl); (case hr => first | (go_simp; done) | (go_simp; rfl)); intro gb429 hg w4 hbox hb; have n0_ := Aside0.mk (below_step (pb_ HB.out) hb); have n1_ := Aside0.mk (hbox); have n2_ := Aside0.mk ((by rw [hg]; exact (below_size (pb_ HB.out)) : w.heap.size ≤ gb429)); have n3_ := Aside0.mk ((by rw [hg]; exact (below_size (pb_ HB.out)) : w.heap.size ≤ gb429)); clear HB; have HB := n0_; have BK429 := n1_; have GW429 := n2_; have GE429 := n3_; clear n0_ n1_ n2_ n3_; clear hb hbox hg) | ((with_reducible refine gate_dst (N := 2) rfl ?_); refine box_event ?hg (N := 2) ?hd (cs := #[.slice none 0 0, .slice none 0 0]) (t := 63) ?hr ?_; (case hd => rfl); (case hg => rfl); (case hr => first | (go_simp; done) | (go_simp; rfl)); intro gb430 hg w5 hbox hb; have n0_ := Aside0.mk (bb_ BK429.out hb); have n1_ := Aside0.mk (below_step (pb1_ HB.out GE429.out) hb); have n2_ := Aside0.mk (hbox); have n3_ := Aside0.mk ((by rw [hg]; exact (below_size (pb1_ HB.out GE429.out)) : w.heap.size ≤ gb430)); have n4_ := Aside0.mk ((by rw [hg]; exact (below_size (pb1_ HB.out GE429.out)) : w.heap.size ≤ gb430)); have n5_ := Aside0.mk ((by rw [hg]; exact Nat.ne_of_lt (blk_lt (pk_ BK429.out)) : gb429 ≠ gb430)); have n6_ := Aside0.mk ((by rw [hg]; exact Nat.ne_of_gt (blk_lt (pk_ BK429.out)) : gb430 ≠ gb429)); clear BK429; clear HB; have BK429 := n0_; have HB := n1_; have BK430 := n2_; have GW430 := n3_; have GE430 := n4_; have NB429_430 := n5_; have NB430_429 := n6_; clear n0_ n1_ n2_ n3_ n4_ n5_ n6_; clear hb hbox hg))
  have n0_ := Aside0.mk (blk_drew BK429.out)
  have n1_ := Aside0.mk (blk_drew BK430.out)
  have n2_ := Aside0.mk (below_drew1 HB.out)
  clear BK429
  clear BK430
  clear HB
  have BK429 := n0_
  have BK430 := n1_
  have HB := n2_
  clear n0_ n1_ n2_
  refine start_ (n := 9) (S := fun w' => w'.cell? ⟨gb429, 0, none⟩ = some (.slice A0_0 l0_0.length c0_0) ∧ w'.cell? ⟨gb429, 1, none⟩ = some (.slice A0_1 l0_1.length c0_1)) (ds := []) #[false, false, false, false, false, false, false, false, false] (by kernel_rfl) rfl rfl ⟨(blk_cell BK429.out 0).trans rfl, (blk_cell BK429.out 1).trans rfl⟩ (fun hHeld => ?_); refine with_tabW impl_copyHello.tab1 impl_copyHello.bits1 (fun HT_ HW_ => ?_)
  generalize w5.drew = w6 at BK429 BK430 HB hHeld ⊢
  refine pu_ 1 (some 4) #[false, true, false, false, false, false, false, false, false] HT_ ?_
  refine pu_ 4 (some 7) #[false, true, false, false, true, false, false, false, false] HT_ ?_
  refine ta_ 2 (some 5) #[false, true, true, false, true, false, false, false, false] HT_ HW_ hHeld ?_
  refine ta_ 5 (some 8) #[false, true, true, false, true, true, false, false, false] HT_ HW_ hHeld ?_
  refine on_ 0 (some 3) #[true, true, true, false, true, true, false, false, false] HT_ (fun K hK => ?_)
  refine Kd.R_lit_step (Kd.int .i64) _ 3 ?hg (N := 3) ?hd (xs := ([] : List Int)) (inner := []) (ok := fun _ => True) (okp := fun _ => True) ?hr ?hp (fun _ hk => hk) trivial (Below.refl _ _) (Nat.le_refl _) (by simp) ?_; (case hd => rfl); (case hg => rfl); (case hr => first | (go_simp; done) | (go_simp; rfl)); (case hp => exact (Reps.none _ _))
  intro v432 w7 ho8 hb hg_ hnew_
  clear hg_ hnew_
  (first | rw [← Ny431.out] at ho8 | (simp only [Int.reduceToNat] at ho8; rw [← Ny431.out] at ho8))
  have n0_ := Aside0.mk (Kd.R_lower ho8 (below_size (pb2_ HB.out GE429.out GE430.out)))
  have n1_ := Aside0.mk (bb_ BK429.out hb)
  have n2_ := Aside0.mk (bb_ BK430.out hb)
  have n3_ := Aside0.mk (below_step (pb2_ HB.out GE429.out GE430.out) hb)
  clear BK429
  clear BK430
  clear HB
  have HO433 := n0_
  have BK429 := n1_
  have BK430 := n2_
  have HB := n3_
  clear n0_ n1_ n2_ n3_
  clear hb ho8
  refine hK.out _ _ ⟨(blk_cell BK429.out 0).trans rfl, (blk_cell BK429.out 1).trans rfl⟩ (fun hHeld => ?_)
  clear hK K
  refine no_ (some 3) ?_
  refine on_ 3 (some 6) (tf_ 6 9) HT_ (fun K hK => ?_)
  refine Kd.R_append_rows_step (Kd.int .i64) (w0 := w) w.heap.size (by rfl) (.tmp 3) (.tmp 5) 23 3 (.int .i64 0) 8 rfl Try.underlying23 info3 rfl (by decide) (by omega) v432 y431 l0_0 _ _ _ (fun _ => True) (fun _ => False) rfl rfl ?aO ?aR (fun _ _ h => h) (fun _ h => h.elim) ?aF ?aB ?aS ?aL ?_
  (case aR => exact pc_ (Kd.C_below HR0_0.out HB.out))
  (case aB => exact (pb2_ HB.out GE429.out GE430.out))
  (case aF => exact (fun _ _ => trivial))
  (case aO => exact (pr_ HO433.out))
  (case aS => exact (below_size (pb2_ HB.out GE429.out GE430.out)))
  (case aL => have := LMc2.out; omega)
  intro v435 w9 ho hb hg hat
  rw [← Ny434.out] at ho
  have n0_ := Aside0.mk (blk_grown (g := gb429) (o := .cells #[.slice A0_0 l0_0.length c0_0, .slice A0_1 l0_1.length c0_1] 63 (0, 0)) (pk_ BK429.out) hg (Kd.R_ne HO433.out BK429.out (by decide)))
  have n1_ := Aside0.mk (blk_grown (g := gb430) (o := .cells #[.slice none 0 0, .slice none 0 0] 63 (0, 0)) (pk_ BK430.out) hg (Kd.R_ne HO433.out BK430.out (by decide)))
  have n2_ := Aside0.mk (hb)
  have n3_ := Aside0.mk (ho)
  clear BK429
  clear BK430
  clear HB
  clear HO433
  have BK429 := n0_
  have BK430 := n1_
  have HB := n2_
  have HO436 := n3_
  clear n0_ n1_ n2_ n3_
  clear ho hb hg hat
  refine hK.out _ _ ⟨(blk_cell BK429.out 0).trans rfl, (blk_cell BK429.out 1).trans rfl⟩ (fun hHeld => ?_)
  clear hK K
  refine no_ (some 6) ?_
  refine on_ 6 (some 9) (tf_ 7 9) HT_ (fun K hK => ?_)
  refine goes_ Try.func92 (by kernel_rfl) rfl #[.slice A0_1 l0_1.length c0_1] (by rfl) rfl rfl mp_ ?_
  with_reducible refine (impl_copyExts.calls k _ _ l0_1 t437 _ ?side1 ?side2 A3.out).mono ?_
  (case side1 => exact pc_ (Kd.C_below HR0_1.out HB.out))
  (case side2 => exact HC0_1.out)
  rintro e w10 ⟨v438, rfl, ho0, hb⟩
  refine ⟨_, rfl, ?_⟩
  have n0_ := Aside0.mk (Kd.R_below (pr_ HO436.out) hb)
  have n1_ := Aside0.mk (Kd.S_lower (Kd.S_new' ho0 (Kd.R_lt (pr_ HO436.out))) (below_size (pb2_ HB.out GE429.out GE430.out)))
  have n2_ := Aside0.mk (bb_ BK429.out hb)
  have n3_ := Aside0.mk (bb_ BK430.out hb)
  have n4_ := Aside0.mk (below_step (pb2_ HB.out GE429.out GE430.out) hb)
  clear HO436
  clear BK429
  clear BK430
  clear HB
  have HO436 := n0_
  have HO439 := n1_
  have BK429 := n2_
  have BK430 := n3_
  have HB := n4_
  clear n0_ n1_ n2_ n3_ n4_
  (try clear hb)
  (try clear hb2)
  (try clear hk)
  (try clear hi)
  (try clear ho0)
  obtain ⟨Ao11, co11, eo11⟩ := Kd.S_slice HO439.out
  (first | subst eo11 | (injection eo11 with f1_ f2_ f3_; have f4_ := f1_.symm; have f5_ := f3_.symm; clear f1_ f2_ f3_; subst f4_; subst f5_))
  obtain ⟨Ao12, co12, eo12⟩ := Kd.R_slice HO436.out
  (first | subst eo12 | (injection eo12 with f1_ f2_ f3_; have f4_ := f1_.symm; have f5_ := f3_.symm; clear f1_ f2_ f3_; subst f4_; subst f5_))
  refine hK.out _ _ ⟨(blk_cell BK429.out 0).trans rfl, (blk_cell BK429.out 1).trans rfl⟩ (fun hHeld => ?_)
  clear hK K
  refine no_ (some 9) ?_
  refine pu_ 7 (some 10) (tf_ 8 9) HT_ ?_
  refine on_ 8 (none) (tf_ 9 9) HT_ (fun K hK => ?_)
  have hs13 : w10.cell? ⟨gb430, 0, none⟩ = some (.slice none 0 0) := (blk_cell BK430.out 0).trans rfl
  have hfs13 := blk_frozen BK430.out 0
  have hns13_0 := NB429_430.out
  have hms13_0 := NB430_429.out
  have hs14 : w10.cell? ⟨gb430, 1, none⟩ = some (.slice none 0 0) := (blk_cell BK430.out 1).trans rfl
  have hfs14 := blk_frozen BK430.out 1
  have hns14_0 := NB429_430.out
  have hms14_0 := NB430_429.out
  refine skip_ (w1 := ?_) (by rfl) rfl ?_ ?_
  rotate_left
  · go_simp
    rfl
  refine hK.out _ _ ⟨((cell_far (p := ⟨gb430, _, none⟩) NB429_430.out _).trans (((cell_far (p := ⟨gb430, _, none⟩) NB429_430.out _).trans (hHeld.1)))), ((cell_far (p := ⟨gb430, _, none⟩) NB429_430.out _).trans (((cell_far (p := ⟨gb430, _, none⟩) NB429_430.out _).trans (hHeld.2))))⟩ (fun hHeld => ?_)
  clear hK K
  refine done_ (done_of HT_.out (by kernel_rfl)) ?_
  try go_wp2
  refine bodyPost_ret (results_cell_row rfl _ _ gb430 63 #[.slice Ao12 y434.length co12, .slice Ao11 t437.length co11] (0, 0) _ rfl (pp_ BK430.out) Try.underlying63 rfl (by kernel_rfl)) rfl ?_
  exact ⟨_, _, er_, pr_ (Kd.R_mono (rf2_ HO436.out BK430.out) (fun _ hk => trivial)), ps_ (Kd.S_mono (Kd.S_far (p := ⟨gb430, 1, none⟩) (Kd.S_far (p := ⟨gb430, 0, none⟩) (Kd.S_types HO439.out BK430.out (by decide)) (fun _ hk => hk.2) (.slice Ao12 y434.length co12)) (fun _ hk => hk.2) (.slice Ao11 t437.length co11)) (fun _ hk => hk.1.2)), pb2_ HB.out GE429.out GE430.out⟩

/-! ### slices_Max_int_int: function 104 -/
def slices_Max_int_int.l0 : Nat → List Int → Int → Int → Option (Int)
  | 0, _, _, _ => none
  | k + 1, x0, x3, x4 => if x4 < (x0.length : Int) then (if 0 ≤ x4 then (slices_Max_int_int.l0 k x0 (mx x3 (rd x0 x4)) (wrap64 (x4 + 1))) else (none)) else (some x3)
def slices_Max_int_int.f (k : Nat) (l0 : List Int) : Option (Int) := if (l0.length : Int) < 1 then (none) else (if 0 < (l0.length : Int) then (slices_Max_int_int.l0 k l0 (rd l0 0) 1) else (none))
theorem slices_Max_int_int.mono_l : ∀ k, (∀ y0 y1 y2, LeO (slices_Max_int_int.l0 k y0 y1 y2) (slices_Max_int_int.l0 (k + 1) y0 y1 y2))
  | 0 => fun _ _ _ r h => by simp [slices_Max_int_int.l0] at h
  | k + 1 => by
    have ih0 := slices_Max_int_int.mono_l k
    · intro y0 y1 y2
      unfold slices_Max_int_int.l0
      repeat' first
      | (with_reducible exact ih0 _ _ _)
      | (with_reducible exact LeO.refl _)
      | (with_reducible exact LeO.none _)
      | (with_reducible refine LeO.ite ?_ ?_)
      | (with_reducible refine LeO.bind ?_ (fun _ => ?_))
      | exact ih0 _ _ _
      | exact LeO.none _
      | refine LeO.ite ?_ ?_
      | refine LeO.bind ?_ (fun _ => ?_)
theorem slices_Max_int_int.mono : ∀ a0 k, LeO (slices_Max_int_int.f k a0) (slices_Max_int_int.f (k + 1) a0) := by
  intro a0 k
  have ih0 := slices_Max_int_int.mono_l k
  unfold slices_Max_int_int.f
  repeat' first
      | (with_reducible exact ih0 _ _ _)
      | (with_reducible exact LeO.refl _)
      | (with_reducible exact LeO.none _)
      | (with_reducible refine LeO.ite ?_ ?_)
      | (with_reducible refine LeO.bind ?_ (fun _ => ?_))
      | exact ih0 _ _ _
      | exact LeO.none _
      | refine LeO.ite ?_ ?_
      | refine LeO.bind ?_ (fun _ => ?_)
set_option maxHeartbeats 8000000 in
set_option maxRecDepth 100000 in
theorem slices_Max_int_int.calls (k : Nat) (A0 : Option Addr) (c0 : Nat) (l0 : List Int) (r : Int) (w : World) (hr0 : Kd.C (Kd.int .i64) w A0 l0.length l0) (hc0 : l0.length ≤ c0) (h : slices_Max_int_int.f k l0 = some r) :
    Calls Try.prog 104 #[.slice A0 l0.length c0] w fun e w' => e = .returned (.int .i64 r) ∧ Below w.heap.size w w' := by
  have HR0 := Aside0.mk hr0
  have HC0 := Aside0.mk hc0
  clear hr0 hc0
  have HB := Aside0.mk (Below.refl w.heap.size w)
  have H : (if (l0.length : Int) < 1 then (none) else (if 0 < (l0.length : Int) then (slices_Max_int_int.l0 k l0 (rd l0 0) 1) else (none))) = some r := h
  clear h
  by_cases c2 : (l0.length : Int) < 1
  · rw [if_pos c2] at H
    exact absurd H (by simp)
  rw [if_neg c2] at H
  have c2b0 : decide ((l0.length : Int) < 1) = false := decide_eq_false c2
  have c2b1 : decide (l0.length < 1) = false := decide_eq_false (by omega)
  clear c2
  by_cases c3 : 0 < (l0.length : Int)
  rotate_left
  · rw [if_neg c3] at H
    exact absurd H (by simp)
  rw [if_pos c3] at H
  have c3b0 : decide (0 < (l0.length : Int)) = true := decide_eq_true c3
  have c3b1 : decide (0 < l0.length) = true := decide_eq_true (by omega)
  clear c3
  have H' := Aside0.mk H
  clear H
  have p440 : 0 ≤ (0 : Int) := (by omega)
  have q440 : 0 < (l0.length : Int) := dt_
  obtain ⟨ad440, e440, hx440_0⟩ := Kd.at_int HR0.out 0 p440 q440
  cases e440
  have qi440 : (0 < l0.length) = True := eq_true (by omega)
  (try rw [show ((0 : Int)).toNat = 0 from rfl] at hx440_0)
  (try rw [Addr.add_zero'] at hx440_0)
  replace p440 := eq_true p440
  replace q440 := eq_true q440
  go_enter Try.func104, Try.ntmps104
  go_wp2
  go_loopg [3, 4] k (fun kq v3 v4 w' => ∃ (x3_1 : Int) (x4_1 : Int), v3 = .int .i64 x3_1 ∧ v4 = .int .i64 x4_1 ∧ Aside0 (slices_Max_int_int.l0 kq l0 x3_1 x4_1 = some r) ∧ Aside0 (kq ≤ k) ∧ Aside0 (Below w.heap.size w w'))
  case atStart => exact ⟨(rd l0 0), (1), el_, el_, H', ⟨Nat.le_refl _⟩, ⟨pb_ HB.out⟩⟩
  clear H'
  try clear c1
  try clear c2
  try clear c2b0
  try clear c2b1
  try clear p2
  try clear c3
  try clear c3b0
  try clear c3b1
  try clear hx440_0
  try clear p440
  try clear q440
  obtain ⟨x3_1, x4_1, rfl, rfl, HA, HK1, HB⟩ := hrel
  rcases gk with _ | k1
  · exact absurd HA.out (by simp [slices_Max_int_int.l0])
  have H := HA.out
  clear HA
  simp only [slices_Max_int_int.l0] at H
  by_cases c4 : x4_1 < (l0.length : Int)
  rotate_left
  · rw [if_neg c4] at H
    have c4b0 : decide (x4_1 < (l0.length : Int)) = false := decide_eq_false c4
    clear c4
    obtain rfl := Option.some.inj H
    go_wp2
    go_ret
    exact ⟨er_, pb_ HB.out⟩
  rw [if_pos c4] at H
  have c4b0 : decide (x4_1 < (l0.length : Int)) = true := decide_eq_true c4
  clear c4
  by_cases c5 : 0 ≤ x4_1
  rotate_left
  · rw [if_neg c5] at H
    exact absurd H (by simp)
  rw [if_pos c5] at H
  have c5b0 : decide (0 ≤ x4_1) = true := decide_eq_true c5
  clear c5
  obtain ⟨ji6, hji6⟩ : ∃ j_ : Int, (mx x3_1 (rd l0 x4_1)) = j_ := ⟨_, rfl⟩
  replace H : (slices_Max_int_int.l0 k1 l0 ji6 (wrap64 (x4_1 + 1))) = some r := by first | (rw [hji6] at H; exact H) | (simp only [hji6] at H ⊢; exact H)
  have hji6_ : (if x3_1 < (rd l0 x4_1) then (rd l0 x4_1) else x3_1) = ji6 := hji6
  have H' := Aside0.mk H
  clear H
  have p441 : 0 ≤ (x4_1 : Int) := dt_
  have q441 : x4_1 < (l0.length : Int) := dt_
  obtain ⟨ad441, e441, hx441_0⟩ := Kd.at_int HR0.out x4_1 p441 q441
  obtain rfl : ad440 = ad441 := (by injection e441)
  replace hx441_0 := (HB.out.cell (World.block_lt_of_cell? w _ hx441_0)).trans hx441_0
  replace p441 := eq_true p441
  replace q441 := eq_true q441
  go_wp2
  go_roundg k1
  case measure => have := HK1.out; omega
  case rel => exact ⟨(ji6), (wrap64 (x4_1 + 1)), (by first | rfl | (simp; done) | (simp only [← hji6] <;> (first | rfl | simp)) | (simp [*]; done)), el_, H', ⟨by have := HK1.out; omega⟩, ⟨pb_ HB.out⟩⟩

/-! ### impl_loses_1: function 100014 -/
def impl_loses_1.f (k : Nat) (a0_0 : Int) (l0_1 : List Int) (a1_0 : Int) (l1_1 : List Int) (l1_2 : List Int) (a1_3 : Bool) : Option (Bool) := (slices_Contains_int_int.f k l1_1 a0_0).bind fun t443 => (if t443 = true then (some true) else (if a1_3 = true then ((slices_Contains_int_int.f k l1_2 a0_0).bind fun t444 => (if t444 = true then (some false) else ((impl_InRange.f a0_0 1 3).bind fun t445 => (some (!t445))))) else (some false)))
theorem impl_loses_1.mono : ∀ a0 a1 a2 a3 a4 a5 k, LeO (impl_loses_1.f k a0 a1 a2 a3 a4 a5) (impl_loses_1.f (k + 1) a0 a1 a2 a3 a4 a5) := by
  intro a0 a1 a2 a3 a4 a5 k
  unfold impl_loses_1.f
  repeat' first
      | (with_reducible exact slices_Contains_int_int.mono _ _ _)
      | (with_reducible exact LeO.refl _)
      | (with_reducible exact LeO.none _)
      | (with_reducible refine LeO.ite ?_ ?_)
      | (with_reducible refine LeO.bind ?_ (fun _ => ?_))
      | exact slices_Contains_int_int.mono _ _ _
      | exact LeO.none _
      | refine LeO.ite ?_ ?_
      | refine LeO.bind ?_ (fun _ => ?_)
set_option maxHeartbeats 8000000 in
set_option maxRecDepth 100000 in
theorem impl_loses_1.calls (k : Nat) (a0_0 : Int) (A0_1 : Option Addr) (c0_1 : Nat) (l0_1 : List Int) (B1 : Nat) (a1_0 : Int) (A1_1 : Option Addr) (c1_1 : Nat) (l1_1 : List Int) (A1_2 : Option Addr) (c1_2 : Nat) (l1_2 : List Int) (a1_3 : Bool) (r : Bool) (w : World) (hr0_1 : Kd.C (Kd.int .i64) w A0_1 l0_1.length l0_1) (hc0_1 : l0_1.length ≤ c0_1) (hr1_1 : Kd.C (Kd.int .i64) w A1_1 l1_1.length l1_1) (hc1_1 : l1_1.length ≤ c1_1) (hr1_2 : Kd.C (Kd.int .i64) w A1_2 l1_2.length l1_2) (hc1_2 : l1_2.length ≤ c1_2) (hbv1 : w.heap[B1]? = some (.cells #[.int .i64 a1_0, .slice A1_1 l1_1.length c1_1, .slice A1_2 l1_2.length c1_2, .bool a1_3] 50 (0, 0))) (h : impl_loses_1.f k a0_0 l0_1 a1_0 l1_1 l1_2 a1_3 = some r) :
    Calls Try.prog 106 #[.agg #[.int .i64 a0_0, .slice A0_1 l0_1.length c0_1], .pointer (some ⟨B1, 0, none⟩)] w fun e w' => e = .returned (.bool r) ∧ Below w.heap.size w w' := by
  have hu69 := Try.underlying69
  have HR0_1 := Aside0.mk hr0_1
  have HC0_1 := Aside0.mk hc0_1
  clear hr0_1 hc0_1
  have HR1_1 := Aside0.mk hr1_1
  have HC1_1 := Aside0.mk hc1_1
  clear hr1_1 hc1_1
  have HR1_2 := Aside0.mk hr1_2
  have HC1_2 := Aside0.mk hc1_2
  clear hr1_2 hc1_2
  have BK1 := Aside0.mk hbv1
  clear hbv1
  have HB := Aside0.mk (Below.refl w.heap.size w)
  have H : ((slices_Contains_int_int.f k l1_1 a0_0).bind fun t443 => (if t443 = true then (some true) else (if a1_3 = true then ((slices_Contains_int_int.f k l1_2 a0_0).bind fun t444 => (if t444 = true then (some false) else ((impl_InRange.f a0_0 1 3).bind fun t445 => (some (!t445))))) else (some false)))) = some r := h
  clear h
  have HS_ := Aside0.mk H
  clear H
  go_enter Try.func106, Try.ntmps106
  go_upto_region 1 with (first | ((with_reducible refine gate_dst (N := 2) rfl ?_); refine box_event ?hg (N := 2) ?hd (cs := #[.int .i64 a0_0, .slice A0_1 l0_1.length c0_1]) (t := 69) ?hr ?_; (case hd => rfl); (case hg => rfl); (case hr => first | (go_simp; done) | (go_simp; rfl)); intro gb442 hg w3 hbox hb; have n0_ := Aside0.mk (bb_ BK1.out hb); have n1_ := Aside0.mk (below_step (pb_ HB.out) hb); have n2_ := Aside0.mk (hbox); have n3_ := Aside0.mk ((by rw [hg]; exact (below_size (pb_ HB.out)) : w.heap.size ≤ gb442)); have n4_ := Aside0.mk ((by rw [hg]; exact (below_size (pb_ HB.out)) : w.heap.size ≤ gb442)); have n5_ := Aside0.mk ((by rw [hg]; exact Nat.ne_of_lt (blk_lt (pk_ BK1.out)) : B1 ≠ gb442)); have n6_ := Aside0.mk ((by rw [hg]; exact Nat.ne_of_gt (blk_lt (pk_ BK1.out)) : gb442 ≠ B1)); clear BK1; clear HB; have BK1 := n0_; have HB := n1_; have BK442 := n2_; have GW442 := n3_; have GE442 := n4_; have NB1_442 := n5_; have NB442_1 := n6_; clear n0_ n1_ n2_ n3_ n4_ n5_ n6_; clear hb hbox hg))
  (try simp only [Act.put, List.setIfInBounds_toArray, List.set_cons_zero, List.set_cons_succ])
  have H := HS_.out
  clear HS_
  replace H := Option.bind_eq_some_iff.mp H
  obtain ⟨t443, A40, H⟩ := H
  (try dsimp only at H)
  have A4 := Aside0.mk A40
  clear A40
  by_cases c5 : t443 = true
  · subst c5
    rw [if_pos rfl] at H
    obtain rfl := Option.some.inj H
    have hnb6 := NB1_442.out
    have hnc6 := NB442_1.out
    obtain ⟨hcz7_0, hcz7_1, hcz7_2, hcz7_3, hfz7_0, hfz7_1, hfz7_2, hfz7_3⟩ := bc4_ BK1.out
    obtain ⟨hcz8_0, hcz8_1, hfz8_0, hfz8_1⟩ := bc2_ BK442.out
    go_wp2_with (first | ((with_reducible refine gate_callee (f := 63) rfl ?_); refine goesL_ (some 8) rfl rfl Try.func63 (by kernel_rfl) rfl #[.slice A1_1 l1_1.length c1_1, .int .i64 a0_0] rfl mp_ ?_; (with_reducible refine (slices_Contains_int_int.calls k _ _ l1_1 a0_0 true _ ?side1 ?side2 A4.out).mono ?_); (case side1 => exact pc_ (Kd.C_below HR1_1.out HB.out)); (case side2 => exact HC1_1.out); rintro e w' ⟨rfl, ⟨nd, rfl⟩⟩; refine ⟨_, rfl, ?_⟩))
    go_ret
    exact ⟨er_, pb1_ HB.out GE442.out⟩
  replace c5 := Bool.eq_false_iff.mpr c5
  subst c5
  rw [if_neg (show ¬ (false = true) by decide)] at H
  by_cases c9 : a1_3 = true
  rotate_left
  · replace c9 := Bool.eq_false_iff.mpr c9
    subst c9
    rw [if_neg (show ¬ (false = true) by decide)] at H
    obtain rfl := Option.some.inj H
    have hnb10 := NB1_442.out
    have hnc10 := NB442_1.out
    obtain ⟨hcz11_0, hcz11_1, hcz11_2, hcz11_3, hfz11_0, hfz11_1, hfz11_2, hfz11_3⟩ := bc4_ BK1.out
    obtain ⟨hcz12_0, hcz12_1, hfz12_0, hfz12_1⟩ := bc2_ BK442.out
    go_wp2_with (first | ((with_reducible refine gate_callee (f := 63) rfl ?_); refine goesL_ (some 8) rfl rfl Try.func63 (by kernel_rfl) rfl #[.slice A1_1 l1_1.length c1_1, .int .i64 a0_0] rfl mp_ ?_; (with_reducible refine (slices_Contains_int_int.calls k _ _ l1_1 a0_0 false _ ?side1 ?side2 A4.out).mono ?_); (case side1 => exact pc_ (Kd.C_below HR1_1.out HB.out)); (case side2 => exact HC1_1.out); rintro e w' ⟨rfl, ⟨nd, rfl⟩⟩; refine ⟨_, rfl, ?_⟩))
    go_ret
    exact ⟨er_, pb1_ HB.out GE442.out⟩
  subst c9
  rw [if_pos rfl] at H
  replace H := Option.bind_eq_some_iff.mp H
  obtain ⟨t444, A130, H⟩ := H
  (try dsimp only at H)
  have A13 := Aside0.mk A130
  clear A130
  by_cases c14 : t444 = true
  · subst c14
    rw [if_pos rfl] at H
    obtain rfl := Option.some.inj H
    have hnb15 := NB1_442.out
    have hnc15 := NB442_1.out
    obtain ⟨hcz16_0, hcz16_1, hcz16_2, hcz16_3, hfz16_0, hfz16_1, hfz16_2, hfz16_3⟩ := bc4_ BK1.out
    obtain ⟨hcz17_0, hcz17_1, hfz17_0, hfz17_1⟩ := bc2_ BK442.out
    go_wp2_with (first | ((with_reducible refine gate_callee (f := 63) rfl ?_); refine goesL_ (some 8) rfl rfl Try.func63 (by kernel_rfl) rfl #[.slice A1_1 l1_1.length c1_1, .int .i64 a0_0] rfl mp_ ?_; (with_reducible refine (slices_Contains_int_int.calls k _ _ l1_1 a0_0 false _ ?side1 ?side2 A4.out).mono ?_); (case side1 => exact pc_ (Kd.C_below HR1_1.out HB.out)); (case side2 => exact HC1_1.out); rintro e w' ⟨rfl, ⟨nd, rfl⟩⟩; refine ⟨_, rfl, ?_⟩) | (go_at_call 63; (with_reducible refine (slices_Contains_int_int.calls k _ _ l1_2 a0_0 true _ ?side1 ?side2 A13.out).mono ?_); (case side1 => exact pc_ (Kd.C_below HR1_2.out (pb1_ HB.out GE442.out))); (case side2 => exact HC1_2.out); rintro e w' ⟨rfl, ⟨nd, rfl⟩⟩))
    go_ret
    exact ⟨er_, pb1_ HB.out GE442.out⟩
  replace c14 := Bool.eq_false_iff.mpr c14
  subst c14
  rw [if_neg (show ¬ (false = true) by decide)] at H
  replace H := Option.bind_eq_some_iff.mp H
  obtain ⟨t445, A180, H⟩ := H
  replace H : (some (!t445)) = some r := H
  have A18 := Aside0.mk A180
  clear A180
  obtain rfl := Option.some.inj H
  have hnb19 := NB1_442.out
  have hnc19 := NB442_1.out
  obtain ⟨hcz20_0, hcz20_1, hcz20_2, hcz20_3, hfz20_0, hfz20_1, hfz20_2, hfz20_3⟩ := bc4_ BK1.out
  obtain ⟨hcz21_0, hcz21_1, hfz21_0, hfz21_1⟩ := bc2_ BK442.out
  go_wp2_with (first | ((with_reducible refine gate_callee (f := 63) rfl ?_); refine goesL_ (some 8) rfl rfl Try.func63 (by kernel_rfl) rfl #[.slice A1_1 l1_1.length c1_1, .int .i64 a0_0] rfl mp_ ?_; (with_reducible refine (slices_Contains_int_int.calls k _ _ l1_1 a0_0 false _ ?side1 ?side2 A4.out).mono ?_); (case side1 => exact pc_ (Kd.C_below HR1_1.out HB.out)); (case side2 => exact HC1_1.out); rintro e w' ⟨rfl, ⟨nd, rfl⟩⟩; refine ⟨_, rfl, ?_⟩) | (go_at_call 63; (with_reducible refine (slices_Contains_int_int.calls k _ _ l1_2 a0_0 false _ ?side1 ?side2 A13.out).mono ?_); (case side1 => exact pc_ (Kd.C_below HR1_2.out (pb1_ HB.out GE442.out))); (case side2 => exact HC1_2.out); rintro e w' ⟨rfl, ⟨nd, rfl⟩⟩) | (go_at_call 61; (with_reducible refine (impl_InRange.calls a0_0 1 3 t445 _ A18.out).mono ?_); rintro e w' ⟨rfl, ⟨nd, rfl⟩⟩))
  go_ret
  exact ⟨er_, pb1_ HB.out GE442.out⟩

end Go.Proofs.Ytpoandlbmaljhaa.Print
