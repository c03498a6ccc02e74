-- Written by a program of this session (printx.py) out of the translation; Lean checks it.
import Derived.Test.YtlcmkgbabffmeaaPrint0
import Derived.Test.YtlcmkgbabffmeaaPrint2
namespace Go.Proofs.Ytlcmkgbabffmeaa.Print
open Go.RowKit Go.Proofs.YtlcmkgbabffmeaaW.PrintWords Go.Proofs.YtlcmkgbabffmeaaW.PrintLast Go.Proofs.YtlcmkgbabffmeaaW.PrintMore Go.Proofs.Ytlcmkgbabffmeaa.Short
attribute [local go_sem] max2_int min2_int max_two min_two max_three min_three max_four min_four   -- for this text's walks alone
set_option linter.unusedVariables false
set_option linter.unusedSimpArgs false

/-! ### impl_IsRollout: function 18 -/
def impl_IsRollout.l0 : Nat → List Int → Int → Int → Int → List Int → Int → Bool → Option (Bool)
  | 0, _, _, _, _, _, _, _ => none
  | k + 1, x6, x7, x8, x196000, x196001, x196002, x196003 => if x8 < x7 then (if 0 ≤ x8 then (if x8 < (x6.length : Int) then ((impl_InRange.f (rd x6 x8) 1 100).bind fun t197 => (if t197 = true then (if x8 > 0 then (if 0 ≤ (wrap64 (x8 - 1)) then (if (wrap64 (x8 - 1)) < (x196001.length : Int) then (if (rd x196001 (wrap64 (x8 - 1))) ≥ (rd x6 x8) then (some false) else (impl_IsRollout.l0 k x6 x7 (wrap64 (x8 + 1)) x196000 x196001 x196002 x196003)) else (none)) else (none)) else (impl_IsRollout.l0 k x6 x7 (wrap64 (x8 + 1)) x196000 x196001 x196002 x196003)) else (some false))) else (none)) else (none)) else ((impl_InRange.f x196000 1 9).bind fun t199 => (if t199 = true then ((impl_InRange.f (x196001.length : Int) 1 5).bind fun t200 => (if t200 = true then (if 0 ≤ (wrap64 ((x196001.length : Int) - 1)) then (if (wrap64 ((x196001.length : Int) - 1)) < (x196001.length : Int) then (if (rd x196001 (wrap64 ((x196001.length : Int) - 1))) = 100 then ((impl_InRange.f x196002 0 (wrap64 ((x196001.length : Int) - 1))).bind fun t202 => (some t202)) else (some false)) else (none)) else (none)) else (some false))) else (some false)))
def impl_IsRollout.f (k : Nat) (a0_0 : Int) (l0_1 : List Int) (a0_2 : Int) (a0_3 : Bool) : Option (Bool) := impl_IsRollout.l0 k l0_1 (l0_1.length : Int) 0 a0_0 l0_1 a0_2 a0_3
theorem impl_IsRollout.mono_l : ∀ k, (∀ y0 y1 y2 y3 y4 y5 y6, LeO (impl_IsRollout.l0 k y0 y1 y2 y3 y4 y5 y6) (impl_IsRollout.l0 (k + 1) y0 y1 y2 y3 y4 y5 y6))
  | 0 => fun _ _ _ _ _ _ _ r h => by simp [impl_IsRollout.l0] at h
  | k + 1 => by
    have ih0 := impl_IsRollout.mono_l k
    · intro y0 y1 y2 y3 y4 y5 y6
      unfold impl_IsRollout.l0
      repeat' first
      | (with_reducible exact ih0 _ _ _ _ _ _ _)
      | (with_reducible exact LeO.refl _)
      | (with_reducible exact LeO.none _)
      | (with_reducible refine LeO.ite ?_ ?_)
      | (with_reducible refine LeO.bind ?_ (fun _ => ?_))
      | exact ih0 _ _ _ _ _ _ _
      | exact LeO.none _
      | refine LeO.ite ?_ ?_
      | refine LeO.bind ?_ (fun _ => ?_)
theorem impl_IsRollout.mono : ∀ a0 a1 a2 a3 k, LeO (impl_IsRollout.f k a0 a1 a2 a3) (impl_IsRollout.f (k + 1) a0 a1 a2 a3) := by
  intro a0 a1 a2 a3 k
  have ih0 := impl_IsRollout.mono_l k
  unfold impl_IsRollout.f
  repeat' first
      | (with_reducible exact ih0 _ _ _ _ _ _ _)
      | (with_reducible exact LeO.refl _)
      | (with_reducible exact LeO.none _)
      | (with_reducible refine LeO.ite ?_ ?_)
      | (with_reducible refine LeO.bind ?_ (fun _ => ?_))
      | exact ih0 _ _ _ _ _ _ _
      | exact LeO.none _
      | refine LeO.ite ?_ ?_
      | refine LeO.bind ?_ (fun _ => ?_)
set_option maxHeartbeats 8000000 in
set_option maxRecDepth 100000 in
theorem impl_IsRollout.calls (k : Nat) (a0_0 : Int) (A0_1 : Option Addr) (c0_1 : Nat) (l0_1 : List Int) (a0_2 : Int) (a0_3 : Bool) (r : Bool) (w : World) (hr0_1 : Kd.C (Kd.int .i64) w A0_1 l0_1.length l0_1) (hc0_1 : l0_1.length ≤ c0_1) (h : impl_IsRollout.f k a0_0 l0_1 a0_2 a0_3 = some r) :
    Calls Try.prog 18 #[.agg #[.int .i64 a0_0, .slice A0_1 l0_1.length c0_1, .int .i64 a0_2, .bool a0_3]] w fun e w' => e = .returned (.bool r) ∧ Below w.heap.size w w' := by
  have hu27 := Try.underlying27
  have HR0_1 := Aside0.mk hr0_1
  have HC0_1 := Aside0.mk hc0_1
  clear hr0_1 hc0_1
  have HB := Aside0.mk (Below.refl w.heap.size w)
  have H : (impl_IsRollout.l0 k l0_1 (l0_1.length : Int) 0 a0_0 l0_1 a0_2 a0_3) = some r := h
  clear h
  have H' := Aside0.mk H
  clear H
  go_enter Try.func18, Try.ntmps18
  go_wp2_with (first | ((with_reducible refine gate_dst (N := 1) rfl ?_); (try (refine gate_guard (by rfl) ?_; dsimp only)); refine box_event ?hg (N := 1) ?hd (cs := #[.int .i64 a0_0, .slice A0_1 l0_1.length c0_1, .int .i64 a0_2, .bool a0_3]) (t := 27) ?hr ?_; (case hd => rfl); (case hg => rfl); (case hr => first | (go_simp; done) | (go_simp; rfl)); intro gb195 hg w2 hbox hb; have n0_ := Aside0.mk (below_step (pb_ HB.out) hb); have n1_ := Aside0.mk (hbox); have n2_ := Aside0.mk ((by rw [hg]; exact (below_size (pb_ HB.out)) : w.heap.size ≤ gb195)); have n3_ := Aside0.mk ((by rw [hg]; exact (below_size (pb_ HB.out)) : w.heap.size ≤ gb195)); clear HB; have HB := n0_; have BK195 := n1_; have GW195 := n2_; have GE195 := n3_; clear n0_ n1_ n2_ n3_; clear hb hbox hg; have hcz3_0 : w2.cell? ⟨gb195, 0, none⟩ = some (.int .i64 a0_0) := (blk_cell BK195.out 0).trans rfl; have hcz3_1 : w2.cell? ⟨gb195, 1, none⟩ = some (.slice A0_1 l0_1.length c0_1) := (blk_cell BK195.out 1).trans rfl; have hcz3_2 : w2.cell? ⟨gb195, 2, none⟩ = some (.int .i64 a0_2) := (blk_cell BK195.out 2).trans rfl; have hcz3_3 : w2.cell? ⟨gb195, 3, none⟩ = some (.bool a0_3) := (blk_cell BK195.out 3).trans rfl; have hfz3_0 := blk_frozen BK195.out 0; have hfz3_1 := blk_frozen BK195.out 1; have hfz3_2 := blk_frozen BK195.out 2; have hfz3_3 := blk_frozen BK195.out 3))
  (try simp only [Act.put, List.setIfInBounds_toArray, List.set_cons_zero, List.set_cons_succ])
  go_loopg [8] k (fun kq v8 w' => ∃ (x8_1 : Int), v8 = .int .i64 x8_1 ∧ Aside0 (impl_IsRollout.l0 kq l0_1 (l0_1.length : Int) x8_1 a0_0 l0_1 a0_2 a0_3 = some r) ∧ Aside0 (kq ≤ k) ∧ Aside0 (w'.heap[gb195]? = some (.cells #[.int .i64 a0_0, (.slice A0_1 l0_1.length c0_1), .int .i64 a0_2, .bool a0_3] 27 (0, 0))) ∧ Aside0 (Below w.heap.size w w'))
  case atStart => exact ⟨(0), el_, H', ⟨Nat.le_refl _⟩, ⟨pk_ BK195.out⟩, ⟨pb1_ HB.out GE195.out⟩⟩
  clear H'
  try clear c1
  try clear p2
  try clear hcz3_0
  try clear hcz3_1
  try clear hcz3_2
  try clear hcz3_3
  try clear hfz3_0
  try clear hfz3_1
  try clear hfz3_2
  try clear hfz3_3
  obtain ⟨x8_1, rfl, HA, HK1, BK195, HB⟩ := hrel
  rcases gk with _ | k1
  · exact absurd HA.out (by simp [impl_IsRollout.l0])
  have H := HA.out
  clear HA
  simp only [impl_IsRollout.l0] at H
  by_cases c4 : x8_1 < (l0_1.length : Int)
  · rw [if_pos c4] at H
    have c4b0 : decide (x8_1 < (l0_1.length : Int)) = true := decide_eq_true c4
    clear c4
    by_cases c5 : 0 ≤ x8_1
    rotate_left
    · rw [if_neg c5] at H
      exact absurd H (by simp)
    rw [if_pos c5] at H
    have c5b0 : decide (0 ≤ x8_1) = true := decide_eq_true c5
    clear c5
    by_cases c6 : x8_1 < (l0_1.length : Int)
    rotate_left
    · rw [if_neg c6] at H
      exact absurd H (by simp)
    rw [if_pos c6] at H
    have c6b0 : decide (x8_1 < (l0_1.length : Int)) = true := decide_eq_true c6
    clear c6
    replace H := Option.bind_eq_some_iff.mp H
    obtain ⟨t197, A70, H⟩ := H
    (try dsimp only at H)
    have A7 := Aside0.mk A70
    clear A70
    by_cases c8 : t197 = true
    rotate_left
    · replace c8 := Bool.eq_false_iff.mpr c8
      subst c8
      rw [if_neg (show ¬ (false = true) by decide)] at H
      obtain rfl := Option.some.inj H
      have p196 : 0 ≤ (x8_1 : Int) := dt_
      have q196 : x8_1 < (l0_1.length : Int) := dt_
      obtain ⟨ad196, e196, hx196_0⟩ := Kd.at_int HR0_1.out x8_1 p196 q196
      cases e196
      replace hx196_0 := (HB.out.cell (World.block_lt_of_cell? w _ hx196_0)).trans hx196_0
      replace p196 := eq_true p196
      replace q196 := eq_true q196
      go_wp2_with (first | ((with_reducible refine gate_callee (f := 53) rfl ?_); refine goesL_ (some 14) rfl rfl Try.func53 (by kernel_rfl) rfl #[.int .i64 (rd l0_1 x8_1), .int .i64 1, .int .i64 100] rfl mp_ ?_; (with_reducible refine (impl_InRange.calls (rd l0_1 x8_1) 1 100 false _ A7.out).mono ?_); rintro e w' ⟨rfl, ⟨nd, rfl⟩⟩; refine ⟨_, rfl, ?_⟩))
      go_ret
      exact ⟨er_, pb1_ HB.out GE195.out⟩
    subst c8
    rw [if_pos rfl] at H
    by_cases c9 : x8_1 > 0
    rotate_left
    · rw [if_neg c9] at H
      have c9b0 : decide (0 < x8_1) = false := decide_eq_false c9
      clear c9
      have H' := Aside0.mk H
      clear H
      have p196 : 0 ≤ (x8_1 : Int) := dt_
      have q196 : x8_1 < (l0_1.length : Int) := dt_
      obtain ⟨ad196, e196, hx196_0⟩ := Kd.at_int HR0_1.out x8_1 p196 q196
      cases e196
      replace hx196_0 := (HB.out.cell (World.block_lt_of_cell? w _ hx196_0)).trans hx196_0
      replace p196 := eq_true p196
      replace q196 := eq_true q196
      go_wp2_with (first | ((with_reducible refine gate_callee (f := 53) rfl ?_); refine goesL_ (some 14) rfl rfl Try.func53 (by kernel_rfl) rfl #[.int .i64 (rd l0_1 x8_1), .int .i64 1, .int .i64 100] rfl mp_ ?_; (with_reducible refine (impl_InRange.calls (rd l0_1 x8_1) 1 100 true _ A7.out).mono ?_); rintro e w' ⟨rfl, ⟨nd, rfl⟩⟩; refine ⟨_, rfl, ?_⟩))
      go_roundg k1
      case measure => have := HK1.out; omega
      case rel => exact ⟨(wrap64 (x8_1 + 1)), el_, H', ⟨by have := HK1.out; omega⟩, ⟨pk_ BK195.out⟩, ⟨pb1_ HB.out GE195.out⟩⟩
    rw [if_pos c9] at H
    have c9b0 : decide (0 < x8_1) = true := decide_eq_true c9
    clear c9
    obtain ⟨ji10, hji10⟩ : ∃ j_ : Int, (wrap64 (x8_1 - 1)) = j_ := ⟨_, rfl⟩
    replace H : (if 0 ≤ (ji10) then (if (ji10) < (l0_1.length : Int) then (if (rd l0_1 (ji10)) ≥ (rd l0_1 x8_1) then (some false) else (impl_IsRollout.l0 k1 l0_1 (l0_1.length : Int) (wrap64 (x8_1 + 1)) a0_0 l0_1 a0_2 a0_3)) else (none)) else (none)) = some r := by first | (rw [hji10] at H; exact H) | (simp only [hji10] at H ⊢; exact H)
    (try rw [hji10] at A7)
    have hji10w : (IntKind.i64.wrap (x8_1 - 1)) = ji10 := (i64_w _).trans hji10
    by_cases c11 : 0 ≤ (ji10)
    rotate_left
    · rw [if_neg c11] at H
      exact absurd H (by simp)
    rw [if_pos c11] at H
    have c11b0 : decide (0 ≤ (ji10)) = true := decide_eq_true c11
    clear c11
    by_cases c12 : (ji10) < (l0_1.length : Int)
    rotate_left
    · rw [if_neg c12] at H
      exact absurd H (by simp)
    rw [if_pos c12] at H
    have c12b0 : decide ((ji10) < (l0_1.length : Int)) = true := decide_eq_true c12
    clear c12
    have HS_ := Aside0.mk H
    clear H
    have p196 : 0 ≤ (x8_1 : Int) := dt_
    have q196 : x8_1 < (l0_1.length : Int) := dt_
    obtain ⟨ad196, e196, hx196_0⟩ := Kd.at_int HR0_1.out x8_1 p196 q196
    cases e196
    replace hx196_0 := (HB.out.cell (World.block_lt_of_cell? w _ hx196_0)).trans hx196_0
    replace p196 := eq_true p196
    replace q196 := eq_true q196
    go_upto_if 29 with (first | ((with_reducible refine gate_callee (f := 53) rfl ?_); refine goesL_ (some 14) rfl rfl Try.func53 (by kernel_rfl) rfl #[.int .i64 (rd l0_1 x8_1), .int .i64 1, .int .i64 100] rfl mp_ ?_; (with_reducible refine (impl_InRange.calls (rd l0_1 x8_1) 1 100 true _ A7.out).mono ?_); rintro e w' ⟨rfl, ⟨nd, rfl⟩⟩; refine ⟨_, rfl, ?_⟩; have hcz13_0 : wr.cell? ⟨gb195, 0, none⟩ = some (.int .i64 a0_0) := (blk_cell BK195.out 0).trans rfl; have hcz13_1 : wr.cell? ⟨gb195, 1, none⟩ = some (.slice (some ad196) l0_1.length c0_1) := (blk_cell BK195.out 1).trans rfl; have hcz13_2 : wr.cell? ⟨gb195, 2, none⟩ = some (.int .i64 a0_2) := (blk_cell BK195.out 2).trans rfl; have hcz13_3 : wr.cell? ⟨gb195, 3, none⟩ = some (.bool a0_3) := (blk_cell BK195.out 3).trans rfl; have hfz13_0 := blk_frozen BK195.out 0; have hfz13_1 := blk_frozen BK195.out 1; have hfz13_2 := blk_frozen BK195.out 2; have hfz13_3 := blk_frozen BK195.out 3; have p198 : 0 ≤ ((ji10) : Int) := dt_; have q198 : (ji10) < (l0_1.length : Int) := dt_; obtain ⟨ad198, e198, hx198_0⟩ := Kd.at_int HR0_1.out (ji10) p198 q198; obtain rfl : ad196 = ad198 := (by injection e198); replace hx198_0 := (HB.out.cell (World.block_lt_of_cell? w _ hx198_0)).trans hx198_0; replace p198 := eq_true p198; replace q198 := eq_true q198))
    (try simp only [Act.put, List.setIfInBounds_toArray, List.set_cons_zero, List.set_cons_succ])
    have H := HS_.out
    clear HS_
    by_cases c14 : (rd l0_1 (ji10)) ≥ (rd l0_1 x8_1)
    rotate_left
    · rw [if_neg c14] at H
      have c14b0 : decide ((rd l0_1 x8_1) ≤ (rd l0_1 (ji10))) = false := decide_eq_false c14
      clear c14
      (first | rw [c14b0] | (simp only [i64_w, i32_w]; rw [c14b0]) | skip)
      have H' := Aside0.mk H
      clear H
      go_wp2
      go_roundg k1
      case measure => have := HK1.out; omega
      case rel => exact ⟨(wrap64 (x8_1 + 1)), el_, H', ⟨by have := HK1.out; omega⟩, ⟨pk_ BK195.out⟩, ⟨pb1_ HB.out GE195.out⟩⟩
    rw [if_pos c14] at H
    have c14b0 : decide ((rd l0_1 x8_1) ≤ (rd l0_1 (ji10))) = true := decide_eq_true c14
    clear c14
    (first | rw [c14b0] | (simp only [i64_w, i32_w]; rw [c14b0]) | skip)
    obtain rfl := Option.some.inj H
    go_wp2
    go_ret
    exact ⟨by first | rfl | (simp [errW_none, errW_some] <;> rfl) | (simp only [← hji10]; first | rfl | (simp [errW_none, errW_some] <;> rfl)) | (simp [*, errW_none, errW_some] <;> rfl), pb1_ HB.out GE195.out⟩
  rw [if_neg c4] at H
  have c4b0 : decide (x8_1 < (l0_1.length : Int)) = false := decide_eq_false c4
  clear c4
  replace H := Option.bind_eq_some_iff.mp H
  obtain ⟨t199, A150, H⟩ := H
  (try dsimp only at H)
  have A15 := Aside0.mk A150
  clear A150
  by_cases c16 : t199 = true
  rotate_left
  · replace c16 := Bool.eq_false_iff.mpr c16
    subst c16
    rw [if_neg (show ¬ (false = true) by decide)] at H
    obtain rfl := Option.some.inj H
    obtain ⟨hcz17_0, hcz17_1, hcz17_2, hcz17_3, hfz17_0, hfz17_1, hfz17_2, hfz17_3⟩ := bc4_ BK195.out
    go_wp2_with (first | ((with_reducible refine gate_callee (f := 53) rfl ?_); refine goesL_ (some 33) rfl rfl Try.func53 (by kernel_rfl) rfl #[.int .i64 a0_0, .int .i64 1, .int .i64 9] rfl mp_ ?_; (with_reducible refine (impl_InRange.calls a0_0 1 9 false _ A15.out).mono ?_); rintro e w' ⟨rfl, ⟨nd, rfl⟩⟩; refine ⟨_, rfl, ?_⟩))
    go_ret
    exact ⟨er_, pb1_ HB.out GE195.out⟩
  subst c16
  rw [if_pos rfl] at H
  replace H := Option.bind_eq_some_iff.mp H
  obtain ⟨t200, A180, H⟩ := H
  (try dsimp only at H)
  have A18 := Aside0.mk A180
  clear A180
  by_cases c19 : t200 = true
  rotate_left
  · replace c19 := Bool.eq_false_iff.mpr c19
    subst c19
    rw [if_neg (show ¬ (false = true) by decide)] at H
    obtain rfl := Option.some.inj H
    obtain ⟨hcz20_0, hcz20_1, hcz20_2, hcz20_3, hfz20_0, hfz20_1, hfz20_2, hfz20_3⟩ := bc4_ BK195.out
    go_wp2_with (first | ((with_reducible refine gate_callee (f := 53) rfl ?_); refine goesL_ (some 33) rfl rfl Try.func53 (by kernel_rfl) rfl #[.int .i64 a0_0, .int .i64 1, .int .i64 9] rfl mp_ ?_; (with_reducible refine (impl_InRange.calls a0_0 1 9 true _ A15.out).mono ?_); rintro e w' ⟨rfl, ⟨nd, rfl⟩⟩; refine ⟨_, rfl, ?_⟩) | (go_at_call 53; (with_reducible refine (impl_InRange.calls (l0_1.length : Int) 1 5 false _ A18.out).mono ?_); rintro e w' ⟨rfl, ⟨nd, rfl⟩⟩))
    go_ret
    exact ⟨er_, pb1_ HB.out GE195.out⟩
  subst c19
  rw [if_pos rfl] at H
  obtain ⟨ji21, hji21⟩ : ∃ j_ : Int, (wrap64 ((l0_1.length : Int) - 1)) = j_ := ⟨_, rfl⟩
  replace H : (if 0 ≤ (ji21) then (if (ji21) < (l0_1.length : Int) then (if (rd l0_1 (ji21)) = 100 then ((impl_InRange.f a0_2 0 (ji21)).bind fun t202 => (some t202)) else (some false)) else (none)) else (none)) = some r := by first | (rw [hji21] at H; exact H) | (simp only [hji21] at H ⊢; exact H)
  (try rw [hji21] at A15)
  (try rw [hji21] at A18)
  have hji21w : (IntKind.i64.wrap ((l0_1.length : Int) - 1)) = ji21 := (i64_w _).trans hji21
  by_cases c22 : 0 ≤ (ji21)
  rotate_left
  · rw [if_neg c22] at H
    exact absurd H (by simp)
  rw [if_pos c22] at H
  have c22b0 : decide (0 ≤ (ji21)) = true := decide_eq_true c22
  clear c22
  by_cases c23 : (ji21) < (l0_1.length : Int)
  rotate_left
  · rw [if_neg c23] at H
    exact absurd H (by simp)
  rw [if_pos c23] at H
  have c23b0 : decide ((ji21) < (l0_1.length : Int)) = true := decide_eq_true c23
  clear c23
  by_cases c24 : (rd l0_1 (ji21)) = 100
  rotate_left
  · rw [if_neg c24] at H
    have c24b0 : ((rd l0_1 (ji21)) == 100) = false := beq_eq_false_iff_ne.mpr c24
    have c24b1 : ((rd l0_1 (ji21)) != 100) = true := bne_iff_ne.mpr c24
    obtain rfl := Option.some.inj H
    obtain ⟨hcz25_0, hcz25_1, hcz25_2, hcz25_3, hfz25_0, hfz25_1, hfz25_2, hfz25_3⟩ := bc4_ BK195.out
    go_wp2_with (first | ((with_reducible refine gate_callee (f := 53) rfl ?_); refine goesL_ (some 33) rfl rfl Try.func53 (by kernel_rfl) rfl #[.int .i64 a0_0, .int .i64 1, .int .i64 9] rfl mp_ ?_; (with_reducible refine (impl_InRange.calls a0_0 1 9 true _ A15.out).mono ?_); rintro e w' ⟨rfl, ⟨nd, rfl⟩⟩; refine ⟨_, rfl, ?_⟩) | (go_at_call 53; (with_reducible refine (impl_InRange.calls (l0_1.length : Int) 1 5 true _ A18.out).mono ?_); rintro e w' ⟨rfl, ⟨nd, rfl⟩⟩; have p201 : 0 ≤ ((ji21) : Int) := dt_; have q201 : (ji21) < (l0_1.length : Int) := dt_; obtain ⟨ad201, e201, hx201_0⟩ := Kd.at_int HR0_1.out (ji21) p201 q201; cases e201; replace hx201_0 := (HB.out.cell (World.block_lt_of_cell? w _ hx201_0)).trans hx201_0; replace p201 := eq_true p201; replace q201 := eq_true q201))
    go_ret
    exact ⟨by first | rfl | (simp [errW_none, errW_some] <;> rfl) | (simp only [← hji21]; first | rfl | (simp [errW_none, errW_some] <;> rfl)) | (simp [*, errW_none, errW_some] <;> rfl), pb1_ HB.out GE195.out⟩
  rw [if_pos c24] at H
  have c24b0 : ((rd l0_1 (ji21)) == 100) = true := beq_iff_eq.mpr c24
  have c24b1 : ((rd l0_1 (ji21)) != 100) = false := bne_eq_false_iff_eq.mpr c24
  clear c24
  replace H := Option.bind_eq_some_iff.mp H
  obtain ⟨t202, A260, H⟩ := H
  replace H : (some t202) = some r := H
  have A26 := Aside0.mk A260
  clear A260
  obtain rfl := Option.some.inj H
  obtain ⟨hcz27_0, hcz27_1, hcz27_2, hcz27_3, hfz27_0, hfz27_1, hfz27_2, hfz27_3⟩ := bc4_ BK195.out
  go_wp2_with (first | ((with_reducible refine gate_callee (f := 53) rfl ?_); refine goesL_ (some 33) rfl rfl Try.func53 (by kernel_rfl) rfl #[.int .i64 a0_0, .int .i64 1, .int .i64 9] rfl mp_ ?_; (with_reducible refine (impl_InRange.calls a0_0 1 9 true _ A15.out).mono ?_); rintro e w' ⟨rfl, ⟨nd, rfl⟩⟩; refine ⟨_, rfl, ?_⟩) | (go_at_call 53; (with_reducible refine (impl_InRange.calls (l0_1.length : Int) 1 5 true _ A18.out).mono ?_); rintro e w' ⟨rfl, ⟨nd, rfl⟩⟩; have p201 : 0 ≤ ((ji21) : Int) := dt_; have q201 : (ji21) < (l0_1.length : Int) := dt_; obtain ⟨ad201, e201, hx201_0⟩ := Kd.at_int HR0_1.out (ji21) p201 q201; cases e201; replace hx201_0 := (HB.out.cell (World.block_lt_of_cell? w _ hx201_0)).trans hx201_0; replace p201 := eq_true p201; replace q201 := eq_true q201) | (go_at_call 53; (with_reducible refine (impl_InRange.calls a0_2 0 ji21 t202 _ A26.out).mono ?_); rintro e w' ⟨rfl, ⟨nd, rfl⟩⟩))
  go_ret
  exact ⟨by first | rfl | (simp [errW_none, errW_some] <;> rfl) | (simp only [← hji21]; first | rfl | (simp [errW_none, errW_some] <;> rfl)) | (simp [*, errW_none, errW_some] <;> rfl), pb1_ HB.out GE195.out⟩

/-! ### impl_NextStage: function 27 -/
def impl_NextStage.f (k : Nat) (a0_0 : Int) (l0_1 : List Int) (a0_2 : Int) (a0_3 : Bool) : Option (Int × List Int × Int × Bool × Bool) := (impl_copyRollout.f a0_0 l0_1 a0_2 a0_3).bind fun bt205 => ((impl_IsRollout.f k a0_0 l0_1 a0_2 a0_3).bind fun t212 => (if t212 = true then (if a0_3 = true then (some (bt205.1, bt205.2.1, bt205.2.2.1, bt205.2.2.2, false)) else (if a0_2 = (wrap64 ((l0_1.length : Int) - 1)) then (some (bt205.1, bt205.2.1, bt205.2.2.1, bt205.2.2.2, false)) else (some (bt205.1, bt205.2.1, wrap64 (bt205.2.2.1 + 1), bt205.2.2.2, true)))) else (some (bt205.1, bt205.2.1, bt205.2.2.1, bt205.2.2.2, false))))
theorem impl_NextStage.mono : ∀ a0 a1 a2 a3 k, LeO (impl_NextStage.f k a0 a1 a2 a3) (impl_NextStage.f (k + 1) a0 a1 a2 a3) := by
  intro a0 a1 a2 a3 k
  unfold impl_NextStage.f
  repeat' first
      | (with_reducible exact impl_IsRollout.mono _ _ _ _ _)
      | (with_reducible exact LeO.refl _)
      | (with_reducible exact LeO.none _)
      | (with_reducible refine LeO.ite ?_ ?_)
      | (with_reducible refine LeO.bind ?_ (fun _ => ?_))
      | exact impl_IsRollout.mono _ _ _ _ _
      | exact LeO.none _
      | refine LeO.ite ?_ ?_
      | refine LeO.bind ?_ (fun _ => ?_)
set_option maxHeartbeats 8000000 in
set_option maxRecDepth 100000 in
theorem impl_NextStage.calls (k : Nat) (a0_0 : Int) (A0_1 : Option Addr) (c0_1 : Nat) (l0_1 : List Int) (a0_2 : Int) (a0_3 : Bool) (r1 : Int) (r2 : List Int) (r3 : Int) (r4 : Bool) (r5 : Bool) (w : World) (hr0_1 : Kd.C (Kd.int .i64) w A0_1 l0_1.length l0_1) (hc0_1 : l0_1.length ≤ c0_1) (h : impl_NextStage.f k a0_0 l0_1 a0_2 a0_3 = some (r1, r2, r3, r4, r5)) :
    Calls Try.prog 27 #[.agg #[.int .i64 a0_0, .slice A0_1 l0_1.length c0_1, .int .i64 a0_2, .bool a0_3]] w fun e w' => ∃ v1_ : Value, e = .returned (.tuple #[.agg #[.int .i64 r1, v1_, .int .i64 r3, .bool r4], .bool r5]) ∧ Kd.R (Kd.int .i64) 3 w' w.heap.size (fun _ => True) v1_ r2 ∧ Below w.heap.size w w' := by
  have hu27 := Try.underlying27
  have HR0_1 := Aside0.mk hr0_1
  have HC0_1 := Aside0.mk hc0_1
  clear hr0_1 hc0_1
  have HB := Aside0.mk (Below.refl w.heap.size w)
  have H : ((impl_copyRollout.f a0_0 l0_1 a0_2 a0_3).bind fun bt205 => ((impl_IsRollout.f k a0_0 l0_1 a0_2 a0_3).bind fun t212 => (if t212 = true then (if a0_3 = true then (some (bt205.1, bt205.2.1, bt205.2.2.1, bt205.2.2.2, false)) else (if a0_2 = (wrap64 ((l0_1.length : Int) - 1)) then (some (bt205.1, bt205.2.1, bt205.2.2.1, bt205.2.2.2, false)) else (some (bt205.1, bt205.2.1, wrap64 (bt205.2.2.1 + 1), bt205.2.2.2, true)))) else (some (bt205.1, bt205.2.1, bt205.2.2.1, bt205.2.2.2, false))))) = some (r1, r2, r3, r4, r5) := h
  clear h
  have HS_ := Aside0.mk H
  clear H
  go_enter Try.func27, Try.ntmps27
  go_upto_region 1 with (first | ((with_reducible refine gate_dst (N := 1) rfl ?_); (try (refine gate_guard (by rfl) ?_; dsimp only)); refine box_event ?hg (N := 1) ?hd (cs := #[.int .i64 a0_0, .slice A0_1 l0_1.length c0_1, .int .i64 a0_2, .bool a0_3]) (t := 27) ?hr ?_; (case hd => rfl); (case hg => rfl); (case hr => first | (go_simp; done) | (go_simp; rfl)); intro gb203 hg w2 hbox hb; have n0_ := Aside0.mk (below_step (pb_ HB.out) hb); have n1_ := Aside0.mk (hbox); have n2_ := Aside0.mk ((by rw [hg]; exact (below_size (pb_ HB.out)) : w.heap.size ≤ gb203)); have n3_ := Aside0.mk ((by rw [hg]; exact (below_size (pb_ HB.out)) : w.heap.size ≤ gb203)); clear HB; have HB := n0_; have BK203 := n1_; have GW203 := n2_; have GE203 := n3_; clear n0_ n1_ n2_ n3_; clear hb hbox hg) | ((with_reducible refine gate_dst (N := 2) rfl ?_); (try (refine gate_guard (by rfl) ?_; dsimp only)); refine box_event ?hg (N := 2) ?hd (cs := #[.int .i64 0, .slice none 0 0, .int .i64 0, .bool false]) (t := 27) ?hr ?_; (case hd => rfl); (case hg => rfl); (case hr => first | (go_simp; done) | (go_simp; rfl)); intro gb204 hg w3 hbox hb; have n0_ := Aside0.mk (bb_ BK203.out hb); have n1_ := Aside0.mk (below_step (pb1_ HB.out GE203.out) hb); have n2_ := Aside0.mk (hbox); have n3_ := Aside0.mk ((by rw [hg]; exact (below_size (pb1_ HB.out GE203.out)) : w.heap.size ≤ gb204)); have n4_ := Aside0.mk ((by rw [hg]; exact (below_size (pb1_ HB.out GE203.out)) : w.heap.size ≤ gb204)); have n5_ := Aside0.mk ((by rw [hg]; exact Nat.ne_of_lt (blk_lt (pk_ BK203.out)) : gb203 ≠ gb204)); have n6_ := Aside0.mk ((by rw [hg]; exact Nat.ne_of_gt (blk_lt (pk_ BK203.out)) : gb204 ≠ gb203)); clear BK203; clear HB; have BK203 := n0_; have HB := n1_; have BK204 := n2_; have GW204 := n3_; have GE204 := n4_; have NB203_204 := n5_; have NB204_203 := n6_; clear n0_ n1_ n2_ n3_ n4_ n5_ n6_; clear hb hbox hg))
  (try simp only [Act.put, List.setIfInBounds_toArray, List.set_cons_zero, List.set_cons_succ])
  have H := HS_.out
  clear HS_
  replace H := Option.bind_eq_some_iff.mp H
  obtain ⟨⟨t205, t206, t209, t210⟩, A40, H⟩ := H
  (try dsimp only at H)
  have A4 := Aside0.mk A40
  clear A40
  have HS_ := Aside0.mk H
  clear H
  have hnb5 := NB203_204.out
  have hnc5 := NB204_203.out
  obtain ⟨hcz6_0, hcz6_1, hcz6_2, hcz6_3, hfz6_0, hfz6_1, hfz6_2, hfz6_3⟩ := bc4_ BK203.out
  go_upto_region 2 with (first | ((with_reducible refine gate_callee (f := 59) rfl ?_); refine goesL_ (some 6) rfl rfl Try.func59 (by kernel_rfl) rfl #[.agg #[.int .i64 a0_0, .slice A0_1 l0_1.length c0_1, .int .i64 a0_2, .bool a0_3]] rfl mp_ ?_; (with_reducible refine (impl_copyRollout.calls a0_0 _ _ l0_1 a0_2 a0_3 t205 t206 t209 t210 _ ?side1 ?side2 A4.out).mono ?_); (case side1 => exact pc_ (Kd.C_below HR0_1.out HB.out)); (case side2 => exact HC0_1.out); rintro e w7 ⟨v207, rfl, ho0, hb⟩; refine ⟨_, rfl, ?_⟩; have n0_ := Aside0.mk (Kd.R_lower ho0 (below_size (pb2_ HB.out GE203.out GE204.out))); have n1_ := Aside0.mk (bb_ BK203.out hb); have n2_ := Aside0.mk (bb_ BK204.out hb); have n3_ := Aside0.mk (below_step (pb2_ HB.out GE203.out GE204.out) hb); clear BK203; clear BK204; clear HB; have HO208 := n0_; have BK203 := n1_; have BK204 := n2_; have HB := n3_; clear n0_ n1_ n2_ n3_; (try clear hb); (try clear hb2); (try clear hk); (try clear hi); (try clear ho0)) | ((with_reducible refine gate_dst (N := 4) rfl ?_); (try (refine gate_guard (by rfl) ?_; dsimp only)); refine box_event ?hg (N := 4) ?hd (cs := #[.int .i64 0, .slice none 0 0, .int .i64 0, .bool false]) (t := 27) ?hr ?_; (case hd => rfl); (case hg => rfl); (case hr => first | (go_simp; done) | (go_simp; rfl)); intro gb211 hg w8 hbox hb; have n0_ := Aside0.mk (Kd.R_below (pr_ HO208.out) hb); have n1_ := Aside0.mk (bb_ BK203.out hb); have n2_ := Aside0.mk (bb_ BK204.out hb); have n3_ := Aside0.mk (below_step (pb2_ HB.out GE203.out GE204.out) hb); have n4_ := Aside0.mk (hbox); have n5_ := Aside0.mk ((by rw [hg]; exact (below_size (pb2_ HB.out GE203.out GE204.out)) : w.heap.size ≤ gb211)); have n6_ := Aside0.mk ((by rw [hg]; exact (below_size (pb2_ HB.out GE203.out GE204.out)) : w.heap.size ≤ gb211)); have n7_ := Aside0.mk ((by rw [hg]; exact Nat.ne_of_lt (blk_lt (pk_ BK203.out)) : gb203 ≠ gb211)); have n8_ := Aside0.mk ((by rw [hg]; exact Nat.ne_of_gt (blk_lt (pk_ BK203.out)) : gb211 ≠ gb203)); have n9_ := Aside0.mk ((by rw [hg]; exact Nat.ne_of_lt (blk_lt (pk_ BK204.out)) : gb204 ≠ gb211)); have n10_ := Aside0.mk ((by rw [hg]; exact Nat.ne_of_gt (blk_lt (pk_ BK204.out)) : gb211 ≠ gb204)); clear HO208; clear BK203; clear BK204; clear HB; have HO208 := n0_; have BK203 := n1_; have BK204 := n2_; have HB := n3_; have BK211 := n4_; have GW211 := n5_; have GE211 := n6_; have NB203_211 := n7_; have NB211_203 := n8_; have NB204_211 := n9_; have NB211_204 := n10_; clear n0_ n1_ n2_ n3_ n4_ n5_ n6_ n7_ n8_ n9_ n10_; clear hb hbox hg; have hnb9 := NB211_203.out; have hnc9 := NB203_211.out; have hnb10 := NB211_204.out; have hnc10 := NB204_211.out; have hcz11_0 : w8.cell? ⟨gb211, 0, none⟩ = some (.int .i64 0) := (blk_cell BK211.out 0).trans rfl; have hcz11_1 : w8.cell? ⟨gb211, 1, none⟩ = some (.slice none 0 0) := (blk_cell BK211.out 1).trans rfl; have hcz11_2 : w8.cell? ⟨gb211, 2, none⟩ = some (.int .i64 0) := (blk_cell BK211.out 2).trans rfl; have hcz11_3 : w8.cell? ⟨gb211, 3, none⟩ = some (.bool false) := (blk_cell BK211.out 3).trans rfl; have hfz11_0 := blk_frozen BK211.out 0; have hfz11_1 := blk_frozen BK211.out 1; have hfz11_2 := blk_frozen BK211.out 2; have hfz11_3 := blk_frozen BK211.out 3; obtain ⟨Ao12, co12, eo12⟩ := Kd.R_slice HO208.out; subst eo12))
  (try simp only [Act.put, List.setIfInBounds_toArray, List.set_cons_zero, List.set_cons_succ])
  have H := HS_.out
  clear HS_
  replace H := Option.bind_eq_some_iff.mp H
  obtain ⟨t212, A130, H⟩ := H
  (try dsimp only at H)
  have A13 := Aside0.mk A130
  clear A130
  by_cases c14 : t212 = true
  rotate_left
  · replace c14 := Bool.eq_false_iff.mpr c14
    subst c14
    rw [if_neg (show ¬ (false = true) by decide)] at H
    simp only [Option.some.injEq, Prod.mk.injEq] at H
    obtain ⟨rfl, rfl, rfl, rfl, rfl⟩ := H
    have hnb15 := NB203_204.out
    have hnc15 := NB204_203.out
    have hnb16 := NB203_211.out
    have hnc16 := NB211_203.out
    obtain ⟨hcz17_0, hcz17_1, hcz17_2, hcz17_3, hfz17_0, hfz17_1, hfz17_2, hfz17_3⟩ := bc4_ BK203.out
    go_wp2_with (first | ((with_reducible refine gate_callee (f := 18) rfl ?_); refine goesL_ (some 8) rfl rfl Try.func18 (by kernel_rfl) rfl #[.agg #[.int .i64 a0_0, .slice A0_1 l0_1.length c0_1, .int .i64 a0_2, .bool a0_3]] rfl mp_ ?_; (with_reducible refine (impl_IsRollout.calls k a0_0 _ _ l0_1 a0_2 a0_3 false _ ?side1 ?side2 A13.out).mono ?_); (case side1 => exact Kd.C_below HR0_1.out (pb3_ HB.out GE203.out GE204.out GE211.out)); (case side2 => exact HC0_1.out); rintro e w18 ⟨rfl, hb⟩; refine ⟨_, rfl, ?_⟩; have n0_ := Aside0.mk (Kd.R_below (pr_ (rf4_ HO208.out BK211.out)) hb); have n1_ := Aside0.mk (blk_below (g := gb203) (o := .cells #[.int .i64 a0_0, .slice A0_1 l0_1.length c0_1, .int .i64 a0_2, .bool a0_3] 27 (0, 0)) (pp_ BK203.out) hb); have n2_ := Aside0.mk (blk_below (g := gb204) (o := .cells #[.int .i64 0, .slice none 0 0, .int .i64 0, .bool false] 27 (0, 0)) (pp_ BK204.out) hb); have n3_ := Aside0.mk (blk_below (g := gb211) (o := .cells #[.int .i64 t205, .slice Ao12 t206.length co12, .int .i64 t209, .bool t210] 27 (0, 0)) (pp_ BK211.out) hb); have n4_ := Aside0.mk (below_step (pb3_ HB.out GE203.out GE204.out GE211.out) hb); clear HO208; clear BK203; clear BK204; clear BK211; clear HB; have HO208 := n0_; have BK203 := n1_; have BK204 := n2_; have BK211 := n3_; have HB := n4_; clear n0_ n1_ n2_ n3_ n4_; (try clear hb); (try clear hb2); (try clear hk); (try clear hi); have hnb19 := NB211_204.out; have hnc19 := NB204_211.out; have hcz20_0 : w18.cell? ⟨gb211, 0, none⟩ = some (.int .i64 t205) := (blk_cell BK211.out 0).trans rfl; have hcz20_1 : w18.cell? ⟨gb211, 1, none⟩ = some (.slice Ao12 t206.length co12) := (blk_cell BK211.out 1).trans rfl; have hcz20_2 : w18.cell? ⟨gb211, 2, none⟩ = some (.int .i64 t209) := (blk_cell BK211.out 2).trans rfl; have hcz20_3 : w18.cell? ⟨gb211, 3, none⟩ = some (.bool t210) := (blk_cell BK211.out 3).trans rfl; have hfz20_0 := blk_frozen BK211.out 0; have hfz20_1 := blk_frozen BK211.out 1; have hfz20_2 := blk_frozen BK211.out 2; have hfz20_3 := blk_frozen BK211.out 3; have hcz21_0 : w18.cell? ⟨gb204, 0, none⟩ = some (.int .i64 0) := (blk_cell BK204.out 0).trans rfl; have hcz21_1 : w18.cell? ⟨gb204, 1, none⟩ = some (.slice none 0 0) := (blk_cell BK204.out 1).trans rfl; have hcz21_2 : w18.cell? ⟨gb204, 2, none⟩ = some (.int .i64 0) := (blk_cell BK204.out 2).trans rfl; have hcz21_3 : w18.cell? ⟨gb204, 3, none⟩ = some (.bool false) := (blk_cell BK204.out 3).trans rfl; have hfz21_0 := blk_frozen BK204.out 0; have hfz21_1 := blk_frozen BK204.out 1; have hfz21_2 := blk_frozen BK204.out 2; have hfz21_3 := blk_frozen BK204.out 3))
    refine bodyPost_ret (results_ct rfl _ _ gb204 27 #[.int .i64 t205, .slice Ao12 t206.length co12, .int .i64 t209, .bool t210] (0, 0) _ rfl (pp_ BK204.out) Try.underlying27 rfl (by kernel_rfl)) rfl ?_
    exact ⟨_, er_, pr_ (Kd.R_mono (rf4_ HO208.out BK204.out) (fun _ hk => trivial)), pb3_ HB.out GE203.out GE204.out GE211.out⟩
  subst c14
  rw [if_pos rfl] at H
  by_cases c22 : a0_3 = true
  · subst c22
    rw [if_pos rfl] at H
    simp only [Option.some.injEq, Prod.mk.injEq] at H
    obtain ⟨rfl, rfl, rfl, rfl, rfl⟩ := H
    have hnb23 := NB203_204.out
    have hnc23 := NB204_203.out
    have hnb24 := NB203_211.out
    have hnc24 := NB211_203.out
    obtain ⟨hcz25_0, hcz25_1, hcz25_2, hcz25_3, hfz25_0, hfz25_1, hfz25_2, hfz25_3⟩ := bc4_ BK203.out
    go_wp2_with (first | ((with_reducible refine gate_callee (f := 18) rfl ?_); refine goesL_ (some 8) rfl rfl Try.func18 (by kernel_rfl) rfl #[.agg #[.int .i64 a0_0, .slice A0_1 l0_1.length c0_1, .int .i64 a0_2, .bool true]] rfl mp_ ?_; (with_reducible refine (impl_IsRollout.calls k a0_0 _ _ l0_1 a0_2 true true _ ?side1 ?side2 A13.out).mono ?_); (case side1 => exact Kd.C_below HR0_1.out (pb3_ HB.out GE203.out GE204.out GE211.out)); (case side2 => exact HC0_1.out); rintro e w26 ⟨rfl, hb⟩; refine ⟨_, rfl, ?_⟩; have n0_ := Aside0.mk (Kd.R_below (pr_ (rf4_ HO208.out BK211.out)) hb); have n1_ := Aside0.mk (blk_below (g := gb203) (o := .cells #[.int .i64 a0_0, .slice A0_1 l0_1.length c0_1, .int .i64 a0_2, .bool true] 27 (0, 0)) (pp_ BK203.out) hb); have n2_ := Aside0.mk (blk_below (g := gb204) (o := .cells #[.int .i64 0, .slice none 0 0, .int .i64 0, .bool false] 27 (0, 0)) (pp_ BK204.out) hb); have n3_ := Aside0.mk (blk_below (g := gb211) (o := .cells #[.int .i64 t205, .slice Ao12 t206.length co12, .int .i64 t209, .bool t210] 27 (0, 0)) (pp_ BK211.out) hb); have n4_ := Aside0.mk (below_step (pb3_ HB.out GE203.out GE204.out GE211.out) hb); clear HO208; clear BK203; clear BK204; clear BK211; clear HB; have HO208 := n0_; have BK203 := n1_; have BK204 := n2_; have BK211 := n3_; have HB := n4_; clear n0_ n1_ n2_ n3_ n4_; (try clear hb); (try clear hb2); (try clear hk); (try clear hi); have hcz27_0 : w26.cell? ⟨gb203, 0, none⟩ = some (.int .i64 a0_0) := (blk_cell BK203.out 0).trans rfl; have hcz27_1 : w26.cell? ⟨gb203, 1, none⟩ = some (.slice A0_1 l0_1.length c0_1) := (blk_cell BK203.out 1).trans rfl; have hcz27_2 : w26.cell? ⟨gb203, 2, none⟩ = some (.int .i64 a0_2) := (blk_cell BK203.out 2).trans rfl; have hcz27_3 : w26.cell? ⟨gb203, 3, none⟩ = some (.bool true) := (blk_cell BK203.out 3).trans rfl; have hfz27_0 := blk_frozen BK203.out 0; have hfz27_1 := blk_frozen BK203.out 1; have hfz27_2 := blk_frozen BK203.out 2; have hfz27_3 := blk_frozen BK203.out 3; have hnb28 := NB211_204.out; have hnc28 := NB204_211.out; have hcz29_0 : w26.cell? ⟨gb211, 0, none⟩ = some (.int .i64 t205) := (blk_cell BK211.out 0).trans rfl; have hcz29_1 : w26.cell? ⟨gb211, 1, none⟩ = some (.slice Ao12 t206.length co12) := (blk_cell BK211.out 1).trans rfl; have hcz29_2 : w26.cell? ⟨gb211, 2, none⟩ = some (.int .i64 t209) := (blk_cell BK211.out 2).trans rfl; have hcz29_3 : w26.cell? ⟨gb211, 3, none⟩ = some (.bool t210) := (blk_cell BK211.out 3).trans rfl; have hfz29_0 := blk_frozen BK211.out 0; have hfz29_1 := blk_frozen BK211.out 1; have hfz29_2 := blk_frozen BK211.out 2; have hfz29_3 := blk_frozen BK211.out 3; have hcz30_0 : w26.cell? ⟨gb204, 0, none⟩ = some (.int .i64 0) := (blk_cell BK204.out 0).trans rfl; have hcz30_1 : w26.cell? ⟨gb204, 1, none⟩ = some (.slice none 0 0) := (blk_cell BK204.out 1).trans rfl; have hcz30_2 : w26.cell? ⟨gb204, 2, none⟩ = some (.int .i64 0) := (blk_cell BK204.out 2).trans rfl; have hcz30_3 : w26.cell? ⟨gb204, 3, none⟩ = some (.bool false) := (blk_cell BK204.out 3).trans rfl; have hfz30_0 := blk_frozen BK204.out 0; have hfz30_1 := blk_frozen BK204.out 1; have hfz30_2 := blk_frozen BK204.out 2; have hfz30_3 := blk_frozen BK204.out 3))
    refine bodyPost_ret (results_ct rfl _ _ gb204 27 #[.int .i64 t205, .slice Ao12 t206.length co12, .int .i64 t209, .bool t210] (0, 0) _ rfl (pp_ BK204.out) Try.underlying27 rfl (by kernel_rfl)) rfl ?_
    exact ⟨_, er_, pr_ (Kd.R_mono (rf4_ HO208.out BK204.out) (fun _ hk => trivial)), pb3_ HB.out GE203.out GE204.out GE211.out⟩
  replace c22 := Bool.eq_false_iff.mpr c22
  subst c22
  rw [if_neg (show ¬ (false = true) by decide)] at H
  have HS_ := Aside0.mk H
  clear H
  have hnb31 := NB203_204.out
  have hnc31 := NB204_203.out
  have hnb32 := NB203_211.out
  have hnc32 := NB211_203.out
  obtain ⟨hcz33_0, hcz33_1, hcz33_2, hcz33_3, hfz33_0, hfz33_1, hfz33_2, hfz33_3⟩ := bc4_ BK203.out
  go_upto_if 22 with (first | ((with_reducible refine gate_callee (f := 18) rfl ?_); refine goesL_ (some 8) rfl rfl Try.func18 (by kernel_rfl) rfl #[.agg #[.int .i64 a0_0, .slice A0_1 l0_1.length c0_1, .int .i64 a0_2, .bool false]] rfl mp_ ?_; (with_reducible refine (impl_IsRollout.calls k a0_0 _ _ l0_1 a0_2 false true _ ?side1 ?side2 A13.out).mono ?_); (case side1 => exact Kd.C_below HR0_1.out (pb3_ HB.out GE203.out GE204.out GE211.out)); (case side2 => exact HC0_1.out); rintro e w34 ⟨rfl, hb⟩; refine ⟨_, rfl, ?_⟩; have n0_ := Aside0.mk (Kd.R_below (pr_ (rf4_ HO208.out BK211.out)) hb); have n1_ := Aside0.mk (blk_below (g := gb203) (o := .cells #[.int .i64 a0_0, .slice A0_1 l0_1.length c0_1, .int .i64 a0_2, .bool false] 27 (0, 0)) (pp_ BK203.out) hb); have n2_ := Aside0.mk (blk_below (g := gb204) (o := .cells #[.int .i64 0, .slice none 0 0, .int .i64 0, .bool false] 27 (0, 0)) (pp_ BK204.out) hb); have n3_ := Aside0.mk (blk_below (g := gb211) (o := .cells #[.int .i64 t205, .slice Ao12 t206.length co12, .int .i64 t209, .bool t210] 27 (0, 0)) (pp_ BK211.out) hb); have n4_ := Aside0.mk (below_step (pb3_ HB.out GE203.out GE204.out GE211.out) hb); clear HO208; clear BK203; clear BK204; clear BK211; clear HB; have HO208 := n0_; have BK203 := n1_; have BK204 := n2_; have BK211 := n3_; have HB := n4_; clear n0_ n1_ n2_ n3_ n4_; (try clear hb); (try clear hb2); (try clear hk); (try clear hi); have hcz35_0 : w34.cell? ⟨gb203, 0, none⟩ = some (.int .i64 a0_0) := (blk_cell BK203.out 0).trans rfl; have hcz35_1 : w34.cell? ⟨gb203, 1, none⟩ = some (.slice A0_1 l0_1.length c0_1) := (blk_cell BK203.out 1).trans rfl; have hcz35_2 : w34.cell? ⟨gb203, 2, none⟩ = some (.int .i64 a0_2) := (blk_cell BK203.out 2).trans rfl; have hcz35_3 : w34.cell? ⟨gb203, 3, none⟩ = some (.bool false) := (blk_cell BK203.out 3).trans rfl; have hfz35_0 := blk_frozen BK203.out 0; have hfz35_1 := blk_frozen BK203.out 1; have hfz35_2 := blk_frozen BK203.out 2; have hfz35_3 := blk_frozen BK203.out 3))
  (try simp only [Act.put, List.setIfInBounds_toArray, List.set_cons_zero, List.set_cons_succ])
  have H := HS_.out
  clear HS_
  by_cases c36 : a0_2 = (wrap64 ((l0_1.length : Int) - 1))
  · rw [if_pos c36] at H
    have c36b0 : (a0_2 == (wrap64 ((l0_1.length : Int) - 1))) = true := beq_iff_eq.mpr c36
    have c36b1 : (a0_2 != (wrap64 ((l0_1.length : Int) - 1))) = false := bne_eq_false_iff_eq.mpr c36
    clear c36
    (first | rw [c36b0] | (simp only [i64_w, i32_w]; rw [c36b0]) | rw [c36b1] | (have c_ := c36b1; rw [bne] at c_; rw [c_]; clear c_) | skip)
    simp only [Option.some.injEq, Prod.mk.injEq] at H
    obtain ⟨rfl, rfl, rfl, rfl, rfl⟩ := H
    have hnb37 := NB211_203.out
    have hnc37 := NB203_211.out
    have hnb38 := NB211_204.out
    have hnc38 := NB204_211.out
    obtain ⟨hcz39_0, hcz39_1, hcz39_2, hcz39_3, hfz39_0, hfz39_1, hfz39_2, hfz39_3⟩ := bc4_ BK211.out
    have hnb40 := NB204_203.out
    have hnc40 := NB203_204.out
    obtain ⟨hcz41_0, hcz41_1, hcz41_2, hcz41_3, hfz41_0, hfz41_1, hfz41_2, hfz41_3⟩ := bc4_ BK204.out
    go_wp2
    refine bodyPost_ret (results_ct rfl _ _ gb204 27 #[.int .i64 t205, .slice Ao12 t206.length co12, .int .i64 t209, .bool t210] (0, 0) _ rfl (pp_ BK204.out) Try.underlying27 rfl (by kernel_rfl)) rfl ?_
    exact ⟨_, er_, pr_ (Kd.R_mono (rf4_ HO208.out BK204.out) (fun _ hk => trivial)), pb3_ HB.out GE203.out GE204.out GE211.out⟩
  rw [if_neg c36] at H
  have c36b0 : (a0_2 == (wrap64 ((l0_1.length : Int) - 1))) = false := beq_eq_false_iff_ne.mpr c36
  have c36b1 : (a0_2 != (wrap64 ((l0_1.length : Int) - 1))) = true := bne_iff_ne.mpr c36
  (first | rw [c36b0] | (simp only [i64_w, i32_w]; rw [c36b0]) | rw [c36b1] | (have c_ := c36b1; rw [bne] at c_; rw [c_]; clear c_) | skip)
  simp only [Option.some.injEq, Prod.mk.injEq] at H
  obtain ⟨rfl, rfl, rfl, rfl, rfl⟩ := H
  have hnb42 := NB211_203.out
  have hnc42 := NB203_211.out
  have hnb43 := NB211_204.out
  have hnc43 := NB204_211.out
  obtain ⟨hcz44_0, hcz44_1, hcz44_2, hcz44_3, hfz44_0, hfz44_1, hfz44_2, hfz44_3⟩ := bc4_ BK211.out
  have hnb45 := NB204_203.out
  have hnc45 := NB203_204.out
  obtain ⟨hcz46_0, hcz46_1, hcz46_2, hcz46_3, hfz46_0, hfz46_1, hfz46_2, hfz46_3⟩ := bc4_ BK204.out
  go_wp2
  refine bodyPost_ret (results_ct rfl _ _ gb204 27 #[.int .i64 t205, .slice Ao12 t206.length co12, .int .i64 (wrap64 (t209 + 1)), .bool t210] (0, 0) _ rfl (pp_ BK204.out) Try.underlying27 rfl (by kernel_rfl)) rfl ?_
  exact ⟨_, er_, pr_ (Kd.R_mono (Kd.R_far (p := ⟨gb204, 3, none⟩) (Kd.R_far (p := ⟨gb204, 2, none⟩) (Kd.R_far (p := ⟨gb204, 1, none⟩) (Kd.R_far (p := ⟨gb204, 0, none⟩) (Kd.R_far (p := ⟨gb211, 2, none⟩) (Kd.R_types (Kd.R_types HO208.out BK211.out (by decide)) BK204.out (by decide)) (fun _ hk => hk.1.2) (.int .i64 (wrap64 (t209 + 1)))) (fun _ hk => hk.2) (.int .i64 t205)) (fun _ hk => hk.2) (.slice Ao12 t206.length co12)) (fun _ hk => hk.2) (.int .i64 (wrap64 (t209 + 1)))) (fun _ hk => hk.2) (.bool t210)) (fun _ hk => trivial)), pb3_ HB.out GE203.out GE204.out GE211.out⟩

/-! ### impl_BackStage: function 31 -/
def impl_BackStage.f (k : Nat) (a0_0 : Int) (l0_1 : List Int) (a0_2 : Int) (a0_3 : Bool) : Option (Int × List Int × Int × Bool × Bool) := (impl_copyRollout.f a0_0 l0_1 a0_2 a0_3).bind fun bt215 => ((impl_IsRollout.f k a0_0 l0_1 a0_2 a0_3).bind fun t222 => (if t222 = true then (if a0_3 = true then (some (bt215.1, bt215.2.1, bt215.2.2.1, bt215.2.2.2, false)) else (some (bt215.1, bt215.2.1, 0, true, true))) else (some (bt215.1, bt215.2.1, bt215.2.2.1, bt215.2.2.2, false))))
theorem impl_BackStage.mono : ∀ a0 a1 a2 a3 k, LeO (impl_BackStage.f k a0 a1 a2 a3) (impl_BackStage.f (k + 1) a0 a1 a2 a3) := by
  intro a0 a1 a2 a3 k
  unfold impl_BackStage.f
  repeat' first
      | (with_reducible exact impl_IsRollout.mono _ _ _ _ _)
      | (with_reducible exact LeO.refl _)
      | (with_reducible exact LeO.none _)
      | (with_reducible refine LeO.ite ?_ ?_)
      | (with_reducible refine LeO.bind ?_ (fun _ => ?_))
      | exact impl_IsRollout.mono _ _ _ _ _
      | exact LeO.none _
      | refine LeO.ite ?_ ?_
      | refine LeO.bind ?_ (fun _ => ?_)
set_option maxHeartbeats 8000000 in
set_option maxRecDepth 100000 in
theorem impl_BackStage.calls (k : Nat) (a0_0 : Int) (A0_1 : Option Addr) (c0_1 : Nat) (l0_1 : List Int) (a0_2 : Int) (a0_3 : Bool) (r1 : Int) (r2 : List Int) (r3 : Int) (r4 : Bool) (r5 : Bool) (w : World) (hr0_1 : Kd.C (Kd.int .i64) w A0_1 l0_1.length l0_1) (hc0_1 : l0_1.length ≤ c0_1) (h : impl_BackStage.f k a0_0 l0_1 a0_2 a0_3 = some (r1, r2, r3, r4, r5)) :
    Calls Try.prog 31 #[.agg #[.int .i64 a0_0, .slice A0_1 l0_1.length c0_1, .int .i64 a0_2, .bool a0_3]] w fun e w' => ∃ v1_ : Value, e = .returned (.tuple #[.agg #[.int .i64 r1, v1_, .int .i64 r3, .bool r4], .bool r5]) ∧ Kd.R (Kd.int .i64) 3 w' w.heap.size (fun _ => True) v1_ r2 ∧ Below w.heap.size w w' := by
  have hu27 := Try.underlying27
  have HR0_1 := Aside0.mk hr0_1
  have HC0_1 := Aside0.mk hc0_1
  clear hr0_1 hc0_1
  have HB := Aside0.mk (Below.refl w.heap.size w)
  have H : ((impl_copyRollout.f a0_0 l0_1 a0_2 a0_3).bind fun bt215 => ((impl_IsRollout.f k a0_0 l0_1 a0_2 a0_3).bind fun t222 => (if t222 = true then (if a0_3 = true then (some (bt215.1, bt215.2.1, bt215.2.2.1, bt215.2.2.2, false)) else (some (bt215.1, bt215.2.1, 0, true, true))) else (some (bt215.1, bt215.2.1, bt215.2.2.1, bt215.2.2.2, false))))) = some (r1, r2, r3, r4, r5) := h
  clear h
  have HS_ := Aside0.mk H
  clear H
  go_enter Try.func31, Try.ntmps31
  go_upto_region 1 with (first | ((with_reducible refine gate_dst (N := 1) rfl ?_); refine box_event ?hg (N := 1) ?hd (cs := #[.int .i64 a0_0, .slice A0_1 l0_1.length c0_1, .int .i64 a0_2, .bool a0_3]) (t := 27) ?hr ?_; (case hd => rfl); (case hg => rfl); (case hr => first | (go_simp; done) | (go_simp; rfl)); intro gb213 hg w2 hbox hb; have n0_ := Aside0.mk (below_step (pb_ HB.out) hb); have n1_ := Aside0.mk (hbox); have n2_ := Aside0.mk ((by rw [hg]; exact (below_size (pb_ HB.out)) : w.heap.size ≤ gb213)); have n3_ := Aside0.mk ((by rw [hg]; exact (below_size (pb_ HB.out)) : w.heap.size ≤ gb213)); clear HB; have HB := n0_; have BK213 := n1_; have GW213 := n2_; have GE213 := n3_; clear n0_ n1_ n2_ n3_; clear hb hbox hg) | ((with_reducible refine gate_dst (N := 2) rfl ?_); refine box_event ?hg (N := 2) ?hd (cs := #[.int .i64 0, .slice none 0 0, .int .i64 0, .bool false]) (t := 27) ?hr ?_; (case hd => rfl); (case hg => rfl); (case hr => first | (go_simp; done) | (go_simp; rfl)); intro gb214 hg w3 hbox hb; have n0_ := Aside0.mk (bb_ BK213.out hb); have n1_ := Aside0.mk (below_step (pb1_ HB.out GE213.out) hb); have n2_ := Aside0.mk (hbox); have n3_ := Aside0.mk ((by rw [hg]; exact (below_size (pb1_ HB.out GE213.out)) : w.heap.size ≤ gb214)); have n4_ := Aside0.mk ((by rw [hg]; exact (below_size (pb1_ HB.out GE213.out)) : w.heap.size ≤ gb214)); have n5_ := Aside0.mk ((by rw [hg]; exact Nat.ne_of_lt (blk_lt (pk_ BK213.out)) : gb213 ≠ gb214)); have n6_ := Aside0.mk ((by rw [hg]; exact Nat.ne_of_gt (blk_lt (pk_ BK213.out)) : gb214 ≠ gb213)); clear BK213; clear HB; have BK213 := n0_; have HB := n1_; have BK214 := n2_; have GW214 := n3_; have GE214 := n4_; have NB213_214 := n5_; have NB214_213 := n6_; clear n0_ n1_ n2_ n3_ n4_ n5_ n6_; clear hb hbox hg))
  (try simp only [Act.put, List.setIfInBounds_toArray, List.set_cons_zero, List.set_cons_succ])
  have H := HS_.out
  clear HS_
  replace H := Option.bind_eq_some_iff.mp H
  obtain ⟨⟨t215, t216, t219, t220⟩, A40, H⟩ := H
  (try dsimp only at H)
  have A4 := Aside0.mk A40
  clear A40
  have HS_ := Aside0.mk H
  clear H
  have hnb5 := NB213_214.out
  have hnc5 := NB214_213.out
  obtain ⟨hcz6_0, hcz6_1, hcz6_2, hcz6_3, hfz6_0, hfz6_1, hfz6_2, hfz6_3⟩ := bc4_ BK213.out
  go_upto_region 2 with (first | ((with_reducible refine gate_callee (f := 59) rfl ?_); refine goesL_ (some 6) rfl rfl Try.func59 (by kernel_rfl) rfl #[.agg #[.int .i64 a0_0, .slice A0_1 l0_1.length c0_1, .int .i64 a0_2, .bool a0_3]] rfl mp_ ?_; (with_reducible refine (impl_copyRollout.calls a0_0 _ _ l0_1 a0_2 a0_3 t215 t216 t219 t220 _ ?side1 ?side2 A4.out).mono ?_); (case side1 => exact pc_ (Kd.C_below HR0_1.out HB.out)); (case side2 => exact HC0_1.out); rintro e w7 ⟨v217, rfl, ho0, hb⟩; refine ⟨_, rfl, ?_⟩; have n0_ := Aside0.mk (Kd.R_lower ho0 (below_size (pb2_ HB.out GE213.out GE214.out))); have n1_ := Aside0.mk (bb_ BK213.out hb); have n2_ := Aside0.mk (bb_ BK214.out hb); have n3_ := Aside0.mk (below_step (pb2_ HB.out GE213.out GE214.out) hb); clear BK213; clear BK214; clear HB; have HO218 := n0_; have BK213 := n1_; have BK214 := n2_; have HB := n3_; clear n0_ n1_ n2_ n3_; (try clear hb); (try clear hb2); (try clear hk); (try clear hi); (try clear ho0)) | ((with_reducible refine gate_dst (N := 4) rfl ?_); refine box_event ?hg (N := 4) ?hd (cs := #[.int .i64 0, .slice none 0 0, .int .i64 0, .bool false]) (t := 27) ?hr ?_; (case hd => rfl); (case hg => rfl); (case hr => first | (go_simp; done) | (go_simp; rfl)); intro gb221 hg w8 hbox hb; have n0_ := Aside0.mk (Kd.R_below (pr_ HO218.out) hb); have n1_ := Aside0.mk (bb_ BK213.out hb); have n2_ := Aside0.mk (bb_ BK214.out hb); have n3_ := Aside0.mk (below_step (pb2_ HB.out GE213.out GE214.out) hb); have n4_ := Aside0.mk (hbox); have n5_ := Aside0.mk ((by rw [hg]; exact (below_size (pb2_ HB.out GE213.out GE214.out)) : w.heap.size ≤ gb221)); have n6_ := Aside0.mk ((by rw [hg]; exact (below_size (pb2_ HB.out GE213.out GE214.out)) : w.heap.size ≤ gb221)); have n7_ := Aside0.mk ((by rw [hg]; exact Nat.ne_of_lt (blk_lt (pk_ BK213.out)) : gb213 ≠ gb221)); have n8_ := Aside0.mk ((by rw [hg]; exact Nat.ne_of_gt (blk_lt (pk_ BK213.out)) : gb221 ≠ gb213)); have n9_ := Aside0.mk ((by rw [hg]; exact Nat.ne_of_lt (blk_lt (pk_ BK214.out)) : gb214 ≠ gb221)); have n10_ := Aside0.mk ((by rw [hg]; exact Nat.ne_of_gt (blk_lt (pk_ BK214.out)) : gb221 ≠ gb214)); clear HO218; clear BK213; clear BK214; clear HB; have HO218 := n0_; have BK213 := n1_; have BK214 := n2_; have HB := n3_; have BK221 := n4_; have GW221 := n5_; have GE221 := n6_; have NB213_221 := n7_; have NB221_213 := n8_; have NB214_221 := n9_; have NB221_214 := n10_; clear n0_ n1_ n2_ n3_ n4_ n5_ n6_ n7_ n8_ n9_ n10_; clear hb hbox hg; have hnb9 := NB221_213.out; have hnc9 := NB213_221.out; have hnb10 := NB221_214.out; have hnc10 := NB214_221.out; have hcz11_0 : w8.cell? ⟨gb221, 0, none⟩ = some (.int .i64 0) := (blk_cell BK221.out 0).trans rfl; have hcz11_1 : w8.cell? ⟨gb221, 1, none⟩ = some (.slice none 0 0) := (blk_cell BK221.out 1).trans rfl; have hcz11_2 : w8.cell? ⟨gb221, 2, none⟩ = some (.int .i64 0) := (blk_cell BK221.out 2).trans rfl; have hcz11_3 : w8.cell? ⟨gb221, 3, none⟩ = some (.bool false) := (blk_cell BK221.out 3).trans rfl; have hfz11_0 := blk_frozen BK221.out 0; have hfz11_1 := blk_frozen BK221.out 1; have hfz11_2 := blk_frozen BK221.out 2; have hfz11_3 := blk_frozen BK221.out 3; obtain ⟨Ao12, co12, eo12⟩ := Kd.R_slice HO218.out; subst eo12))
  (try simp only [Act.put, List.setIfInBounds_toArray, List.set_cons_zero, List.set_cons_succ])
  have H := HS_.out
  clear HS_
  replace H := Option.bind_eq_some_iff.mp H
  obtain ⟨t222, A130, H⟩ := H
  (try dsimp only at H)
  have A13 := Aside0.mk A130
  clear A130
  by_cases c14 : t222 = true
  rotate_left
  · replace c14 := Bool.eq_false_iff.mpr c14
    subst c14
    rw [if_neg (show ¬ (false = true) by decide)] at H
    simp only [Option.some.injEq, Prod.mk.injEq] at H
    obtain ⟨rfl, rfl, rfl, rfl, rfl⟩ := H
    have hnb15 := NB213_214.out
    have hnc15 := NB214_213.out
    have hnb16 := NB213_221.out
    have hnc16 := NB221_213.out
    obtain ⟨hcz17_0, hcz17_1, hcz17_2, hcz17_3, hfz17_0, hfz17_1, hfz17_2, hfz17_3⟩ := bc4_ BK213.out
    go_wp2_with (first | ((with_reducible refine gate_callee (f := 18) rfl ?_); refine goesL_ (some 8) rfl rfl Try.func18 (by kernel_rfl) rfl #[.agg #[.int .i64 a0_0, .slice A0_1 l0_1.length c0_1, .int .i64 a0_2, .bool a0_3]] rfl mp_ ?_; (with_reducible refine (impl_IsRollout.calls k a0_0 _ _ l0_1 a0_2 a0_3 false _ ?side1 ?side2 A13.out).mono ?_); (case side1 => exact Kd.C_below HR0_1.out (pb3_ HB.out GE213.out GE214.out GE221.out)); (case side2 => exact HC0_1.out); rintro e w18 ⟨rfl, hb⟩; refine ⟨_, rfl, ?_⟩; have n0_ := Aside0.mk (Kd.R_below (pr_ (rf4_ HO218.out BK221.out)) hb); have n1_ := Aside0.mk (blk_below (g := gb213) (o := .cells #[.int .i64 a0_0, .slice A0_1 l0_1.length c0_1, .int .i64 a0_2, .bool a0_3] 27 (0, 0)) (pp_ BK213.out) hb); have n2_ := Aside0.mk (blk_below (g := gb214) (o := .cells #[.int .i64 0, .slice none 0 0, .int .i64 0, .bool false] 27 (0, 0)) (pp_ BK214.out) hb); have n3_ := Aside0.mk (blk_below (g := gb221) (o := .cells #[.int .i64 t215, .slice Ao12 t216.length co12, .int .i64 t219, .bool t220] 27 (0, 0)) (pp_ BK221.out) hb); have n4_ := Aside0.mk (below_step (pb3_ HB.out GE213.out GE214.out GE221.out) hb); clear HO218; clear BK213; clear BK214; clear BK221; clear HB; have HO218 := n0_; have BK213 := n1_; have BK214 := n2_; have BK221 := n3_; have HB := n4_; clear n0_ n1_ n2_ n3_ n4_; (try clear hb); (try clear hb2); (try clear hk); (try clear hi); have hnb19 := NB221_214.out; have hnc19 := NB214_221.out; have hcz20_0 : w18.cell? ⟨gb221, 0, none⟩ = some (.int .i64 t215) := (blk_cell BK221.out 0).trans rfl; have hcz20_1 : w18.cell? ⟨gb221, 1, none⟩ = some (.slice Ao12 t216.length co12) := (blk_cell BK221.out 1).trans rfl; have hcz20_2 : w18.cell? ⟨gb221, 2, none⟩ = some (.int .i64 t219) := (blk_cell BK221.out 2).trans rfl; have hcz20_3 : w18.cell? ⟨gb221, 3, none⟩ = some (.bool t220) := (blk_cell BK221.out 3).trans rfl; have hfz20_0 := blk_frozen BK221.out 0; have hfz20_1 := blk_frozen BK221.out 1; have hfz20_2 := blk_frozen BK221.out 2; have hfz20_3 := blk_frozen BK221.out 3; have hcz21_0 : w18.cell? ⟨gb214, 0, none⟩ = some (.int .i64 0) := (blk_cell BK214.out 0).trans rfl; have hcz21_1 : w18.cell? ⟨gb214, 1, none⟩ = some (.slice none 0 0) := (blk_cell BK214.out 1).trans rfl; have hcz21_2 : w18.cell? ⟨gb214, 2, none⟩ = some (.int .i64 0) := (blk_cell BK214.out 2).trans rfl; have hcz21_3 : w18.cell? ⟨gb214, 3, none⟩ = some (.bool false) := (blk_cell BK214.out 3).trans rfl; have hfz21_0 := blk_frozen BK214.out 0; have hfz21_1 := blk_frozen BK214.out 1; have hfz21_2 := blk_frozen BK214.out 2; have hfz21_3 := blk_frozen BK214.out 3))
    refine bodyPost_ret (results_ct rfl _ _ gb214 27 #[.int .i64 t215, .slice Ao12 t216.length co12, .int .i64 t219, .bool t220] (0, 0) _ rfl (pp_ BK214.out) Try.underlying27 rfl (by kernel_rfl)) rfl ?_
    exact ⟨_, er_, pr_ (Kd.R_mono (rf4_ HO218.out BK214.out) (fun _ hk => trivial)), pb3_ HB.out GE213.out GE214.out GE221.out⟩
  subst c14
  rw [if_pos rfl] at H
  have HS_ := Aside0.mk H
  clear H
  have hnb22 := NB213_214.out
  have hnc22 := NB214_213.out
  have hnb23 := NB213_221.out
  have hnc23 := NB221_213.out
  obtain ⟨hcz24_0, hcz24_1, hcz24_2, hcz24_3, hfz24_0, hfz24_1, hfz24_2, hfz24_3⟩ := bc4_ BK213.out
  go_upto_if 13 with (first | ((with_reducible refine gate_callee (f := 18) rfl ?_); refine goesL_ (some 8) rfl rfl Try.func18 (by kernel_rfl) rfl #[.agg #[.int .i64 a0_0, .slice A0_1 l0_1.length c0_1, .int .i64 a0_2, .bool a0_3]] rfl mp_ ?_; (with_reducible refine (impl_IsRollout.calls k a0_0 _ _ l0_1 a0_2 a0_3 true _ ?side1 ?side2 A13.out).mono ?_); (case side1 => exact Kd.C_below HR0_1.out (pb3_ HB.out GE213.out GE214.out GE221.out)); (case side2 => exact HC0_1.out); rintro e w25 ⟨rfl, hb⟩; refine ⟨_, rfl, ?_⟩; have n0_ := Aside0.mk (Kd.R_below (pr_ (rf4_ HO218.out BK221.out)) hb); have n1_ := Aside0.mk (blk_below (g := gb213) (o := .cells #[.int .i64 a0_0, .slice A0_1 l0_1.length c0_1, .int .i64 a0_2, .bool a0_3] 27 (0, 0)) (pp_ BK213.out) hb); have n2_ := Aside0.mk (blk_below (g := gb214) (o := .cells #[.int .i64 0, .slice none 0 0, .int .i64 0, .bool false] 27 (0, 0)) (pp_ BK214.out) hb); have n3_ := Aside0.mk (blk_below (g := gb221) (o := .cells #[.int .i64 t215, .slice Ao12 t216.length co12, .int .i64 t219, .bool t220] 27 (0, 0)) (pp_ BK221.out) hb); have n4_ := Aside0.mk (below_step (pb3_ HB.out GE213.out GE214.out GE221.out) hb); clear HO218; clear BK213; clear BK214; clear BK221; clear HB; have HO218 := n0_; have BK213 := n1_; have BK214 := n2_; have BK221 := n3_; have HB := n4_; clear n0_ n1_ n2_ n3_ n4_; (try clear hb); (try clear hb2); (try clear hk); (try clear hi); have hcz26_0 : w25.cell? ⟨gb213, 0, none⟩ = some (.int .i64 a0_0) := (blk_cell BK213.out 0).trans rfl; have hcz26_1 : w25.cell? ⟨gb213, 1, none⟩ = some (.slice A0_1 l0_1.length c0_1) := (blk_cell BK213.out 1).trans rfl; have hcz26_2 : w25.cell? ⟨gb213, 2, none⟩ = some (.int .i64 a0_2) := (blk_cell BK213.out 2).trans rfl; have hcz26_3 : w25.cell? ⟨gb213, 3, none⟩ = some (.bool a0_3) := (blk_cell BK213.out 3).trans rfl; have hfz26_0 := blk_frozen BK213.out 0; have hfz26_1 := blk_frozen BK213.out 1; have hfz26_2 := blk_frozen BK213.out 2; have hfz26_3 := blk_frozen BK213.out 3))
  (try simp only [Act.put, List.setIfInBounds_toArray, List.set_cons_zero, List.set_cons_succ])
  have H := HS_.out
  clear HS_
  by_cases c27 : a0_3 = true
  · subst c27
    rw [if_pos rfl] at H
    simp only [Option.some.injEq, Prod.mk.injEq] at H
    obtain ⟨rfl, rfl, rfl, rfl, rfl⟩ := H
    have hnb28 := NB221_213.out
    have hnc28 := NB213_221.out
    have hnb29 := NB221_214.out
    have hnc29 := NB214_221.out
    obtain ⟨hcz30_0, hcz30_1, hcz30_2, hcz30_3, hfz30_0, hfz30_1, hfz30_2, hfz30_3⟩ := bc4_ BK221.out
    have hnb31 := NB214_213.out
    have hnc31 := NB213_214.out
    obtain ⟨hcz32_0, hcz32_1, hcz32_2, hcz32_3, hfz32_0, hfz32_1, hfz32_2, hfz32_3⟩ := bc4_ BK214.out
    go_wp2
    refine bodyPost_ret (results_ct rfl _ _ gb214 27 #[.int .i64 t215, .slice Ao12 t216.length co12, .int .i64 t219, .bool t220] (0, 0) _ rfl (pp_ BK214.out) Try.underlying27 rfl (by kernel_rfl)) rfl ?_
    exact ⟨_, er_, pr_ (Kd.R_mono (rf4_ HO218.out BK214.out) (fun _ hk => trivial)), pb3_ HB.out GE213.out GE214.out GE221.out⟩
  replace c27 := Bool.eq_false_iff.mpr c27
  subst c27
  rw [if_neg (show ¬ (false = true) by decide)] at H
  simp only [Option.some.injEq, Prod.mk.injEq] at H
  obtain ⟨rfl, rfl, rfl, rfl, rfl⟩ := H
  have hnb33 := NB221_213.out
  have hnc33 := NB213_221.out
  have hnb34 := NB221_214.out
  have hnc34 := NB214_221.out
  obtain ⟨hcz35_0, hcz35_1, hcz35_2, hcz35_3, hfz35_0, hfz35_1, hfz35_2, hfz35_3⟩ := bc4_ BK221.out
  have hnb36 := NB214_213.out
  have hnc36 := NB213_214.out
  obtain ⟨hcz37_0, hcz37_1, hcz37_2, hcz37_3, hfz37_0, hfz37_1, hfz37_2, hfz37_3⟩ := bc4_ BK214.out
  go_wp2
  refine bodyPost_ret (results_ct rfl _ _ gb214 27 #[.int .i64 t215, .slice Ao12 t216.length co12, .int .i64 0, .bool true] (0, 0) _ rfl (pp_ BK214.out) Try.underlying27 rfl (by kernel_rfl)) rfl ?_
  exact ⟨_, er_, pr_ (Kd.R_mono (Kd.R_far (p := ⟨gb214, 3, none⟩) (Kd.R_far (p := ⟨gb214, 2, none⟩) (Kd.R_far (p := ⟨gb214, 1, none⟩) (Kd.R_far (p := ⟨gb214, 0, none⟩) (Kd.R_far (p := ⟨gb221, 2, none⟩) (Kd.R_far (p := ⟨gb221, 3, none⟩) (Kd.R_types (Kd.R_types HO218.out BK221.out (by decide)) BK214.out (by decide)) (fun _ hk => hk.1.2) (.bool true)) (fun _ hk => hk.1.2) (.int .i64 0)) (fun _ hk => hk.2) (.int .i64 t215)) (fun _ hk => hk.2) (.slice Ao12 t216.length co12)) (fun _ hk => hk.2) (.int .i64 0)) (fun _ hk => hk.2) (.bool true)) (fun _ hk => trivial)), pb3_ HB.out GE213.out GE214.out GE221.out⟩

/-! ### impl_signalled: function 65 -/
def impl_signalled.f (k : Nat) (a0_0 : Int) (l0_1 : List Int) (a0_2 : Int) (a0_3 : Bool) (a1 : Int) : Option (Int × List Int × Int × Bool) := if a1 = 1 then ((impl_NextStage.f k a0_0 l0_1 a0_2 a0_3).bind fun bt225 => (some (bt225.1, bt225.2.1, bt225.2.2.1, bt225.2.2.2.1))) else (if a1 = 2 then ((impl_BackStage.f k a0_0 l0_1 a0_2 a0_3).bind fun bt232 => (some (bt232.1, bt232.2.1, bt232.2.2.1, bt232.2.2.2.1))) else (some (a0_0, l0_1, a0_2, a0_3)))
theorem impl_signalled.mono : ∀ a0 a1 a2 a3 a4 k, LeO (impl_signalled.f k a0 a1 a2 a3 a4) (impl_signalled.f (k + 1) a0 a1 a2 a3 a4) := by
  intro a0 a1 a2 a3 a4 k
  unfold impl_signalled.f
  repeat' first
      | (with_reducible exact impl_BackStage.mono _ _ _ _ _)
      | (with_reducible exact impl_NextStage.mono _ _ _ _ _)
      | (with_reducible exact LeO.refl _)
      | (with_reducible exact LeO.none _)
      | (with_reducible refine LeO.ite ?_ ?_)
      | (with_reducible refine LeO.bind ?_ (fun _ => ?_))
      | exact impl_BackStage.mono _ _ _ _ _
      | exact impl_NextStage.mono _ _ _ _ _
      | exact LeO.none _
      | refine LeO.ite ?_ ?_
      | refine LeO.bind ?_ (fun _ => ?_)
set_option maxHeartbeats 8000000 in
set_option maxRecDepth 100000 in
theorem impl_signalled.calls (k : Nat) (a0_0 : Int) (P0_1_ : Nat → Prop) (u9000_ : Value) (l0_1 : List Int) (a0_2 : Int) (a0_3 : Bool) (a1 : Int) (r1 : Int) (r2 : List Int) (r3 : Int) (r4 : Bool) (w0 w : World) (hB : Below w0.heap.size w0 w) (ho0_1 : Kd.R (Kd.int .i64) 3 w w0.heap.size P0_1_ u9000_ l0_1) (h : impl_signalled.f k a0_0 l0_1 a0_2 a0_3 a1 = some (r1, r2, r3, r4)) :
    Calls Try.prog 65 #[.agg #[.int .i64 a0_0, u9000_, .int .i64 a0_2, .bool a0_3], .int .i64 a1] w fun e w' => ∃ v1_ : Value, e = .returned (.agg #[.int .i64 r1, v1_, .int .i64 r3, .bool r4]) ∧ Kd.R (Kd.int .i64) 3 w' w0.heap.size (fun k_ => (P0_1_ k_ ∨ w.heap.size ≤ k_)) v1_ r2 ∧ Below w0.heap.size w0 w' ∧ Kept w w' (fun k_ => P0_1_ k_) := by
  have hu27 := Try.underlying27
  have HO0_1 := Aside0.mk (show Kd.R (Kd.int .i64) 3 w w0.heap.size (fun k_ => (P0_1_ k_ ∨ w.heap.size ≤ k_)) u9000_ l0_1 from Kd.R_mono ho0_1 (fun k_ hk => (.inl hk)))
  have HK := Aside0.mk (Kept.refl w (fun k_ => P0_1_ k_))
  have HW0 := Aside0.mk hB.size
  have HB := Aside0.mk hB
  clear hB
  have H : (if a1 = 1 then ((impl_NextStage.f k a0_0 l0_1 a0_2 a0_3).bind fun bt225 => (some (bt225.1, bt225.2.1, bt225.2.2.1, bt225.2.2.2.1))) else (if a1 = 2 then ((impl_BackStage.f k a0_0 l0_1 a0_2 a0_3).bind fun bt232 => (some (bt232.1, bt232.2.1, bt232.2.2.1, bt232.2.2.2.1))) else (some (a0_0, l0_1, a0_2, a0_3)))) = some (r1, r2, r3, r4) := h
  clear h
  have HS_ := Aside0.mk H
  clear H
  obtain ⟨Ao3, co3, eo3⟩ := Kd.R_slice HO0_1.out
  subst eo3
  go_enter Try.func65, Try.ntmps65
  go_upto_if 6 with (first | ((with_reducible refine gate_dst (N := 2) rfl ?_); refine box_event ?hg (N := 2) ?hd (cs := #[.int .i64 a0_0, .slice Ao3 l0_1.length co3, .int .i64 a0_2, .bool a0_3]) (t := 27) ?hr ?_; (case hd => rfl); (case hg => rfl); (case hr => first | (go_simp; done) | (go_simp; rfl)); intro gb223 hg w4 hbox hb; have n0_ := Aside0.mk (Kd.R_below (pr_ HO0_1.out) hb); have n1_ := Aside0.mk (Kept.below (S := (fun k_ => P0_1_ k_)) (by repeat (first | (with_reducible first | exact HK.out | apply Kept.alloc | apply Kept.drewN | apply Kept.drew) | exact HK.out)) hb); have n2_ := Aside0.mk (below_step (pb_ HB.out) hb); have n3_ := Aside0.mk (hbox); have n4_ := Aside0.mk ((by rw [hg]; exact (by first | exact HK.out.1 | exact (show Kept w _ (fun k_ => P0_1_ k_) from by repeat (first | (with_reducible first | exact HK.out | apply Kept.alloc | apply Kept.drewN | apply Kept.drew) | exact HK.out)).1) : w.heap.size ≤ gb223)); have n5_ := Aside0.mk ((by rw [hg]; exact (below_size (pb_ HB.out)) : w0.heap.size ≤ gb223)); clear HO0_1; clear HK; clear HB; have HO0_1 := n0_; have HK := n1_; have HB := n2_; have BK223 := n3_; have GW223 := n4_; have GE223 := n5_; clear n0_ n1_ n2_ n3_ n4_ n5_; clear hb hbox hg) | ((with_reducible refine gate_dst (N := 4) rfl ?_); refine box_event ?hg (N := 4) ?hd (cs := #[.int .i64 0, .slice none 0 0, .int .i64 0, .bool false]) (t := 27) ?hr ?_; (case hd => rfl); (case hg => rfl); (case hr => first | (go_simp; done) | (go_simp; rfl)); intro gb224 hg w5 hbox hb; have n0_ := Aside0.mk (Kd.R_below (pr_ HO0_1.out) hb); have n1_ := Aside0.mk (bb_ BK223.out hb); have n2_ := Aside0.mk (Kept.below (S := (fun k_ => P0_1_ k_)) (by repeat (first | (with_reducible first | exact HK.out | apply Kept.alloc | apply Kept.drewN | apply Kept.drew | refine Kept.setCell ?_ (.inr GW223.out) _) | exact HK.out)) hb); have n3_ := Aside0.mk (below_step (pb1_ HB.out GE223.out) hb); have n4_ := Aside0.mk (hbox); have n5_ := Aside0.mk ((by rw [hg]; exact (by first | exact HK.out.1 | exact (show Kept w _ (fun k_ => P0_1_ k_) from by repeat (first | (with_reducible first | exact HK.out | apply Kept.alloc | apply Kept.drewN | apply Kept.drew | refine Kept.setCell ?_ (.inr GW223.out) _) | exact HK.out)).1) : w.heap.size ≤ gb224)); have n6_ := Aside0.mk ((by rw [hg]; exact (below_size (pb1_ HB.out GE223.out)) : w0.heap.size ≤ gb224)); have n7_ := Aside0.mk ((by rw [hg]; exact Nat.ne_of_lt (blk_lt (pk_ BK223.out)) : gb223 ≠ gb224)); have n8_ := Aside0.mk ((by rw [hg]; exact Nat.ne_of_gt (blk_lt (pk_ BK223.out)) : gb224 ≠ gb223)); clear HO0_1; clear BK223; clear HK; clear HB; have HO0_1 := n0_; have BK223 := n1_; have HK := n2_; have HB := n3_; have BK224 := n4_; have GW224 := n5_; have GE224 := n6_; have NB223_224 := n7_; have NB224_223 := n8_; clear n0_ n1_ n2_ n3_ n4_ n5_ n6_ n7_ n8_; clear hb hbox hg))
  (try simp only [Act.put, List.setIfInBounds_toArray, List.set_cons_zero, List.set_cons_succ])
  have H := HS_.out
  clear HS_
  by_cases c6 : a1 = 1
  · rw [if_pos c6] at H
    have c6b0 : (a1 == 1) = true := beq_iff_eq.mpr c6
    have c6b1 : (a1 != 1) = false := bne_eq_false_iff_eq.mpr c6
    clear c6
    (first | rw [c6b0] | (simp only [i64_w, i32_w]; rw [c6b0]) | rw [c6b1] | (have c_ := c6b1; rw [bne] at c_; rw [c_]; clear c_) | skip)
    replace H := Option.bind_eq_some_iff.mp H
    obtain ⟨⟨t225, t226, t229, t230, t231⟩, A70, H⟩ := H
    replace H : (some (t225, t226, t229, t230)) = some (r1, r2, r3, r4) := H
    have A7 := Aside0.mk A70
    clear A70
    simp only [Option.some.injEq, Prod.mk.injEq] at H
    obtain ⟨rfl, rfl, rfl, rfl⟩ := H
    have hnb8 := NB223_224.out
    have hnc8 := NB224_223.out
    obtain ⟨hcz9_0, hcz9_1, hcz9_2, hcz9_3, hfz9_0, hfz9_1, hfz9_2, hfz9_3⟩ := bc4_ BK223.out
    go_wp2_with (first | ((with_reducible refine gate_callee (f := 27) rfl ?_); refine goesL_ (some 10) rfl rfl Try.func27 (by kernel_rfl) rfl #[.agg #[.int .i64 a0_0, .slice Ao3 l0_1.length co3, .int .i64 a0_2, .bool a0_3]] rfl mp_ ?_; (with_reducible refine (impl_NextStage.calls k a0_0 _ _ l0_1 a0_2 a0_3 t225 t226 t229 t230 t231 _ ?side1 ?side2 A7.out).mono ?_); (case side1 => exact pc_ ((Kd.R_reads' HO0_1.out).2.2)); (case side2 => exact (Kd.R_reads' HO0_1.out).2.1); rintro e w10 ⟨v227, rfl, ho0, hb⟩; refine ⟨_, rfl, ?_⟩; have n0_ := Aside0.mk (Kd.R_elder' (pr_ HO0_1.out) (Kd.R_base ho0) hb); have n1_ := Aside0.mk (Kd.R_lower (Kd.R_new' (Kd.R_newM (M := fun k_ => (P0_1_ k_ ∨ w.heap.size ≤ k_)) ho0 (by first | exact HK.out.1 | exact (show Kept w _ (fun k_ => P0_1_ k_) from by repeat (first | (with_reducible first | exact HK.out | apply Kept.alloc | apply Kept.drewN | apply Kept.drew | refine Kept.setCell ?_ (.inr GW223.out) _ | refine Kept.setCell ?_ (.inr GW224.out) _) | exact HK.out)).1) (fun k_ h_ => .inr h_)) (Kd.R_lt (pr_ HO0_1.out))) (below_size (pb2_ HB.out GE223.out GE224.out))); have n2_ := Aside0.mk (bb_ BK223.out hb); have n3_ := Aside0.mk (bb_ BK224.out hb); have n4_ := Aside0.mk (Kept.below (S := (fun k_ => P0_1_ k_)) (by repeat (first | (with_reducible first | exact HK.out | apply Kept.alloc | apply Kept.drewN | apply Kept.drew | refine Kept.setCell ?_ (.inr GW223.out) _ | refine Kept.setCell ?_ (.inr GW224.out) _) | exact HK.out)) hb); have n5_ := Aside0.mk (below_step (pb2_ HB.out GE223.out GE224.out) hb); clear HO0_1; clear BK223; clear BK224; clear HK; clear HB; have HO0_1 := n0_; have HO228 := n1_; have BK223 := n2_; have BK224 := n3_; have HK := n4_; have HB := n5_; clear n0_ n1_ n2_ n3_ n4_ n5_; (try clear hb); (try clear hb2); (try clear hk); (try clear hi); (try clear ho0); have hcz11_0 : w10.cell? ⟨gb223, 0, none⟩ = some (.int .i64 a0_0) := (blk_cell BK223.out 0).trans rfl; have hcz11_1 : w10.cell? ⟨gb223, 1, none⟩ = some (.slice Ao3 l0_1.length co3) := (blk_cell BK223.out 1).trans rfl; have hcz11_2 : w10.cell? ⟨gb223, 2, none⟩ = some (.int .i64 a0_2) := (blk_cell BK223.out 2).trans rfl; have hcz11_3 : w10.cell? ⟨gb223, 3, none⟩ = some (.bool a0_3) := (blk_cell BK223.out 3).trans rfl; have hfz11_0 := blk_frozen BK223.out 0; have hfz11_1 := blk_frozen BK223.out 1; have hfz11_2 := blk_frozen BK223.out 2; have hfz11_3 := blk_frozen BK223.out 3; obtain ⟨Ao12, co12, eo12⟩ := Kd.R_slice HO228.out; subst eo12; have hcz13_0 : w10.cell? ⟨gb224, 0, none⟩ = some (.int .i64 0) := (blk_cell BK224.out 0).trans rfl; have hcz13_1 : w10.cell? ⟨gb224, 1, none⟩ = some (.slice none 0 0) := (blk_cell BK224.out 1).trans rfl; have hcz13_2 : w10.cell? ⟨gb224, 2, none⟩ = some (.int .i64 0) := (blk_cell BK224.out 2).trans rfl; have hcz13_3 : w10.cell? ⟨gb224, 3, none⟩ = some (.bool false) := (blk_cell BK224.out 3).trans rfl; have hfz13_0 := blk_frozen BK224.out 0; have hfz13_1 := blk_frozen BK224.out 1; have hfz13_2 := blk_frozen BK224.out 2; have hfz13_3 := blk_frozen BK224.out 3))
    refine bodyPost_ret (results_cell_row rfl _ _ gb224 27 #[.int .i64 t225, .slice Ao12 t226.length co12, .int .i64 t229, .bool t230] (0, 0) _ rfl (pp_ BK224.out) Try.underlying27 rfl (by kernel_rfl)) rfl ?_
    exact ⟨_, er_, pr_ (Kd.R_mono (Kd.R_far (p := ⟨gb224, 3, none⟩) (Kd.R_far (p := ⟨gb224, 2, none⟩) (Kd.R_far (p := ⟨gb224, 1, none⟩) (Kd.R_far (p := ⟨gb224, 0, none⟩) (Kd.R_far (p := ⟨gb223, 3, none⟩) (Kd.R_far (p := ⟨gb223, 2, none⟩) (Kd.R_far (p := ⟨gb223, 1, none⟩) (Kd.R_far (p := ⟨gb223, 0, none⟩) (Kd.R_types (Kd.R_types HO228.out BK223.out (by decide)) BK224.out (by decide)) (fun _ hk => hk.1.2) (.int .i64 t225)) (fun _ hk => hk.1.2) (.slice Ao12 t226.length co12)) (fun _ hk => hk.1.2) (.int .i64 t229)) (fun _ hk => hk.1.2) (.bool t230)) (fun _ hk => hk.2) (.int .i64 t225)) (fun _ hk => hk.2) (.slice Ao12 t226.length co12)) (fun _ hk => hk.2) (.int .i64 t229)) (fun _ hk => hk.2) (.bool t230)) (fun _ hk => hk.1.1.1.1)), pb2_ HB.out GE223.out GE224.out, by repeat (first | (with_reducible first | exact HK.out | apply Kept.alloc | apply Kept.drewN | apply Kept.drew | refine Kept.setCell ?_ (.inr GW223.out) _ | refine Kept.setCell ?_ (.inr GW224.out) _) | exact HK.out)⟩
  rw [if_neg c6] at H
  have c6b0 : (a1 == 1) = false := beq_eq_false_iff_ne.mpr c6
  have c6b1 : (a1 != 1) = true := bne_iff_ne.mpr c6
  (first | rw [c6b0] | (simp only [i64_w, i32_w]; rw [c6b0]) | rw [c6b1] | (have c_ := c6b1; rw [bne] at c_; rw [c_]; clear c_) | skip)
  by_cases c14 : a1 = 2
  rotate_left
  · rw [if_neg c14] at H
    have c14b0 : (a1 == 2) = false := beq_eq_false_iff_ne.mpr c14
    have c14b1 : (a1 != 2) = true := bne_iff_ne.mpr c14
    simp only [Option.some.injEq, Prod.mk.injEq] at H
    obtain ⟨rfl, rfl, rfl, rfl⟩ := H
    have hnb15 := NB223_224.out
    have hnc15 := NB224_223.out
    obtain ⟨hcz16_0, hcz16_1, hcz16_2, hcz16_3, hfz16_0, hfz16_1, hfz16_2, hfz16_3⟩ := bc4_ BK223.out
    obtain ⟨hcz17_0, hcz17_1, hcz17_2, hcz17_3, hfz17_0, hfz17_1, hfz17_2, hfz17_3⟩ := bc4_ BK224.out
    go_wp2
    refine bodyPost_ret (results_cell_row rfl _ _ gb224 27 #[.int .i64 a0_0, .slice Ao3 l0_1.length co3, .int .i64 a0_2, .bool a0_3] (0, 0) _ rfl (pp_ BK224.out) Try.underlying27 rfl (by kernel_rfl)) rfl ?_
    exact ⟨_, er_, pr_ (Kd.R_mono (Kd.R_far (p := ⟨gb224, 3, none⟩) (Kd.R_far (p := ⟨gb224, 2, none⟩) (Kd.R_far (p := ⟨gb224, 1, none⟩) (Kd.R_far (p := ⟨gb224, 0, none⟩) (Kd.R_types HO0_1.out BK224.out (by decide)) (fun _ hk => hk.2) (.int .i64 a0_0)) (fun _ hk => hk.2) (.slice Ao3 l0_1.length co3)) (fun _ hk => hk.2) (.int .i64 a0_2)) (fun _ hk => hk.2) (.bool a0_3)) (fun _ hk => hk.1)), pb2_ HB.out GE223.out GE224.out, by repeat (first | (with_reducible first | exact HK.out | apply Kept.alloc | apply Kept.drewN | apply Kept.drew | refine Kept.setCell ?_ (.inr GW223.out) _ | refine Kept.setCell ?_ (.inr GW224.out) _) | exact HK.out)⟩
  rw [if_pos c14] at H
  have c14b0 : (a1 == 2) = true := beq_iff_eq.mpr c14
  have c14b1 : (a1 != 2) = false := bne_eq_false_iff_eq.mpr c14
  clear c14
  replace H := Option.bind_eq_some_iff.mp H
  obtain ⟨⟨t232, t233, t236, t237, t238⟩, A180, H⟩ := H
  replace H : (some (t232, t233, t236, t237)) = some (r1, r2, r3, r4) := H
  have A18 := Aside0.mk A180
  clear A180
  simp only [Option.some.injEq, Prod.mk.injEq] at H
  obtain ⟨rfl, rfl, rfl, rfl⟩ := H
  have hnb19 := NB223_224.out
  have hnc19 := NB224_223.out
  obtain ⟨hcz20_0, hcz20_1, hcz20_2, hcz20_3, hfz20_0, hfz20_1, hfz20_2, hfz20_3⟩ := bc4_ BK223.out
  go_wp2_with (first | ((with_reducible refine gate_callee (f := 31) rfl ?_); refine goesL_ (some 17) rfl rfl Try.func31 (by kernel_rfl) rfl #[.agg #[.int .i64 a0_0, .slice Ao3 l0_1.length co3, .int .i64 a0_2, .bool a0_3]] rfl mp_ ?_; (with_reducible refine (impl_BackStage.calls k a0_0 _ _ l0_1 a0_2 a0_3 t232 t233 t236 t237 t238 _ ?side1 ?side2 A18.out).mono ?_); (case side1 => exact pc_ ((Kd.R_reads' HO0_1.out).2.2)); (case side2 => exact (Kd.R_reads' HO0_1.out).2.1); rintro e w21 ⟨v234, rfl, ho0, hb⟩; refine ⟨_, rfl, ?_⟩; have n0_ := Aside0.mk (Kd.R_elder' (pr_ HO0_1.out) (Kd.R_base ho0) hb); have n1_ := Aside0.mk (Kd.R_lower (Kd.R_new' (Kd.R_newM (M := fun k_ => (P0_1_ k_ ∨ w.heap.size ≤ k_)) ho0 (by first | exact HK.out.1 | exact (show Kept w _ (fun k_ => P0_1_ k_) from by repeat (first | (with_reducible first | exact HK.out | apply Kept.alloc | apply Kept.drewN | apply Kept.drew | refine Kept.setCell ?_ (.inr GW223.out) _ | refine Kept.setCell ?_ (.inr GW224.out) _) | exact HK.out)).1) (fun k_ h_ => .inr h_)) (Kd.R_lt (pr_ HO0_1.out))) (below_size (pb2_ HB.out GE223.out GE224.out))); have n2_ := Aside0.mk (bb_ BK223.out hb); have n3_ := Aside0.mk (bb_ BK224.out hb); have n4_ := Aside0.mk (Kept.below (S := (fun k_ => P0_1_ k_)) (by repeat (first | (with_reducible first | exact HK.out | apply Kept.alloc | apply Kept.drewN | apply Kept.drew | refine Kept.setCell ?_ (.inr GW223.out) _ | refine Kept.setCell ?_ (.inr GW224.out) _) | exact HK.out)) hb); have n5_ := Aside0.mk (below_step (pb2_ HB.out GE223.out GE224.out) hb); clear HO0_1; clear BK223; clear BK224; clear HK; clear HB; have HO0_1 := n0_; have HO235 := n1_; have BK223 := n2_; have BK224 := n3_; have HK := n4_; have HB := n5_; clear n0_ n1_ n2_ n3_ n4_ n5_; (try clear hb); (try clear hb2); (try clear hk); (try clear hi); (try clear ho0); have hcz22_0 : w21.cell? ⟨gb223, 0, none⟩ = some (.int .i64 a0_0) := (blk_cell BK223.out 0).trans rfl; have hcz22_1 : w21.cell? ⟨gb223, 1, none⟩ = some (.slice Ao3 l0_1.length co3) := (blk_cell BK223.out 1).trans rfl; have hcz22_2 : w21.cell? ⟨gb223, 2, none⟩ = some (.int .i64 a0_2) := (blk_cell BK223.out 2).trans rfl; have hcz22_3 : w21.cell? ⟨gb223, 3, none⟩ = some (.bool a0_3) := (blk_cell BK223.out 3).trans rfl; have hfz22_0 := blk_frozen BK223.out 0; have hfz22_1 := blk_frozen BK223.out 1; have hfz22_2 := blk_frozen BK223.out 2; have hfz22_3 := blk_frozen BK223.out 3; obtain ⟨Ao23, co23, eo23⟩ := Kd.R_slice HO235.out; subst eo23; have hcz24_0 : w21.cell? ⟨gb224, 0, none⟩ = some (.int .i64 0) := (blk_cell BK224.out 0).trans rfl; have hcz24_1 : w21.cell? ⟨gb224, 1, none⟩ = some (.slice none 0 0) := (blk_cell BK224.out 1).trans rfl; have hcz24_2 : w21.cell? ⟨gb224, 2, none⟩ = some (.int .i64 0) := (blk_cell BK224.out 2).trans rfl; have hcz24_3 : w21.cell? ⟨gb224, 3, none⟩ = some (.bool false) := (blk_cell BK224.out 3).trans rfl; have hfz24_0 := blk_frozen BK224.out 0; have hfz24_1 := blk_frozen BK224.out 1; have hfz24_2 := blk_frozen BK224.out 2; have hfz24_3 := blk_frozen BK224.out 3))
  refine bodyPost_ret (results_cell_row rfl _ _ gb224 27 #[.int .i64 t232, .slice Ao23 t233.length co23, .int .i64 t236, .bool t237] (0, 0) _ rfl (pp_ BK224.out) Try.underlying27 rfl (by kernel_rfl)) rfl ?_
  exact ⟨_, er_, pr_ (Kd.R_mono (Kd.R_far (p := ⟨gb224, 3, none⟩) (Kd.R_far (p := ⟨gb224, 2, none⟩) (Kd.R_far (p := ⟨gb224, 1, none⟩) (Kd.R_far (p := ⟨gb224, 0, none⟩) (Kd.R_far (p := ⟨gb223, 3, none⟩) (Kd.R_far (p := ⟨gb223, 2, none⟩) (Kd.R_far (p := ⟨gb223, 1, none⟩) (Kd.R_far (p := ⟨gb223, 0, none⟩) (Kd.R_types (Kd.R_types HO235.out BK223.out (by decide)) BK224.out (by decide)) (fun _ hk => hk.1.2) (.int .i64 t232)) (fun _ hk => hk.1.2) (.slice Ao23 t233.length co23)) (fun _ hk => hk.1.2) (.int .i64 t236)) (fun _ hk => hk.1.2) (.bool t237)) (fun _ hk => hk.2) (.int .i64 t232)) (fun _ hk => hk.2) (.slice Ao23 t233.length co23)) (fun _ hk => hk.2) (.int .i64 t236)) (fun _ hk => hk.2) (.bool t237)) (fun _ hk => hk.1.1.1.1)), pb2_ HB.out GE223.out GE224.out, by repeat (first | (with_reducible first | exact HK.out | apply Kept.alloc | apply Kept.drewN | apply Kept.drew | refine Kept.setCell ?_ (.inr GW223.out) _ | refine Kept.setCell ?_ (.inr GW224.out) _) | exact HK.out)⟩

/-! ### impl_StageAfter: function 45 -/
def impl_StageAfter.l0 : Nat → List Int → Int → Int → Int → List Int → Int → Bool → Option (Int × List Int × Int × Bool)
  | 0, _, _, _, _, _, _, _ => none
  | k + 1, x10, x11, x12, x248000, x248001, x248002, x248003 => if x12 < x11 then (if 0 ≤ x12 then (if x12 < (x10.length : Int) then ((impl_signalled.f k x248000 x248001 x248002 x248003 (rd x10 x12)).bind fun bt249 => (impl_StageAfter.l0 k x10 x11 (wrap64 (x12 + 1)) bt249.1 bt249.2.1 bt249.2.2.1 bt249.2.2.2)) else (none)) else (none)) else (some (x248000, x248001, x248002, x248003))
def impl_StageAfter.f (k : Nat) (a0_0 : Int) (l0_1 : List Int) (a0_2 : Int) (a0_3 : Bool) (l1 : List Int) : Option (Int × List Int × Int × Bool) := (impl_copyRollout.f a0_0 l0_1 a0_2 a0_3).bind fun bt241 => (impl_StageAfter.l0 k l1 (l1.length : Int) 0 bt241.1 bt241.2.1 bt241.2.2.1 bt241.2.2.2)
theorem impl_StageAfter.mono_l : ∀ k, (∀ y0 y1 y2 y3 y4 y5 y6, LeO (impl_StageAfter.l0 k y0 y1 y2 y3 y4 y5 y6) (impl_StageAfter.l0 (k + 1) y0 y1 y2 y3 y4 y5 y6))
  | 0 => fun _ _ _ _ _ _ _ r h => by simp [impl_StageAfter.l0] at h
  | k + 1 => by
    have ih0 := impl_StageAfter.mono_l k
    · intro y0 y1 y2 y3 y4 y5 y6
      unfold impl_StageAfter.l0
      repeat' first
      | (with_reducible exact ih0 _ _ _ _ _ _ _)
      | (with_reducible exact impl_signalled.mono _ _ _ _ _ _)
      | (with_reducible exact LeO.refl _)
      | (with_reducible exact LeO.none _)
      | (with_reducible refine LeO.ite ?_ ?_)
      | (with_reducible refine LeO.bind ?_ (fun _ => ?_))
      | exact ih0 _ _ _ _ _ _ _
      | exact impl_signalled.mono _ _ _ _ _ _
      | exact LeO.none _
      | refine LeO.ite ?_ ?_
      | refine LeO.bind ?_ (fun _ => ?_)
theorem impl_StageAfter.mono : ∀ a0 a1 a2 a3 a4 k, LeO (impl_StageAfter.f k a0 a1 a2 a3 a4) (impl_StageAfter.f (k + 1) a0 a1 a2 a3 a4) := by
  intro a0 a1 a2 a3 a4 k
  have ih0 := impl_StageAfter.mono_l k
  unfold impl_StageAfter.f
  repeat' first
      | (with_reducible exact ih0 _ _ _ _ _ _ _)
      | (with_reducible exact impl_signalled.mono _ _ _ _ _ _)
      | (with_reducible exact LeO.refl _)
      | (with_reducible exact LeO.none _)
      | (with_reducible refine LeO.ite ?_ ?_)
      | (with_reducible refine LeO.bind ?_ (fun _ => ?_))
      | exact ih0 _ _ _ _ _ _ _
      | exact impl_signalled.mono _ _ _ _ _ _
      | exact LeO.none _
      | refine LeO.ite ?_ ?_
      | refine LeO.bind ?_ (fun _ => ?_)
set_option maxHeartbeats 8000000 in
set_option maxRecDepth 100000 in
theorem impl_StageAfter.calls (k : Nat) (a0_0 : Int) (A0_1 : Option Addr) (c0_1 : Nat) (l0_1 : List Int) (a0_2 : Int) (a0_3 : Bool) (A1 : Option Addr) (c1 : Nat) (l1 : List Int) (r1 : Int) (r2 : List Int) (r3 : Int) (r4 : Bool) (w : World) (hr0_1 : Kd.C (Kd.int .i64) w A0_1 l0_1.length l0_1) (hc0_1 : l0_1.length ≤ c0_1) (hr1 : Kd.C (Kd.int .i64) w A1 l1.length l1) (hc1 : l1.length ≤ c1) (h : impl_StageAfter.f k a0_0 l0_1 a0_2 a0_3 l1 = some (r1, r2, r3, r4)) :
    Calls Try.prog 45 #[.agg #[.int .i64 a0_0, .slice A0_1 l0_1.length c0_1, .int .i64 a0_2, .bool a0_3], .slice A1 l1.length c1] w fun e w' => ∃ v1_ : Value, e = .returned (.agg #[.int .i64 r1, v1_, .int .i64 r3, .bool r4]) ∧ Kd.R (Kd.int .i64) 3 w' w.heap.size (fun _ => True) v1_ r2 ∧ Below w.heap.size w w' := by
  have hu27 := Try.underlying27
  have HR0_1 := Aside0.mk hr0_1
  have HC0_1 := Aside0.mk hc0_1
  clear hr0_1 hc0_1
  have HR1 := Aside0.mk hr1
  have HC1 := Aside0.mk hc1
  clear hr1 hc1
  have HB := Aside0.mk (Below.refl w.heap.size w)
  have H : ((impl_copyRollout.f a0_0 l0_1 a0_2 a0_3).bind fun bt241 => (impl_StageAfter.l0 k l1 (l1.length : Int) 0 bt241.1 bt241.2.1 bt241.2.2.1 bt241.2.2.2)) = some (r1, r2, r3, r4) := h
  clear h
  replace H := Option.bind_eq_some_iff.mp H
  obtain ⟨⟨t241, t242, t245, t246⟩, A30, H⟩ := H
  (try dsimp only at H)
  have A3 := Aside0.mk A30
  clear A30
  have H' := Aside0.mk H
  clear H
  go_enter Try.func45, Try.ntmps45
  go_wp2_with (first | ((with_reducible refine gate_dst (N := 2) rfl ?_); refine box_event ?hg (N := 2) ?hd (cs := #[.int .i64 a0_0, .slice A0_1 l0_1.length c0_1, .int .i64 a0_2, .bool a0_3]) (t := 27) ?hr ?_; (case hd => rfl); (case hg => rfl); (case hr => first | (go_simp; done) | (go_simp; rfl)); intro gb239 hg w4 hbox hb; have n0_ := Aside0.mk (below_step (pb_ HB.out) hb); have n1_ := Aside0.mk (hbox); have n2_ := Aside0.mk ((by rw [hg]; exact (below_size (pb_ HB.out)) : w.heap.size ≤ gb239)); have n3_ := Aside0.mk ((by rw [hg]; exact (below_size (pb_ HB.out)) : w.heap.size ≤ gb239)); clear HB; have HB := n0_; have BK239 := n1_; have GW239 := n2_; have GE239 := n3_; clear n0_ n1_ n2_ n3_; clear hb hbox hg) | ((with_reducible refine gate_dst (N := 4) rfl ?_); refine box_event ?hg (N := 4) ?hd (cs := #[.int .i64 0, .slice none 0 0, .int .i64 0, .bool false]) (t := 27) ?hr ?_; (case hd => rfl); (case hg => rfl); (case hr => first | (go_simp; done) | (go_simp; rfl)); intro gb240 hg w5 hbox hb; have n0_ := Aside0.mk (bb_ BK239.out hb); have n1_ := Aside0.mk (below_step (pb1_ HB.out GE239.out) hb); have n2_ := Aside0.mk (hbox); have n3_ := Aside0.mk ((by rw [hg]; exact (below_size (pb1_ HB.out GE239.out)) : w.heap.size ≤ gb240)); have n4_ := Aside0.mk ((by rw [hg]; exact (below_size (pb1_ HB.out GE239.out)) : w.heap.size ≤ gb240)); have n5_ := Aside0.mk ((by rw [hg]; exact Nat.ne_of_lt (blk_lt (pk_ BK239.out)) : gb239 ≠ gb240)); have n6_ := Aside0.mk ((by rw [hg]; exact Nat.ne_of_gt (blk_lt (pk_ BK239.out)) : gb240 ≠ gb239)); clear BK239; clear HB; have BK239 := n0_; have HB := n1_; have BK240 := n2_; have GW240 := n3_; have GE240 := n4_; have NB239_240 := n5_; have NB240_239 := n6_; clear n0_ n1_ n2_ n3_ n4_ n5_ n6_; clear hb hbox hg; have hnb6 := NB239_240.out; have hnc6 := NB240_239.out; have hcz7_0 : w5.cell? ⟨gb239, 0, none⟩ = some (.int .i64 a0_0) := (blk_cell BK239.out 0).trans rfl; have hcz7_1 : w5.cell? ⟨gb239, 1, none⟩ = some (.slice A0_1 l0_1.length c0_1) := (blk_cell BK239.out 1).trans rfl; have hcz7_2 : w5.cell? ⟨gb239, 2, none⟩ = some (.int .i64 a0_2) := (blk_cell BK239.out 2).trans rfl; have hcz7_3 : w5.cell? ⟨gb239, 3, none⟩ = some (.bool a0_3) := (blk_cell BK239.out 3).trans rfl; have hfz7_0 := blk_frozen BK239.out 0; have hfz7_1 := blk_frozen BK239.out 1; have hfz7_2 := blk_frozen BK239.out 2; have hfz7_3 := blk_frozen BK239.out 3) | ((with_reducible refine gate_callee (f := 59) rfl ?_); refine goesL_ (some 9) rfl rfl Try.func59 (by kernel_rfl) rfl #[.agg #[.int .i64 a0_0, .slice A0_1 l0_1.length c0_1, .int .i64 a0_2, .bool a0_3]] rfl mp_ ?_; (with_reducible refine (impl_copyRollout.calls a0_0 _ _ l0_1 a0_2 a0_3 t241 t242 t245 t246 _ ?side1 ?side2 A3.out).mono ?_); (case side1 => exact pc_ (Kd.C_below HR0_1.out HB.out)); (case side2 => exact HC0_1.out); rintro e w8 ⟨v243, rfl, ho0, hb⟩; refine ⟨_, rfl, ?_⟩; have n0_ := Aside0.mk (Kd.R_lower ho0 (below_size (pb2_ HB.out GE239.out GE240.out))); have n1_ := Aside0.mk (bb_ BK239.out hb); have n2_ := Aside0.mk (bb_ BK240.out hb); have n3_ := Aside0.mk (below_step (pb2_ HB.out GE239.out GE240.out) hb); clear BK239; clear BK240; clear HB; have HO244 := n0_; have BK239 := n1_; have BK240 := n2_; have HB := n3_; clear n0_ n1_ n2_ n3_; (try clear hb); (try clear hb2); (try clear hk); (try clear hi); (try clear ho0)) | ((with_reducible refine gate_dst (N := 5) rfl ?_); refine box_event ?hg (N := 5) ?hd (cs := #[.int .i64 0, .slice none 0 0, .int .i64 0, .bool false]) (t := 27) ?hr ?_; (case hd => rfl); (case hg => rfl); (case hr => first | (go_simp; done) | (go_simp; rfl)); intro gb247 hg w9 hbox hb; have n0_ := Aside0.mk (Kd.R_below (pr_ HO244.out) hb); have n1_ := Aside0.mk (bb_ BK239.out hb); have n2_ := Aside0.mk (bb_ BK240.out hb); have n3_ := Aside0.mk (below_step (pb2_ HB.out GE239.out GE240.out) hb); have n4_ := Aside0.mk (hbox); have n5_ := Aside0.mk ((by rw [hg]; exact (below_size (pb2_ HB.out GE239.out GE240.out)) : w.heap.size ≤ gb247)); have n6_ := Aside0.mk ((by rw [hg]; exact (below_size (pb2_ HB.out GE239.out GE240.out)) : w.heap.size ≤ gb247)); have n7_ := Aside0.mk ((by rw [hg]; exact Nat.ne_of_lt (blk_lt (pk_ BK239.out)) : gb239 ≠ gb247)); have n8_ := Aside0.mk ((by rw [hg]; exact Nat.ne_of_gt (blk_lt (pk_ BK239.out)) : gb247 ≠ gb239)); have n9_ := Aside0.mk ((by rw [hg]; exact Nat.ne_of_lt (blk_lt (pk_ BK240.out)) : gb240 ≠ gb247)); have n10_ := Aside0.mk ((by rw [hg]; exact Nat.ne_of_gt (blk_lt (pk_ BK240.out)) : gb247 ≠ gb240)); clear HO244; clear BK239; clear BK240; clear HB; have HO244 := n0_; have BK239 := n1_; have BK240 := n2_; have HB := n3_; have BK247 := n4_; have GW247 := n5_; have GE247 := n6_; have NB239_247 := n7_; have NB247_239 := n8_; have NB240_247 := n9_; have NB247_240 := n10_; clear n0_ n1_ n2_ n3_ n4_ n5_ n6_ n7_ n8_ n9_ n10_; clear hb hbox hg; have hnb10 := NB247_239.out; have hnc10 := NB239_247.out; have hnb11 := NB247_240.out; have hnc11 := NB240_247.out; have hcz12_0 : w9.cell? ⟨gb247, 0, none⟩ = some (.int .i64 0) := (blk_cell BK247.out 0).trans rfl; have hcz12_1 : w9.cell? ⟨gb247, 1, none⟩ = some (.slice none 0 0) := (blk_cell BK247.out 1).trans rfl; have hcz12_2 : w9.cell? ⟨gb247, 2, none⟩ = some (.int .i64 0) := (blk_cell BK247.out 2).trans rfl; have hcz12_3 : w9.cell? ⟨gb247, 3, none⟩ = some (.bool false) := (blk_cell BK247.out 3).trans rfl; have hfz12_0 := blk_frozen BK247.out 0; have hfz12_1 := blk_frozen BK247.out 1; have hfz12_2 := blk_frozen BK247.out 2; have hfz12_3 := blk_frozen BK247.out 3; obtain ⟨Ao13, co13, eo13⟩ := Kd.R_slice HO244.out; subst eo13))
  (try simp only [Act.put, List.setIfInBounds_toArray, List.set_cons_zero, List.set_cons_succ])
  go_loopg [12] k (fun kq v12 w' => ∃ (x12_1 : Int) (x248000_1 : Int) (x248001_1 : List Int) (x248002_1 : Int) (x248003_1 : Bool) (u248001 : Value), v12 = .int .i64 x12_1 ∧ Aside0 (impl_StageAfter.l0 kq l1 (l1.length : Int) x12_1 x248000_1 x248001_1 x248002_1 x248003_1 = some (r1, r2, r3, r4)) ∧ Aside0 (kq ≤ k) ∧ Aside0 (Kd.R (Kd.int .i64) 3 w' w.heap.size (fun _ => True) u248001 x248001_1) ∧ Aside0 (w'.heap[gb239]? = some (.cells #[.int .i64 a0_0, (.slice A0_1 l0_1.length c0_1), .int .i64 a0_2, .bool a0_3] 27 (0, 0))) ∧ Aside0 (w'.heap[gb240]? = some (.cells #[.int .i64 0, (.slice none 0 0), .int .i64 0, .bool false] 27 (0, 0))) ∧ Aside0 (w'.heap[gb247]? = some (.cells #[.int .i64 x248000_1, u248001, .int .i64 x248002_1, .bool x248003_1] 27 (0, 0))) ∧ Aside0 (Below w.heap.size w w'))
  case atStart => exact ⟨(0), (t241), (t242), (t245), (t246), (.slice Ao13 t242.length co13), el_, H', ⟨Nat.le_refl _⟩, ⟨pr_ (Kd.R_mono (rf4_ HO244.out BK247.out) (fun _ hk => trivial))⟩, ⟨pp_ BK239.out⟩, ⟨pp_ BK240.out⟩, ⟨pp_ BK247.out⟩, ⟨pb3_ HB.out GE239.out GE240.out GE247.out⟩⟩
  clear H'
  try clear c1
  try clear p2
  try clear c4
  try clear c5
  try clear c6
  try clear c10
  try clear c11
  try clear hcz12_0
  try clear hcz12_1
  try clear hcz12_2
  try clear hcz12_3
  try clear hcz7_0
  try clear hcz7_1
  try clear hcz7_2
  try clear hcz7_3
  try clear hfz12_0
  try clear hfz12_1
  try clear hfz12_2
  try clear hfz12_3
  try clear hfz7_0
  try clear hfz7_1
  try clear hfz7_2
  try clear hfz7_3
  obtain ⟨x12_1, x248000_1, x248001_1, x248002_1, x248003_1, u248001, rfl, HA, HK1, HO_248001, BK239, BK240, BK247, HB⟩ := hrel
  rcases gk with _ | k1
  · exact absurd HA.out (by simp [impl_StageAfter.l0])
  have H := HA.out
  clear HA
  simp only [impl_StageAfter.l0] at H
  by_cases c14 : x12_1 < (l1.length : Int)
  rotate_left
  · rw [if_neg c14] at H
    have c14b0 : decide (x12_1 < (l1.length : Int)) = false := decide_eq_false c14
    clear c14
    simp only [Option.some.injEq, Prod.mk.injEq] at H
    obtain ⟨rfl, rfl, rfl, rfl⟩ := H
    have hnb15 := NB247_239.out
    have hnc15 := NB239_247.out
    have hnb16 := NB247_240.out
    have hnc16 := NB240_247.out
    obtain ⟨hcz17_0, hcz17_1, hcz17_2, hcz17_3, hfz17_0, hfz17_1, hfz17_2, hfz17_3⟩ := bc4_ BK247.out
    have hnb18 := NB240_239.out
    have hnc18 := NB239_240.out
    obtain ⟨hcz19_0, hcz19_1, hcz19_2, hcz19_3, hfz19_0, hfz19_1, hfz19_2, hfz19_3⟩ := bc4_ BK240.out
    obtain ⟨Ao20, co20, eo20⟩ := Kd.R_slice HO_248001.out
    subst eo20
    go_wp2
    refine bodyPost_ret (results_cell_row rfl _ _ gb240 27 #[.int .i64 x248000_1, .slice Ao20 x248001_1.length co20, .int .i64 x248002_1, .bool x248003_1] (0, 0) _ rfl (pp_ BK240.out) Try.underlying27 rfl (by kernel_rfl)) rfl ?_
    exact ⟨_, er_, pr_ (Kd.R_mono (rf4_ HO_248001.out BK240.out) (fun _ hk => trivial)), pb3_ HB.out GE239.out GE240.out GE247.out⟩
  rw [if_pos c14] at H
  have c14b0 : decide (x12_1 < (l1.length : Int)) = true := decide_eq_true c14
  clear c14
  by_cases c21 : 0 ≤ x12_1
  rotate_left
  · rw [if_neg c21] at H
    exact absurd H (by simp)
  rw [if_pos c21] at H
  have c21b0 : decide (0 ≤ x12_1) = true := decide_eq_true c21
  clear c21
  by_cases c22 : x12_1 < (l1.length : Int)
  rotate_left
  · rw [if_neg c22] at H
    exact absurd H (by simp)
  rw [if_pos c22] at H
  have c22b0 : decide (x12_1 < (l1.length : Int)) = true := decide_eq_true c22
  clear c22
  replace H := Option.bind_eq_some_iff.mp H
  obtain ⟨⟨t249, t250, t253, t254⟩, A230, H⟩ := H
  (try dsimp only at H)
  have A23 := Aside0.mk A230
  clear A230
  have H' := Aside0.mk H
  clear H
  have p248 : 0 ≤ (x12_1 : Int) := dt_
  have q248 : x12_1 < (l1.length : Int) := dt_
  obtain ⟨ad248, e248, hx248_0⟩ := Kd.at_int HR1.out x12_1 p248 q248
  cases e248
  replace hx248_0 := (HB.out.cell (World.block_lt_of_cell? w _ hx248_0)).trans hx248_0
  replace p248 := eq_true p248
  replace q248 := eq_true q248
  have hnb24 := NB247_239.out
  have hnc24 := NB239_247.out
  have hnb25 := NB247_240.out
  have hnc25 := NB240_247.out
  obtain ⟨hcz26_0, hcz26_1, hcz26_2, hcz26_3, hfz26_0, hfz26_1, hfz26_2, hfz26_3⟩ := bc4_ BK247.out
  obtain ⟨Ao27, co27, eo27⟩ := Kd.R_slice HO_248001.out
  subst eo27
  go_wp2_with (first | ((with_reducible refine gate_callee (f := 65) rfl ?_); refine goesL_ (some 18) rfl rfl Try.func65 (by kernel_rfl) rfl #[.agg #[.int .i64 x248000_1, .slice Ao27 x248001_1.length co27, .int .i64 x248002_1, .bool x248003_1], .int .i64 (rd l1 x12_1)] rfl mp_ ?_; (with_reducible refine (impl_signalled.calls k1 x248000_1 (fun k_ => some k_ = (.slice Ao27 x248001_1.length co27 : Value).ownBlock) (.slice Ao27 x248001_1.length co27) x248001_1 x248002_1 x248003_1 (rd l1 x12_1) t249 t250 t253 t254 w _ ?side1 ?side2 A23.out).mono ?_); (case side1 => repeat (first | (with_reducible first | exact HB.out | apply below_alloc | apply pw_below_drewN | apply below_drew1 | refine below_set ?_ GE239.out | refine below_set ?_ GE240.out | refine below_set ?_ GE247.out) | exact HB.out)); (case side2 => exact Kd.R_tight rfl HO_248001.out); rintro e w28 ⟨v251, rfl, ho0, hb, hkp⟩; refine ⟨_, rfl, ?_⟩; have n0_ := Aside0.mk (blk_kept (pk_ BK239.out) hkp (fun hs_ => (fun e_ => (Kd.R_ne HO_248001.out BK239.out (by decide)) e_) hs_)); have n1_ := Aside0.mk (blk_kept (pk_ BK240.out) hkp (fun hs_ => (fun e_ => (Kd.R_ne HO_248001.out BK240.out (by decide)) e_) hs_)); have n2_ := Aside0.mk (blk_kept (pk_ BK247.out) hkp (fun hs_ => (fun e_ => (Kd.R_ne HO_248001.out BK247.out (by decide)) e_) hs_)); have n3_ := Aside0.mk (Kd.R_mono (ok' := fun k_ => True) ho0 (fun k_ hk_ => trivial)); have n4_ := Aside0.mk (hb); clear BK239; clear BK240; clear BK247; clear HB; clear HO_248001; have BK239 := n0_; have BK240 := n1_; have BK247 := n2_; have HO252 := n3_; have HB := n4_; clear n0_ n1_ n2_ n3_ n4_; (try clear hb); (try clear hkp); (try clear ho0); have hcz29_0 : w28.cell? ⟨gb247, 0, none⟩ = some (.int .i64 x248000_1) := (blk_cell BK247.out 0).trans rfl; have hcz29_1 : w28.cell? ⟨gb247, 1, none⟩ = some (.slice Ao27 x248001_1.length co27) := (blk_cell BK247.out 1).trans rfl; have hcz29_2 : w28.cell? ⟨gb247, 2, none⟩ = some (.int .i64 x248002_1) := (blk_cell BK247.out 2).trans rfl; have hcz29_3 : w28.cell? ⟨gb247, 3, none⟩ = some (.bool x248003_1) := (blk_cell BK247.out 3).trans rfl; have hfz29_0 := blk_frozen BK247.out 0; have hfz29_1 := blk_frozen BK247.out 1; have hfz29_2 := blk_frozen BK247.out 2; have hfz29_3 := blk_frozen BK247.out 3; obtain ⟨Ao30, co30, eo30⟩ := Kd.R_slice HO252.out; subst eo30))
  go_roundg k1
  case measure => have := HK1.out; omega
  case rel => exact ⟨(wrap64 (x12_1 + 1)), (t249), (t250), (t253), (t254), (.slice Ao30 t250.length co30), el_, H', ⟨by have := HK1.out; omega⟩, ⟨pr_ (Kd.R_mono (rf4_ HO252.out BK247.out) (fun _ hk => trivial))⟩, ⟨pp_ BK239.out⟩, ⟨pp_ BK240.out⟩, ⟨pp_ BK247.out⟩, ⟨pb3_ HB.out GE239.out GE240.out GE247.out⟩⟩

end Go.Proofs.Ytlcmkgbabffmeaa.Print
