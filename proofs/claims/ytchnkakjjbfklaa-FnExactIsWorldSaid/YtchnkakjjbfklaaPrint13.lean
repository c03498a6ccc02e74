-- Written by a program of this session (printx.py) out of the translation; Lean checks it.
import Derived.Test.YtchnkakjjbfklaaPrint0
import Derived.Test.YtchnkakjjbfklaaPrint11
import Derived.Test.YtchnkakjjbfklaaPrint12
namespace Go.Proofs.Ytchnkakjjbfklaa.Print
open Go.RowKit Go.Proofs.YtchnkakjjbfklaaW.PrintWords Go.Proofs.YtchnkakjjbfklaaW.PrintLast Go.Proofs.YtchnkakjjbfklaaW.PrintMore Go.Proofs.Ytchnkakjjbfklaa.Short
attribute [local go_sem] max2_int min2_int max_two min_two max_three min_three max_four min_four   -- for this text's walks alone
set_option linter.unusedVariables false
set_option linter.unusedSimpArgs false

/-! ### impl_IsHardened: function 81 -/
def impl_IsHardened.f (k : Nat) (l0 : List Int) : Option (Bool) := (slices_ContainsFunc_int_int_with_impl_IsReserved.f k l0).bind fun t464 => (some t464)
theorem impl_IsHardened.mono : ∀ a0 k, LeO (impl_IsHardened.f k a0) (impl_IsHardened.f (k + 1) a0) := by
  intro a0 k
  unfold impl_IsHardened.f
  repeat' first
      | (with_reducible exact slices_ContainsFunc_int_int_with_impl_IsReserved.mono _ _)
      | (with_reducible exact LeO.refl _)
      | (with_reducible exact LeO.none _)
      | (with_reducible refine LeO.ite ?_ ?_)
      | (with_reducible refine LeO.bind ?_ (fun _ => ?_))
      | exact slices_ContainsFunc_int_int_with_impl_IsReserved.mono _ _
      | exact LeO.none _
      | refine LeO.ite ?_ ?_
      | refine LeO.bind ?_ (fun _ => ?_)
set_option maxHeartbeats 8000000 in
set_option maxRecDepth 100000 in
theorem impl_IsHardened.calls (k : Nat) (A0 : Option Addr) (c0 : Nat) (l0 : List Int) (r : Bool) (w : World) (hr0 : Kd.C (Kd.int .i64) w A0 l0.length l0) (hc0 : l0.length ≤ c0) (h : impl_IsHardened.f k l0 = some r) :
    Calls Try.prog 81 #[.slice A0 l0.length c0] w fun e w' => e = .returned (.bool r) ∧ Below w.heap.size w w' := by
  have HR0 := Aside0.mk hr0
  have HC0 := Aside0.mk hc0
  clear hr0 hc0
  have HB := Aside0.mk (Below.refl w.heap.size w)
  have H : ((slices_ContainsFunc_int_int_with_impl_IsReserved.f k l0).bind fun t464 => (some t464)) = some r := h
  clear h
  replace H := Option.bind_eq_some_iff.mp H
  obtain ⟨t464, A20, H⟩ := H
  replace H : (some t464) = some r := H
  have A2 := Aside0.mk A20
  clear A20
  obtain rfl := Option.some.inj H
  go_enter Try.func81, Try.ntmps81
  go_wp2_with (first | (go_at_call 96; (with_reducible refine (slices_ContainsFunc_int_int_with_impl_IsReserved.calls k _ _ l0 t464 _ ?side1 ?side2 A2.out).mono ?_); (case side1 => exact pc_ HR0.out); (case side2 => exact HC0.out); rintro e w3 ⟨rfl, hb⟩; have _ := Aside0.mk (below_step (pb_ HB.out) hb); clear HB; rename_i HB; (try clear hb); (try clear hb2); (try clear hk); (try clear hi)))
  go_ret
  exact ⟨er_, pb_ HB.out⟩

/-! ### impl_IsBox: function 84 -/
def impl_IsBox.f (k : Nat) (a0_0 : Int) (l0_1 : List Int) (l0_2 : List Int) (a0_3 : Bool) : Option (Bool) := (impl_InRange.f a0_0 0 9).bind fun t466 => (if t466 = true then (if (l0_1.length : Int) ≤ 6 then (if (l0_2.length : Int) ≤ 6 then ((impl_areNumbers.f k l0_1 0 255).bind fun t467 => (if t467 = true then ((impl_areNumbers.f k l0_2 0 255).bind fun t468 => (some t468)) else (some false))) else (some false)) else (some false)) else (some false))
theorem impl_IsBox.mono : ∀ a0 a1 a2 a3 k, LeO (impl_IsBox.f k a0 a1 a2 a3) (impl_IsBox.f (k + 1) a0 a1 a2 a3) := by
  intro a0 a1 a2 a3 k
  unfold impl_IsBox.f
  repeat' first
      | (with_reducible exact impl_areNumbers.mono _ _ _ _)
      | (with_reducible exact LeO.refl _)
      | (with_reducible exact LeO.none _)
      | (with_reducible refine LeO.ite ?_ ?_)
      | (with_reducible refine LeO.bind ?_ (fun _ => ?_))
      | exact impl_areNumbers.mono _ _ _ _
      | exact LeO.none _
      | refine LeO.ite ?_ ?_
      | refine LeO.bind ?_ (fun _ => ?_)
set_option maxHeartbeats 8000000 in
set_option maxRecDepth 100000 in
theorem impl_IsBox.calls (k : Nat) (a0_0 : Int) (A0_1 : Option Addr) (c0_1 : Nat) (l0_1 : List Int) (A0_2 : Option Addr) (c0_2 : Nat) (l0_2 : List Int) (a0_3 : Bool) (r : Bool) (w : World) (hr0_1 : Kd.C (Kd.int .i64) w A0_1 l0_1.length l0_1) (hc0_1 : l0_1.length ≤ c0_1) (hr0_2 : Kd.C (Kd.int .i64) w A0_2 l0_2.length l0_2) (hc0_2 : l0_2.length ≤ c0_2) (h : impl_IsBox.f k a0_0 l0_1 l0_2 a0_3 = some r) :
    Calls Try.prog 84 #[.agg #[.int .i64 a0_0, .slice A0_1 l0_1.length c0_1, .slice A0_2 l0_2.length c0_2, .bool a0_3]] w fun e w' => e = .returned (.bool r) ∧ Below w.heap.size w w' := by
  have hu95 := Try.underlying95
  have HR0_1 := Aside0.mk hr0_1
  have HC0_1 := Aside0.mk hc0_1
  clear hr0_1 hc0_1
  have HR0_2 := Aside0.mk hr0_2
  have HC0_2 := Aside0.mk hc0_2
  clear hr0_2 hc0_2
  have HB := Aside0.mk (Below.refl w.heap.size w)
  have H : ((impl_InRange.f a0_0 0 9).bind fun t466 => (if t466 = true then (if (l0_1.length : Int) ≤ 6 then (if (l0_2.length : Int) ≤ 6 then ((impl_areNumbers.f k l0_1 0 255).bind fun t467 => (if t467 = true then ((impl_areNumbers.f k l0_2 0 255).bind fun t468 => (some t468)) else (some false))) else (some false)) else (some false)) else (some false))) = some r := h
  clear h
  have HS_ := Aside0.mk H
  clear H
  go_enter Try.func84, Try.ntmps84
  go_upto_region 1 with (first | ((with_reducible refine gate_dst (N := 1) rfl ?_); (try (refine gate_guard (by rfl) ?_; dsimp only)); refine box_event ?hg (N := 1) ?hd (cs := #[.int .i64 a0_0, .slice A0_1 l0_1.length c0_1, .slice A0_2 l0_2.length c0_2, .bool a0_3]) (t := 95) ?hr ?_; (case hd => rfl); (case hg => rfl); (case hr => first | (go_simp; done) | (go_simp; rfl)); intro gb465 hg w2 hbox hb; have n0_ := Aside0.mk (below_step (pb_ HB.out) hb); have n1_ := Aside0.mk (hbox); have n2_ := Aside0.mk ((by rw [hg]; exact (below_size (pb_ HB.out)) : w.heap.size ≤ gb465)); have n3_ := Aside0.mk ((by rw [hg]; exact (below_size (pb_ HB.out)) : w.heap.size ≤ gb465)); clear HB; have HB := n0_; have BK465 := n1_; have GW465 := n2_; have GE465 := n3_; clear n0_ n1_ n2_ n3_; clear hb hbox hg))
  (try simp only [Act.put, List.setIfInBounds_toArray, List.set_cons_zero, List.set_cons_succ])
  have H := HS_.out
  clear HS_
  replace H := Option.bind_eq_some_iff.mp H
  obtain ⟨t466, A30, H⟩ := H
  (try dsimp only at H)
  have A3 := Aside0.mk A30
  clear A30
  by_cases c4 : t466 = true
  rotate_left
  · replace c4 := Bool.eq_false_iff.mpr c4
    subst c4
    rw [if_neg (show ¬ (false = true) by decide)] at H
    obtain rfl := Option.some.inj H
    have hcz5 := bc4_ BK465.out
    go_wp2_with (first | ((with_reducible refine gate_callee (f := 57) rfl ?_); refine gl_ (some 5) Try.func57 #[.int .i64 a0_0, .int .i64 0, .int .i64 9] ?_; (with_reducible refine (impl_InRange.calls a0_0 0 9 false _ A3.out).mono ?_); rintro e w' ⟨rfl, ⟨nd, rfl⟩⟩; refine ⟨_, rfl, ?_⟩))
    go_ret
    exact ⟨er_, pb1_ HB.out GE465.out⟩
  subst c4
  rw [if_pos rfl] at H
  by_cases c6 : (l0_1.length : Int) ≤ 6
  rotate_left
  · rw [if_neg c6] at H
    have c6b0 : decide ((l0_1.length : Int) ≤ 6) = false := decide_eq_false c6
    have c6b1 : decide (l0_1.length ≤ 6) = false := decide_eq_false (by omega)
    clear c6
    (first | rw [c6b0] | (simp only [i64_w, i32_w]; rw [c6b0]) | rw [c6b1] | skip)
    obtain rfl := Option.some.inj H
    have hcz7 := bc4_ BK465.out
    go_wp2_with (first | ((with_reducible refine gate_callee (f := 57) rfl ?_); refine gl_ (some 5) Try.func57 #[.int .i64 a0_0, .int .i64 0, .int .i64 9] ?_; (with_reducible refine (impl_InRange.calls a0_0 0 9 true _ A3.out).mono ?_); rintro e w' ⟨rfl, ⟨nd, rfl⟩⟩; refine ⟨_, rfl, ?_⟩))
    go_ret
    exact ⟨er_, pb1_ HB.out GE465.out⟩
  rw [if_pos c6] at H
  have c6b0 : decide ((l0_1.length : Int) ≤ 6) = true := decide_eq_true c6
  have c6b1 : decide (l0_1.length ≤ 6) = true := decide_eq_true (by omega)
  clear c6
  (first | rw [c6b0] | (simp only [i64_w, i32_w]; rw [c6b0]) | rw [c6b1] | skip)
  by_cases c8 : (l0_2.length : Int) ≤ 6
  rotate_left
  · rw [if_neg c8] at H
    have c8b0 : decide ((l0_2.length : Int) ≤ 6) = false := decide_eq_false c8
    have c8b1 : decide (l0_2.length ≤ 6) = false := decide_eq_false (by omega)
    clear c8
    obtain rfl := Option.some.inj H
    have hcz9 := bc4_ BK465.out
    go_wp2_with (first | ((with_reducible refine gate_callee (f := 57) rfl ?_); refine gl_ (some 5) Try.func57 #[.int .i64 a0_0, .int .i64 0, .int .i64 9] ?_; (with_reducible refine (impl_InRange.calls a0_0 0 9 true _ A3.out).mono ?_); rintro e w' ⟨rfl, ⟨nd, rfl⟩⟩; refine ⟨_, rfl, ?_⟩))
    go_ret
    exact ⟨er_, pb1_ HB.out GE465.out⟩
  rw [if_pos c8] at H
  have c8b0 : decide ((l0_2.length : Int) ≤ 6) = true := decide_eq_true c8
  have c8b1 : decide (l0_2.length ≤ 6) = true := decide_eq_true (by omega)
  clear c8
  replace H := Option.bind_eq_some_iff.mp H
  obtain ⟨t467, A100, H⟩ := H
  (try dsimp only at H)
  have A10 := Aside0.mk A100
  clear A100
  by_cases c11 : t467 = true
  rotate_left
  · replace c11 := Bool.eq_false_iff.mpr c11
    subst c11
    rw [if_neg (show ¬ (false = true) by decide)] at H
    obtain rfl := Option.some.inj H
    have hcz12 := bc4_ BK465.out
    go_wp2_with (first | ((with_reducible refine gate_callee (f := 57) rfl ?_); refine gl_ (some 5) Try.func57 #[.int .i64 a0_0, .int .i64 0, .int .i64 9] ?_; (with_reducible refine (impl_InRange.calls a0_0 0 9 true _ A3.out).mono ?_); rintro e w' ⟨rfl, ⟨nd, rfl⟩⟩; refine ⟨_, rfl, ?_⟩) | (go_at_call 79; (with_reducible refine (impl_areNumbers.calls k _ _ l0_1 0 255 false _ ?side1 ?side2 A10.out).mono ?_); (case side1 => exact pc_ (Kd.C_below HR0_1.out (pb1_ HB.out GE465.out))); (case side2 => exact HC0_1.out); rintro e w13 ⟨rfl, hb⟩; have _ := Aside0.mk (bb_ BK465.out hb); have _ := Aside0.mk (below_step (pb1_ HB.out GE465.out) hb); clear BK465 HB; rename_i BK465 HB; (try clear hb); (try clear hb2); (try clear hk); (try clear hi)))
    go_ret
    exact ⟨er_, pb1_ HB.out GE465.out⟩
  subst c11
  rw [if_pos rfl] at H
  replace H := Option.bind_eq_some_iff.mp H
  obtain ⟨t468, A140, H⟩ := H
  replace H : (some t468) = some r := H
  have A14 := Aside0.mk A140
  clear A140
  obtain rfl := Option.some.inj H
  have hcz15 := bc4_ BK465.out
  go_wp2_with (first | ((with_reducible refine gate_callee (f := 57) rfl ?_); refine gl_ (some 5) Try.func57 #[.int .i64 a0_0, .int .i64 0, .int .i64 9] ?_; (with_reducible refine (impl_InRange.calls a0_0 0 9 true _ A3.out).mono ?_); rintro e w' ⟨rfl, ⟨nd, rfl⟩⟩; refine ⟨_, rfl, ?_⟩) | (go_at_call 79; (with_reducible refine (impl_areNumbers.calls k _ _ l0_1 0 255 true _ ?side1 ?side2 A10.out).mono ?_); (case side1 => exact pc_ (Kd.C_below HR0_1.out (pb1_ HB.out GE465.out))); (case side2 => exact HC0_1.out); rintro e w16 ⟨rfl, hb⟩; have _ := Aside0.mk (bb_ BK465.out hb); have _ := Aside0.mk (below_step (pb1_ HB.out GE465.out) hb); clear BK465 HB; rename_i BK465 HB; (try clear hb); (try clear hb2); (try clear hk); (try clear hi); have hcz17 := bc4_ BK465.out) | (go_at_call 79; (with_reducible refine (impl_areNumbers.calls k _ _ l0_2 0 255 t468 _ ?side1 ?side2 A14.out).mono ?_); (case side1 => exact cb_ HR0_2 HB); (case side2 => exact HC0_2.out); rintro e w18 ⟨rfl, hb⟩; have _ := Aside0.mk (bb_ BK465.out hb); have _ := Aside0.mk (below_step (pb1_ HB.out GE465.out) hb); clear BK465 HB; rename_i BK465 HB; (try clear hb); (try clear hb2); (try clear hk); (try clear hi)))
  go_ret
  exact ⟨er_, pb1_ HB.out GE465.out⟩

/-! ### impl_IsEndpoint_1: function 83 -/
def impl_IsEndpoint_1.f (k : Nat) (a0_0 : Int) (l0_1 : List Int) (l0_2 : List Int) (a0_3 : Bool) : Option (Bool) := (impl_IsBox.f k a0_0 l0_1 l0_2 a0_3).bind fun t470 => (some (!t470))
theorem impl_IsEndpoint_1.mono : ∀ a0 a1 a2 a3 k, LeO (impl_IsEndpoint_1.f k a0 a1 a2 a3) (impl_IsEndpoint_1.f (k + 1) a0 a1 a2 a3) := by
  intro a0 a1 a2 a3 k
  unfold impl_IsEndpoint_1.f
  repeat' first
      | (with_reducible exact impl_IsBox.mono _ _ _ _ _)
      | (with_reducible exact LeO.refl _)
      | (with_reducible exact LeO.none _)
      | (with_reducible refine LeO.ite ?_ ?_)
      | (with_reducible refine LeO.bind ?_ (fun _ => ?_))
      | exact impl_IsBox.mono _ _ _ _ _
      | exact LeO.none _
      | refine LeO.ite ?_ ?_
      | refine LeO.bind ?_ (fun _ => ?_)
set_option maxHeartbeats 8000000 in
set_option maxRecDepth 100000 in
theorem impl_IsEndpoint_1.calls (k : Nat) (a0_0 : Int) (A0_1 : Option Addr) (c0_1 : Nat) (l0_1 : List Int) (A0_2 : Option Addr) (c0_2 : Nat) (l0_2 : List Int) (a0_3 : Bool) (r : Bool) (w : World) (hr0_1 : Kd.C (Kd.int .i64) w A0_1 l0_1.length l0_1) (hc0_1 : l0_1.length ≤ c0_1) (hr0_2 : Kd.C (Kd.int .i64) w A0_2 l0_2.length l0_2) (hc0_2 : l0_2.length ≤ c0_2) (h : impl_IsEndpoint_1.f k a0_0 l0_1 l0_2 a0_3 = some r) :
    Calls Try.prog 83 #[.agg #[.int .i64 a0_0, .slice A0_1 l0_1.length c0_1, .slice A0_2 l0_2.length c0_2, .bool a0_3]] w fun e w' => e = .returned (.bool r) ∧ Below w.heap.size w w' := by
  have hu95 := Try.underlying95
  have HR0_1 := Aside0.mk hr0_1
  have HC0_1 := Aside0.mk hc0_1
  clear hr0_1 hc0_1
  have HR0_2 := Aside0.mk hr0_2
  have HC0_2 := Aside0.mk hc0_2
  clear hr0_2 hc0_2
  have HB := Aside0.mk (Below.refl w.heap.size w)
  have H : ((impl_IsBox.f k a0_0 l0_1 l0_2 a0_3).bind fun t470 => (some (!t470))) = some r := h
  clear h
  replace H := Option.bind_eq_some_iff.mp H
  obtain ⟨t470, A20, H⟩ := H
  replace H : (some (!t470)) = some r := H
  have A2 := Aside0.mk A20
  clear A20
  obtain rfl := Option.some.inj H
  go_enter Try.func83, Try.ntmps83
  go_wp2_with (first | ((with_reducible refine gate_dst (N := 1) rfl ?_); refine box_event ?hg (N := 1) ?hd (cs := #[.int .i64 a0_0, .slice A0_1 l0_1.length c0_1, .slice A0_2 l0_2.length c0_2, .bool a0_3]) (t := 95) ?hr ?_; (case hd => rfl); (case hg => rfl); (case hr => first | (go_simp; done) | (go_simp; rfl)); intro gb469 hg w3 hbox hb; have n0_ := Aside0.mk (below_step (pb_ HB.out) hb); have n1_ := Aside0.mk (hbox); have n2_ := Aside0.mk ((by rw [hg]; exact (below_size (pb_ HB.out)) : w.heap.size ≤ gb469)); have n3_ := Aside0.mk ((by rw [hg]; exact (below_size (pb_ HB.out)) : w.heap.size ≤ gb469)); clear HB; have HB := n0_; have BK469 := n1_; have GW469 := n2_; have GE469 := n3_; clear n0_ n1_ n2_ n3_; clear hb hbox hg; have hcz4 := bc4_ BK469.out) | ((with_reducible refine gate_callee (f := 84) rfl ?_); refine gl_ (some 4) Try.func84 #[.agg #[.int .i64 a0_0, .slice A0_1 l0_1.length c0_1, .slice A0_2 l0_2.length c0_2, .bool a0_3]] ?_; (with_reducible refine (impl_IsBox.calls k a0_0 _ _ l0_1 _ _ l0_2 a0_3 t470 _ ?side1 ?side2 ?side3 ?side4 A2.out).mono ?_); (case side1 => exact cb_ HR0_1 HB); (case side2 => exact HC0_1.out); (case side3 => exact cb_ HR0_2 HB); (case side4 => exact HC0_2.out); rintro e w5 ⟨rfl, hb⟩; refine ⟨_, rfl, ?_⟩; have _ := Aside0.mk (bb_ BK469.out hb); have _ := Aside0.mk (below_step (pb1_ HB.out GE469.out) hb); clear BK469 HB; rename_i BK469 HB; (try clear hb); (try clear hb2); (try clear hk); (try clear hi)))
  go_ret
  exact ⟨er_, pb1_ HB.out GE469.out⟩

/-! ### slices_IndexFunc_impl_Box_impl_Box_with_impl_IsEndpoint_1: function 100009 -/
def slices_IndexFunc_impl_Box_impl_Box_with_impl_IsEndpoint_1.l0 : Nat → List (S95) → Int → Int → Option (Int)
  | 0, _, _, _ => none
  | k + 1, x0, x7, x8 => if x8 < x7 then (if 0 ≤ x8 then (if x8 < (x0.length : Int) then ((impl_IsEndpoint_1.f k ((rd_T95 x0 x8).f0) ((rd_T95 x0 x8).f1) ((rd_T95 x0 x8).f2) ((rd_T95 x0 x8).f3)).bind fun t472 => (if t472 = true then (some x8) else (slices_IndexFunc_impl_Box_impl_Box_with_impl_IsEndpoint_1.l0 k x0 x7 (wrap64 (x8 + 1))))) else (none)) else (none)) else (some (-1))
def slices_IndexFunc_impl_Box_impl_Box_with_impl_IsEndpoint_1.f (k : Nat) (l0 : List (S95)) : Option (Int) := slices_IndexFunc_impl_Box_impl_Box_with_impl_IsEndpoint_1.l0 k l0 (l0.length : Int) 0
theorem slices_IndexFunc_impl_Box_impl_Box_with_impl_IsEndpoint_1.mono_l : ∀ k, (∀ y0 y1 y2, LeO (slices_IndexFunc_impl_Box_impl_Box_with_impl_IsEndpoint_1.l0 k y0 y1 y2) (slices_IndexFunc_impl_Box_impl_Box_with_impl_IsEndpoint_1.l0 (k + 1) y0 y1 y2))
  | 0 => fun _ _ _ r h => by simp [slices_IndexFunc_impl_Box_impl_Box_with_impl_IsEndpoint_1.l0] at h
  | k + 1 => by
    have ih0 := slices_IndexFunc_impl_Box_impl_Box_with_impl_IsEndpoint_1.mono_l k
    · intro y0 y1 y2
      unfold slices_IndexFunc_impl_Box_impl_Box_with_impl_IsEndpoint_1.l0
      repeat' first
      | (with_reducible exact ih0 _ _ _)
      | (with_reducible exact impl_IsEndpoint_1.mono _ _ _ _ _)
      | (with_reducible exact LeO.refl _)
      | (with_reducible exact LeO.none _)
      | (with_reducible refine LeO.ite ?_ ?_)
      | (with_reducible refine LeO.bind ?_ (fun _ => ?_))
      | exact ih0 _ _ _
      | exact impl_IsEndpoint_1.mono _ _ _ _ _
      | exact LeO.none _
      | refine LeO.ite ?_ ?_
      | refine LeO.bind ?_ (fun _ => ?_)
theorem slices_IndexFunc_impl_Box_impl_Box_with_impl_IsEndpoint_1.mono : ∀ a0 k, LeO (slices_IndexFunc_impl_Box_impl_Box_with_impl_IsEndpoint_1.f k a0) (slices_IndexFunc_impl_Box_impl_Box_with_impl_IsEndpoint_1.f (k + 1) a0) := by
  intro a0 k
  have ih0 := slices_IndexFunc_impl_Box_impl_Box_with_impl_IsEndpoint_1.mono_l k
  unfold slices_IndexFunc_impl_Box_impl_Box_with_impl_IsEndpoint_1.f
  repeat' first
      | (with_reducible exact ih0 _ _ _)
      | (with_reducible exact impl_IsEndpoint_1.mono _ _ _ _ _)
      | (with_reducible exact LeO.refl _)
      | (with_reducible exact LeO.none _)
      | (with_reducible refine LeO.ite ?_ ?_)
      | (with_reducible refine LeO.bind ?_ (fun _ => ?_))
      | exact ih0 _ _ _
      | exact impl_IsEndpoint_1.mono _ _ _ _ _
      | exact LeO.none _
      | refine LeO.ite ?_ ?_
      | refine LeO.bind ?_ (fun _ => ?_)
set_option maxHeartbeats 8000000 in
set_option maxRecDepth 100000 in
theorem slices_IndexFunc_impl_Box_impl_Box_with_impl_IsEndpoint_1.calls (k : Nat) (A0 : Option Addr) (c0 : Nat) (l0 : List (S95)) (r : Int) (w : World) (hr0 : Kd.C k95 w A0 l0.length l0) (hc0 : l0.length ≤ c0) (h : slices_IndexFunc_impl_Box_impl_Box_with_impl_IsEndpoint_1.f k l0 = some r) :
    Calls Try.prog 99 #[.slice A0 l0.length c0, .func (.func 83) #[] #[]] w fun e w' => e = .returned (.int .i64 r) ∧ Below w.heap.size w w' := by
  have hu95 := Try.underlying95
  have HR0 := Aside0.mk hr0
  have HC0 := Aside0.mk hc0
  clear hr0 hc0
  have HB := Aside0.mk (Below.refl w.heap.size w)
  have H : (slices_IndexFunc_impl_Box_impl_Box_with_impl_IsEndpoint_1.l0 k l0 (l0.length : Int) 0) = some r := h
  clear h
  have H' := Aside0.mk H
  clear H
  go_enter Try.func99, Try.ntmps99
  go_wp2
  go_loopg [8] k (fun kq v8 w' => ∃ (x8_1 : Int), v8 = .int .i64 x8_1 ∧ Aside0 (slices_IndexFunc_impl_Box_impl_Box_with_impl_IsEndpoint_1.l0 kq l0 (l0.length : Int) x8_1 = some r) ∧ Aside0 (kq ≤ k) ∧ Aside0 (Below w.heap.size w w'))
  case atStart => exact ⟨(0), el_, H', ⟨Nat.le_refl _⟩, ⟨pb_ HB.out⟩⟩
  clear H'
  obtain ⟨x8_1, rfl, HA, HK1, HB⟩ := hrel
  rcases gk with _ | k1
  · exact absurd HA.out (by simp [slices_IndexFunc_impl_Box_impl_Box_with_impl_IsEndpoint_1.l0])
  have H := HA.out
  clear HA
  simp only [slices_IndexFunc_impl_Box_impl_Box_with_impl_IsEndpoint_1.l0] at H
  by_cases c2 : x8_1 < (l0.length : Int)
  rotate_left
  · rw [if_neg c2] at H
    have c2b0 : decide (x8_1 < (l0.length : Int)) = false := decide_eq_false c2
    clear c2
    obtain rfl := Option.some.inj H
    go_wp2
    go_ret
    exact ⟨er_, pb_ HB.out⟩
  rw [if_pos c2] at H
  have c2b0 : decide (x8_1 < (l0.length : Int)) = true := decide_eq_true c2
  clear c2
  by_cases c3 : 0 ≤ x8_1
  rotate_left
  · rw [if_neg c3] at H
    exact absurd H (by simp)
  rw [if_pos c3] at H
  have c3b0 : decide (0 ≤ x8_1) = true := decide_eq_true c3
  clear c3
  by_cases c4 : x8_1 < (l0.length : Int)
  rotate_left
  · rw [if_neg c4] at H
    exact absurd H (by simp)
  rw [if_pos c4] at H
  have c4b0 : decide (x8_1 < (l0.length : Int)) = true := decide_eq_true c4
  clear c4
  replace H := Option.bind_eq_some_iff.mp H
  obtain ⟨t472, A50, H⟩ := H
  (try dsimp only at H)
  have A5 := Aside0.mk A50
  clear A50
  have HS_ := Aside0.mk H
  clear H
  have p471 : 0 ≤ (x8_1 : Int) := dt_
  have q471 : x8_1 < (l0.length : Int) := dt_
  obtain ⟨ad471, A471_1, c471_1, A471_2, c471_2, e471, hx471_0, hx471_1, hx471_2, hx471_3, hl471_1, hi471_1, hl471_2, hi471_2⟩ := at_T95 HR0.out x8_1 p471 q471
  cases e471
  replace hx471_0 := bt_ HB hx471_0
  replace hx471_1 := bt_ HB hx471_1
  replace hx471_2 := bt_ HB hx471_2
  replace hx471_3 := bt_ HB hx471_3
  have HR471_1 := Aside0.mk hi471_1
  have HC471_1 := Aside0.mk hl471_1
  clear hi471_1 hl471_1
  have HR471_2 := Aside0.mk hi471_2
  have HC471_2 := Aside0.mk hl471_2
  clear hi471_2 hl471_2
  replace p471 := eq_true p471
  replace q471 := eq_true q471
  go_upto_if 16 with (first | (go_at_call 83; (with_reducible refine (impl_IsEndpoint_1.calls k1 ((rd_T95 l0 x8_1).f0) _ _ ((rd_T95 l0 x8_1).f1) _ _ ((rd_T95 l0 x8_1).f2) ((rd_T95 l0 x8_1).f3) t472 _ ?side1 ?side2 ?side3 ?side4 A5.out).mono ?_); (case side1 => exact cb_ HR471_1 HB); (case side2 => exact HC471_1.out); (case side3 => exact cb_ HR471_2 HB); (case side4 => exact HC471_2.out); rintro e w6 ⟨rfl, hb⟩; have _ := Aside0.mk (below_step (pb_ HB.out) hb); clear HB; rename_i HB; (try clear hb); (try clear hb2); (try clear hk); (try clear hi)))
  (try simp only [Act.put, List.setIfInBounds_toArray, List.set_cons_zero, List.set_cons_succ])
  have H := HS_.out
  clear HS_
  by_cases c7 : t472 = true
  rotate_left
  · replace c7 := Bool.eq_false_iff.mpr c7
    subst c7
    rw [if_neg (show ¬ (false = true) by decide)] at H
    have H' := Aside0.mk H
    clear H
    go_wp2
    go_roundg k1
    case measure => have := HK1.out; omega
    case rel => exact ⟨(wrap64 (x8_1 + 1)), el_, H', ⟨by have := HK1.out; omega⟩, ⟨pb_ HB.out⟩⟩
  subst c7
  rw [if_pos rfl] at H
  obtain rfl := Option.some.inj H
  go_wp2
  go_ret
  exact ⟨er_, pb_ HB.out⟩

/-! ### slices_ContainsFunc_impl_Box_impl_Box_with_impl_IsEndpoint_1: function 100008 -/
def slices_ContainsFunc_impl_Box_impl_Box_with_impl_IsEndpoint_1.f (k : Nat) (l0 : List (S95)) : Option (Bool) := (slices_IndexFunc_impl_Box_impl_Box_with_impl_IsEndpoint_1.f k l0).bind fun t473 => (some (decide (t473 ≥ 0)))
theorem slices_ContainsFunc_impl_Box_impl_Box_with_impl_IsEndpoint_1.mono : ∀ a0 k, LeO (slices_ContainsFunc_impl_Box_impl_Box_with_impl_IsEndpoint_1.f k a0) (slices_ContainsFunc_impl_Box_impl_Box_with_impl_IsEndpoint_1.f (k + 1) a0) := by
  intro a0 k
  unfold slices_ContainsFunc_impl_Box_impl_Box_with_impl_IsEndpoint_1.f
  repeat' first
      | (with_reducible exact slices_IndexFunc_impl_Box_impl_Box_with_impl_IsEndpoint_1.mono _ _)
      | (with_reducible exact LeO.refl _)
      | (with_reducible exact LeO.none _)
      | (with_reducible refine LeO.ite ?_ ?_)
      | (with_reducible refine LeO.bind ?_ (fun _ => ?_))
      | exact slices_IndexFunc_impl_Box_impl_Box_with_impl_IsEndpoint_1.mono _ _
      | exact LeO.none _
      | refine LeO.ite ?_ ?_
      | refine LeO.bind ?_ (fun _ => ?_)
set_option maxHeartbeats 8000000 in
set_option maxRecDepth 100000 in
theorem slices_ContainsFunc_impl_Box_impl_Box_with_impl_IsEndpoint_1.calls (k : Nat) (A0 : Option Addr) (c0 : Nat) (l0 : List (S95)) (r : Bool) (w : World) (hr0 : Kd.C k95 w A0 l0.length l0) (hc0 : l0.length ≤ c0) (h : slices_ContainsFunc_impl_Box_impl_Box_with_impl_IsEndpoint_1.f k l0 = some r) :
    Calls Try.prog 82 #[.slice A0 l0.length c0, .func (.func 83) #[] #[]] w fun e w' => e = .returned (.bool r) ∧ Below w.heap.size w w' := by
  have HR0 := Aside0.mk hr0
  have HC0 := Aside0.mk hc0
  clear hr0 hc0
  have HB := Aside0.mk (Below.refl w.heap.size w)
  have H : ((slices_IndexFunc_impl_Box_impl_Box_with_impl_IsEndpoint_1.f k l0).bind fun t473 => (some (decide (t473 ≥ 0)))) = some r := h
  clear h
  replace H := Option.bind_eq_some_iff.mp H
  obtain ⟨t473, A20, H⟩ := H
  replace H : (some (decide (t473 ≥ 0))) = some r := H
  have A2 := Aside0.mk A20
  clear A20
  obtain rfl := Option.some.inj H
  go_enter Try.func82, Try.ntmps82
  go_wp2_with (first | (go_at_call 99; (with_reducible refine (slices_IndexFunc_impl_Box_impl_Box_with_impl_IsEndpoint_1.calls k _ _ l0 t473 _ ?side1 ?side2 A2.out).mono ?_); (case side1 => exact pc_ HR0.out); (case side2 => exact HC0.out); rintro e w3 ⟨rfl, hb⟩; have _ := Aside0.mk (below_step (pb_ HB.out) hb); clear HB; rename_i HB; (try clear hb); (try clear hb2); (try clear hk); (try clear hi)))
  go_ret
  exact ⟨er_, pb_ HB.out⟩

/-! ### impl_IsEndpoint: function 54 -/
def impl_IsEndpoint.f (k : Nat) (l0_0 : List Int) (l0_1 : List Int) (l0_2 : List (S95)) (a0_3 : Int) : Option (Bool) := (impl_AreVersions.f k l0_0).bind fun t475 => (if t475 = true then (if (l0_1.length : Int) ≤ 5 then ((impl_areTags.f k l0_1).bind fun t476 => (if t476 = true then ((impl_IsHardened.f k l0_1).bind fun t477 => (if t477 = true then (some false) else (if (l0_2.length : Int) ≤ 4 then ((slices_ContainsFunc_impl_Box_impl_Box_with_impl_IsEndpoint_1.f k l0_2).bind fun t478 => (if t478 = true then (some false) else ((impl_InRange.f a0_3 0 5).bind fun t479 => (some t479)))) else (some false)))) else (some false))) else (some false)) else (some false))
theorem impl_IsEndpoint.mono : ∀ a0 a1 a2 a3 k, LeO (impl_IsEndpoint.f k a0 a1 a2 a3) (impl_IsEndpoint.f (k + 1) a0 a1 a2 a3) := by
  intro a0 a1 a2 a3 k
  unfold impl_IsEndpoint.f
  repeat' first
      | (with_reducible exact impl_AreVersions.mono _ _)
      | (with_reducible exact impl_IsHardened.mono _ _)
      | (with_reducible exact impl_areTags.mono _ _)
      | (with_reducible exact slices_ContainsFunc_impl_Box_impl_Box_with_impl_IsEndpoint_1.mono _ _)
      | (with_reducible exact LeO.refl _)
      | (with_reducible exact LeO.none _)
      | (with_reducible refine LeO.ite ?_ ?_)
      | (with_reducible refine LeO.bind ?_ (fun _ => ?_))
      | exact impl_AreVersions.mono _ _
      | exact impl_IsHardened.mono _ _
      | exact impl_areTags.mono _ _
      | exact slices_ContainsFunc_impl_Box_impl_Box_with_impl_IsEndpoint_1.mono _ _
      | exact LeO.none _
      | refine LeO.ite ?_ ?_
      | refine LeO.bind ?_ (fun _ => ?_)
set_option maxHeartbeats 8000000 in
set_option maxRecDepth 100000 in
theorem impl_IsEndpoint.calls (k : Nat) (A0_0 : Option Addr) (c0_0 : Nat) (l0_0 : List Int) (A0_1 : Option Addr) (c0_1 : Nat) (l0_1 : List Int) (A0_2 : Option Addr) (c0_2 : Nat) (l0_2 : List (S95)) (a0_3 : Int) (r : Bool) (w : World) (hr0_0 : Kd.C (Kd.int .i64) w A0_0 l0_0.length l0_0) (hc0_0 : l0_0.length ≤ c0_0) (hr0_1 : Kd.C (Kd.int .i64) w A0_1 l0_1.length l0_1) (hc0_1 : l0_1.length ≤ c0_1) (hr0_2 : Kd.C k95 w A0_2 l0_2.length l0_2) (hc0_2 : l0_2.length ≤ c0_2) (h : impl_IsEndpoint.f k l0_0 l0_1 l0_2 a0_3 = some r) :
    Calls Try.prog 54 #[.agg #[.slice A0_0 l0_0.length c0_0, .slice A0_1 l0_1.length c0_1, .slice A0_2 l0_2.length c0_2, .int .i64 a0_3]] w fun e w' => e = .returned (.bool r) ∧ Below w.heap.size w w' := by
  have hu50 := Try.underlying50
  have HR0_0 := Aside0.mk hr0_0
  have HC0_0 := Aside0.mk hc0_0
  clear hr0_0 hc0_0
  have HR0_1 := Aside0.mk hr0_1
  have HC0_1 := Aside0.mk hc0_1
  clear hr0_1 hc0_1
  have HR0_2 := Aside0.mk hr0_2
  have HC0_2 := Aside0.mk hc0_2
  clear hr0_2 hc0_2
  have HB := Aside0.mk (Below.refl w.heap.size w)
  have H : ((impl_AreVersions.f k l0_0).bind fun t475 => (if t475 = true then (if (l0_1.length : Int) ≤ 5 then ((impl_areTags.f k l0_1).bind fun t476 => (if t476 = true then ((impl_IsHardened.f k l0_1).bind fun t477 => (if t477 = true then (some false) else (if (l0_2.length : Int) ≤ 4 then ((slices_ContainsFunc_impl_Box_impl_Box_with_impl_IsEndpoint_1.f k l0_2).bind fun t478 => (if t478 = true then (some false) else ((impl_InRange.f a0_3 0 5).bind fun t479 => (some t479)))) else (some false)))) else (some false))) else (some false)) else (some false))) = some r := h
  clear h
  have HS_ := Aside0.mk H
  clear H
  go_enter Try.func54, Try.ntmps54
  go_upto_region 1 with (first | ((with_reducible refine gate_dst (N := 1) rfl ?_); (try (refine gate_guard (by rfl) ?_; dsimp only)); refine box_event ?hg (N := 1) ?hd (cs := #[.slice A0_0 l0_0.length c0_0, .slice A0_1 l0_1.length c0_1, .slice A0_2 l0_2.length c0_2, .int .i64 a0_3]) (t := 50) ?hr ?_; (case hd => rfl); (case hg => rfl); (case hr => first | (go_simp; done) | (go_simp; rfl)); intro gb474 hg w2 hbox hb; have n0_ := Aside0.mk (below_step (pb_ HB.out) hb); have n1_ := Aside0.mk (hbox); have n2_ := Aside0.mk ((by rw [hg]; exact (below_size (pb_ HB.out)) : w.heap.size ≤ gb474)); have n3_ := Aside0.mk ((by rw [hg]; exact (below_size (pb_ HB.out)) : w.heap.size ≤ gb474)); clear HB; have HB := n0_; have BK474 := n1_; have GW474 := n2_; have GE474 := n3_; clear n0_ n1_ n2_ n3_; clear hb hbox hg))
  (try simp only [Act.put, List.setIfInBounds_toArray, List.set_cons_zero, List.set_cons_succ])
  have H := HS_.out
  clear HS_
  replace H := Option.bind_eq_some_iff.mp H
  obtain ⟨t475, A30, H⟩ := H
  (try dsimp only at H)
  have A3 := Aside0.mk A30
  clear A30
  by_cases c4 : t475 = true
  rotate_left
  · replace c4 := Bool.eq_false_iff.mpr c4
    subst c4
    rw [if_neg (show ¬ (false = true) by decide)] at H
    obtain rfl := Option.some.inj H
    have hcz5 := bc4_ BK474.out
    go_wp2_with (first | ((with_reducible refine gate_callee (f := 75) rfl ?_); refine gl_ (some 5) Try.func75 #[.slice A0_0 l0_0.length c0_0] ?_; (with_reducible refine (impl_AreVersions.calls k _ _ l0_0 false _ ?side1 ?side2 A3.out).mono ?_); (case side1 => exact cb_ HR0_0 HB); (case side2 => exact HC0_0.out); rintro e w' ⟨rfl, ⟨nd, rfl⟩⟩; refine ⟨_, rfl, ?_⟩))
    go_ret
    exact ⟨er_, pb1_ HB.out GE474.out⟩
  subst c4
  rw [if_pos rfl] at H
  by_cases c6 : (l0_1.length : Int) ≤ 5
  rotate_left
  · rw [if_neg c6] at H
    have c6b0 : decide ((l0_1.length : Int) ≤ 5) = false := decide_eq_false c6
    have c6b1 : decide (l0_1.length ≤ 5) = false := decide_eq_false (by omega)
    clear c6
    (first | rw [c6b0] | (simp only [i64_w, i32_w]; rw [c6b0]) | rw [c6b1] | skip)
    obtain rfl := Option.some.inj H
    have hcz7 := bc4_ BK474.out
    go_wp2_with (first | ((with_reducible refine gate_callee (f := 75) rfl ?_); refine gl_ (some 5) Try.func75 #[.slice A0_0 l0_0.length c0_0] ?_; (with_reducible refine (impl_AreVersions.calls k _ _ l0_0 true _ ?side1 ?side2 A3.out).mono ?_); (case side1 => exact cb_ HR0_0 HB); (case side2 => exact HC0_0.out); rintro e w' ⟨rfl, ⟨nd, rfl⟩⟩; refine ⟨_, rfl, ?_⟩))
    go_ret
    exact ⟨er_, pb1_ HB.out GE474.out⟩
  rw [if_pos c6] at H
  have c6b0 : decide ((l0_1.length : Int) ≤ 5) = true := decide_eq_true c6
  have c6b1 : decide (l0_1.length ≤ 5) = true := decide_eq_true (by omega)
  clear c6
  (first | rw [c6b0] | (simp only [i64_w, i32_w]; rw [c6b0]) | rw [c6b1] | skip)
  replace H := Option.bind_eq_some_iff.mp H
  obtain ⟨t476, A80, H⟩ := H
  (try dsimp only at H)
  have A8 := Aside0.mk A80
  clear A80
  by_cases c9 : t476 = true
  rotate_left
  · replace c9 := Bool.eq_false_iff.mpr c9
    subst c9
    rw [if_neg (show ¬ (false = true) by decide)] at H
    obtain rfl := Option.some.inj H
    have hcz10 := bc4_ BK474.out
    go_wp2_with (first | ((with_reducible refine gate_callee (f := 75) rfl ?_); refine gl_ (some 5) Try.func75 #[.slice A0_0 l0_0.length c0_0] ?_; (with_reducible refine (impl_AreVersions.calls k _ _ l0_0 true _ ?side1 ?side2 A3.out).mono ?_); (case side1 => exact cb_ HR0_0 HB); (case side2 => exact HC0_0.out); rintro e w' ⟨rfl, ⟨nd, rfl⟩⟩; refine ⟨_, rfl, ?_⟩) | (go_at_call 50; (with_reducible refine (impl_areTags.calls k _ _ l0_1 false _ ?side1 ?side2 A8.out).mono ?_); (case side1 => exact pc_ (Kd.C_below HR0_1.out (pb1_ HB.out GE474.out))); (case side2 => exact HC0_1.out); rintro e w11 ⟨rfl, hb⟩; have _ := Aside0.mk (bb_ BK474.out hb); have _ := Aside0.mk (below_step (pb1_ HB.out GE474.out) hb); clear BK474 HB; rename_i BK474 HB; (try clear hb); (try clear hb2); (try clear hk); (try clear hi)))
    go_ret
    exact ⟨er_, pb1_ HB.out GE474.out⟩
  subst c9
  rw [if_pos rfl] at H
  replace H := Option.bind_eq_some_iff.mp H
  obtain ⟨t477, A120, H⟩ := H
  (try dsimp only at H)
  have A12 := Aside0.mk A120
  clear A120
  by_cases c13 : t477 = true
  · subst c13
    rw [if_pos rfl] at H
    obtain rfl := Option.some.inj H
    have hcz14 := bc4_ BK474.out
    go_wp2_with (first | ((with_reducible refine gate_callee (f := 75) rfl ?_); refine gl_ (some 5) Try.func75 #[.slice A0_0 l0_0.length c0_0] ?_; (with_reducible refine (impl_AreVersions.calls k _ _ l0_0 true _ ?side1 ?side2 A3.out).mono ?_); (case side1 => exact cb_ HR0_0 HB); (case side2 => exact HC0_0.out); rintro e w' ⟨rfl, ⟨nd, rfl⟩⟩; refine ⟨_, rfl, ?_⟩) | (go_at_call 50; (with_reducible refine (impl_areTags.calls k _ _ l0_1 true _ ?side1 ?side2 A8.out).mono ?_); (case side1 => exact pc_ (Kd.C_below HR0_1.out (pb1_ HB.out GE474.out))); (case side2 => exact HC0_1.out); rintro e w15 ⟨rfl, hb⟩; have _ := Aside0.mk (bb_ BK474.out hb); have _ := Aside0.mk (below_step (pb1_ HB.out GE474.out) hb); clear BK474 HB; rename_i BK474 HB; (try clear hb); (try clear hb2); (try clear hk); (try clear hi); have hcz16 := bc4_ BK474.out) | (go_at_call 81; (with_reducible refine (impl_IsHardened.calls k _ _ l0_1 true _ ?side1 ?side2 A12.out).mono ?_); (case side1 => exact cb_ HR0_1 HB); (case side2 => exact HC0_1.out); rintro e w17 ⟨rfl, hb⟩; have _ := Aside0.mk (bb_ BK474.out hb); have _ := Aside0.mk (below_step (pb1_ HB.out GE474.out) hb); clear BK474 HB; rename_i BK474 HB; (try clear hb); (try clear hb2); (try clear hk); (try clear hi)))
    go_ret
    exact ⟨er_, pb1_ HB.out GE474.out⟩
  replace c13 := Bool.eq_false_iff.mpr c13
  subst c13
  rw [if_neg (show ¬ (false = true) by decide)] at H
  by_cases c18 : (l0_2.length : Int) ≤ 4
  rotate_left
  · rw [if_neg c18] at H
    have c18b0 : decide ((l0_2.length : Int) ≤ 4) = false := decide_eq_false c18
    have c18b1 : decide (l0_2.length ≤ 4) = false := decide_eq_false (by omega)
    clear c18
    obtain rfl := Option.some.inj H
    have hcz19 := bc4_ BK474.out
    go_wp2_with (first | ((with_reducible refine gate_callee (f := 75) rfl ?_); refine gl_ (some 5) Try.func75 #[.slice A0_0 l0_0.length c0_0] ?_; (with_reducible refine (impl_AreVersions.calls k _ _ l0_0 true _ ?side1 ?side2 A3.out).mono ?_); (case side1 => exact cb_ HR0_0 HB); (case side2 => exact HC0_0.out); rintro e w' ⟨rfl, ⟨nd, rfl⟩⟩; refine ⟨_, rfl, ?_⟩) | (go_at_call 50; (with_reducible refine (impl_areTags.calls k _ _ l0_1 true _ ?side1 ?side2 A8.out).mono ?_); (case side1 => exact pc_ (Kd.C_below HR0_1.out (pb1_ HB.out GE474.out))); (case side2 => exact HC0_1.out); rintro e w20 ⟨rfl, hb⟩; have _ := Aside0.mk (bb_ BK474.out hb); have _ := Aside0.mk (below_step (pb1_ HB.out GE474.out) hb); clear BK474 HB; rename_i BK474 HB; (try clear hb); (try clear hb2); (try clear hk); (try clear hi); have hcz21 := bc4_ BK474.out) | (go_at_call 81; (with_reducible refine (impl_IsHardened.calls k _ _ l0_1 false _ ?side1 ?side2 A12.out).mono ?_); (case side1 => exact cb_ HR0_1 HB); (case side2 => exact HC0_1.out); rintro e w22 ⟨rfl, hb⟩; have _ := Aside0.mk (bb_ BK474.out hb); have _ := Aside0.mk (below_step (pb1_ HB.out GE474.out) hb); clear BK474 HB; rename_i BK474 HB; (try clear hb); (try clear hb2); (try clear hk); (try clear hi); have hcz23 := bc4_ BK474.out))
    go_ret
    exact ⟨er_, pb1_ HB.out GE474.out⟩
  rw [if_pos c18] at H
  have c18b0 : decide ((l0_2.length : Int) ≤ 4) = true := decide_eq_true c18
  have c18b1 : decide (l0_2.length ≤ 4) = true := decide_eq_true (by omega)
  clear c18
  replace H := Option.bind_eq_some_iff.mp H
  obtain ⟨t478, A240, H⟩ := H
  (try dsimp only at H)
  have A24 := Aside0.mk A240
  clear A240
  by_cases c25 : t478 = true
  · subst c25
    rw [if_pos rfl] at H
    obtain rfl := Option.some.inj H
    have hcz26 := bc4_ BK474.out
    go_wp2_with (first | ((with_reducible refine gate_callee (f := 75) rfl ?_); refine gl_ (some 5) Try.func75 #[.slice A0_0 l0_0.length c0_0] ?_; (with_reducible refine (impl_AreVersions.calls k _ _ l0_0 true _ ?side1 ?side2 A3.out).mono ?_); (case side1 => exact cb_ HR0_0 HB); (case side2 => exact HC0_0.out); rintro e w' ⟨rfl, ⟨nd, rfl⟩⟩; refine ⟨_, rfl, ?_⟩) | (go_at_call 50; (with_reducible refine (impl_areTags.calls k _ _ l0_1 true _ ?side1 ?side2 A8.out).mono ?_); (case side1 => exact pc_ (Kd.C_below HR0_1.out (pb1_ HB.out GE474.out))); (case side2 => exact HC0_1.out); rintro e w27 ⟨rfl, hb⟩; have _ := Aside0.mk (bb_ BK474.out hb); have _ := Aside0.mk (below_step (pb1_ HB.out GE474.out) hb); clear BK474 HB; rename_i BK474 HB; (try clear hb); (try clear hb2); (try clear hk); (try clear hi); have hcz28 := bc4_ BK474.out) | (go_at_call 81; (with_reducible refine (impl_IsHardened.calls k _ _ l0_1 false _ ?side1 ?side2 A12.out).mono ?_); (case side1 => exact cb_ HR0_1 HB); (case side2 => exact HC0_1.out); rintro e w29 ⟨rfl, hb⟩; have _ := Aside0.mk (bb_ BK474.out hb); have _ := Aside0.mk (below_step (pb1_ HB.out GE474.out) hb); clear BK474 HB; rename_i BK474 HB; (try clear hb); (try clear hb2); (try clear hk); (try clear hi); have hcz30 := bc4_ BK474.out) | (go_at_call 82; (with_reducible refine (slices_ContainsFunc_impl_Box_impl_Box_with_impl_IsEndpoint_1.calls k _ _ l0_2 true _ ?side1 ?side2 A24.out).mono ?_); (case side1 => exact cb_ HR0_2 HB); (case side2 => exact HC0_2.out); rintro e w31 ⟨rfl, hb⟩; have _ := Aside0.mk (bb_ BK474.out hb); have _ := Aside0.mk (below_step (pb1_ HB.out GE474.out) hb); clear BK474 HB; rename_i BK474 HB; (try clear hb); (try clear hb2); (try clear hk); (try clear hi)))
    go_ret
    exact ⟨er_, pb1_ HB.out GE474.out⟩
  replace c25 := Bool.eq_false_iff.mpr c25
  subst c25
  rw [if_neg (show ¬ (false = true) by decide)] at H
  replace H := Option.bind_eq_some_iff.mp H
  obtain ⟨t479, A320, H⟩ := H
  replace H : (some t479) = some r := H
  have A32 := Aside0.mk A320
  clear A320
  obtain rfl := Option.some.inj H
  have hcz33 := bc4_ BK474.out
  go_wp2_with (first | ((with_reducible refine gate_callee (f := 75) rfl ?_); refine gl_ (some 5) Try.func75 #[.slice A0_0 l0_0.length c0_0] ?_; (with_reducible refine (impl_AreVersions.calls k _ _ l0_0 true _ ?side1 ?side2 A3.out).mono ?_); (case side1 => exact cb_ HR0_0 HB); (case side2 => exact HC0_0.out); rintro e w' ⟨rfl, ⟨nd, rfl⟩⟩; refine ⟨_, rfl, ?_⟩) | (go_at_call 50; (with_reducible refine (impl_areTags.calls k _ _ l0_1 true _ ?side1 ?side2 A8.out).mono ?_); (case side1 => exact pc_ (Kd.C_below HR0_1.out (pb1_ HB.out GE474.out))); (case side2 => exact HC0_1.out); rintro e w34 ⟨rfl, hb⟩; have _ := Aside0.mk (bb_ BK474.out hb); have _ := Aside0.mk (below_step (pb1_ HB.out GE474.out) hb); clear BK474 HB; rename_i BK474 HB; (try clear hb); (try clear hb2); (try clear hk); (try clear hi); have hcz35 := bc4_ BK474.out) | (go_at_call 81; (with_reducible refine (impl_IsHardened.calls k _ _ l0_1 false _ ?side1 ?side2 A12.out).mono ?_); (case side1 => exact cb_ HR0_1 HB); (case side2 => exact HC0_1.out); rintro e w36 ⟨rfl, hb⟩; have _ := Aside0.mk (bb_ BK474.out hb); have _ := Aside0.mk (below_step (pb1_ HB.out GE474.out) hb); clear BK474 HB; rename_i BK474 HB; (try clear hb); (try clear hb2); (try clear hk); (try clear hi); have hcz37 := bc4_ BK474.out) | (go_at_call 82; (with_reducible refine (slices_ContainsFunc_impl_Box_impl_Box_with_impl_IsEndpoint_1.calls k _ _ l0_2 false _ ?side1 ?side2 A24.out).mono ?_); (case side1 => exact cb_ HR0_2 HB); (case side2 => exact HC0_2.out); rintro e w38 ⟨rfl, hb⟩; have _ := Aside0.mk (bb_ BK474.out hb); have _ := Aside0.mk (below_step (pb1_ HB.out GE474.out) hb); clear BK474 HB; rename_i BK474 HB; (try clear hb); (try clear hb2); (try clear hk); (try clear hi); have hcz39 := bc4_ BK474.out) | (go_at_call 57; (with_reducible refine (impl_InRange.calls a0_3 0 5 t479 _ A32.out).mono ?_); rintro e w' ⟨rfl, ⟨nd, rfl⟩⟩))
  go_ret
  exact ⟨er_, pb1_ HB.out GE474.out⟩

/-! ### impl_IsRollout: function 55 -/
def impl_IsRollout.l0 : Nat → List Int → Int → Int → Int → List Int → Int → Bool → Option (Bool)
  | 0, _, _, _, _, _, _, _ => none
  | k + 1, x6, x7, x8, x481000, x481001, x481002, x481003 => if x8 < x7 then (if 0 ≤ x8 then (if x8 < (x6.length : Int) then ((impl_InRange.f (rd x6 x8) 1 100).bind fun t482 => (if t482 = true then (if x8 > 0 then (if 0 ≤ (wrap64 (x8 - 1)) then (if (wrap64 (x8 - 1)) < (x481001.length : Int) then (if (rd x481001 (wrap64 (x8 - 1))) ≥ (rd x6 x8) then (some false) else (impl_IsRollout.l0 k x6 x7 (wrap64 (x8 + 1)) x481000 x481001 x481002 x481003)) else (none)) else (none)) else (impl_IsRollout.l0 k x6 x7 (wrap64 (x8 + 1)) x481000 x481001 x481002 x481003)) else (some false))) else (none)) else (none)) else ((impl_InRange.f x481000 1 9).bind fun t484 => (if t484 = true then ((impl_InRange.f (x481001.length : Int) 1 5).bind fun t485 => (if t485 = true then (if 0 ≤ (wrap64 ((x481001.length : Int) - 1)) then (if (wrap64 ((x481001.length : Int) - 1)) < (x481001.length : Int) then (if (rd x481001 (wrap64 ((x481001.length : Int) - 1))) = 100 then ((impl_InRange.f x481002 0 (wrap64 ((x481001.length : Int) - 1))).bind fun t487 => (some t487)) else (some false)) else (none)) else (none)) else (some false))) else (some false)))
def impl_IsRollout.f (k : Nat) (a0_0 : Int) (l0_1 : List Int) (a0_2 : Int) (a0_3 : Bool) : Option (Bool) := impl_IsRollout.l0 k l0_1 (l0_1.length : Int) 0 a0_0 l0_1 a0_2 a0_3
theorem impl_IsRollout.mono_l : ∀ k, (∀ y0 y1 y2 y3 y4 y5 y6, LeO (impl_IsRollout.l0 k y0 y1 y2 y3 y4 y5 y6) (impl_IsRollout.l0 (k + 1) y0 y1 y2 y3 y4 y5 y6))
  | 0 => fun _ _ _ _ _ _ _ r h => by simp [impl_IsRollout.l0] at h
  | k + 1 => by
    have ih0 := impl_IsRollout.mono_l k
    · intro y0 y1 y2 y3 y4 y5 y6
      unfold impl_IsRollout.l0
      repeat' first
      | (with_reducible exact ih0 _ _ _ _ _ _ _)
      | (with_reducible exact LeO.refl _)
      | (with_reducible exact LeO.none _)
      | (with_reducible refine LeO.ite ?_ ?_)
      | (with_reducible refine LeO.bind ?_ (fun _ => ?_))
      | exact ih0 _ _ _ _ _ _ _
      | exact LeO.none _
      | refine LeO.ite ?_ ?_
      | refine LeO.bind ?_ (fun _ => ?_)
theorem impl_IsRollout.mono : ∀ a0 a1 a2 a3 k, LeO (impl_IsRollout.f k a0 a1 a2 a3) (impl_IsRollout.f (k + 1) a0 a1 a2 a3) := by
  intro a0 a1 a2 a3 k
  have ih0 := impl_IsRollout.mono_l k
  unfold impl_IsRollout.f
  repeat' first
      | (with_reducible exact ih0 _ _ _ _ _ _ _)
      | (with_reducible exact LeO.refl _)
      | (with_reducible exact LeO.none _)
      | (with_reducible refine LeO.ite ?_ ?_)
      | (with_reducible refine LeO.bind ?_ (fun _ => ?_))
      | exact ih0 _ _ _ _ _ _ _
      | exact LeO.none _
      | refine LeO.ite ?_ ?_
      | refine LeO.bind ?_ (fun _ => ?_)
set_option maxHeartbeats 8000000 in
set_option maxRecDepth 100000 in
theorem impl_IsRollout.calls (k : Nat) (a0_0 : Int) (A0_1 : Option Addr) (c0_1 : Nat) (l0_1 : List Int) (a0_2 : Int) (a0_3 : Bool) (r : Bool) (w : World) (hr0_1 : Kd.C (Kd.int .i64) w A0_1 l0_1.length l0_1) (hc0_1 : l0_1.length ≤ c0_1) (h : impl_IsRollout.f k a0_0 l0_1 a0_2 a0_3 = some r) :
    Calls Try.prog 55 #[.agg #[.int .i64 a0_0, .slice A0_1 l0_1.length c0_1, .int .i64 a0_2, .bool a0_3]] w fun e w' => e = .returned (.bool r) ∧ Below w.heap.size w w' := by
  have hu33 := Try.underlying33
  have HR0_1 := Aside0.mk hr0_1
  have HC0_1 := Aside0.mk hc0_1
  clear hr0_1 hc0_1
  have HB := Aside0.mk (Below.refl w.heap.size w)
  have H : (impl_IsRollout.l0 k l0_1 (l0_1.length : Int) 0 a0_0 l0_1 a0_2 a0_3) = some r := h
  clear h
  have H' := Aside0.mk H
  clear H
  go_enter Try.func55, Try.ntmps55
  go_wp2_with (first | ((with_reducible refine gate_dst (N := 1) rfl ?_); (try (refine gate_guard (by rfl) ?_; dsimp only)); refine box_event ?hg (N := 1) ?hd (cs := #[.int .i64 a0_0, .slice A0_1 l0_1.length c0_1, .int .i64 a0_2, .bool a0_3]) (t := 33) ?hr ?_; (case hd => rfl); (case hg => rfl); (case hr => first | (go_simp; done) | (go_simp; rfl)); intro gb480 hg w2 hbox hb; have n0_ := Aside0.mk (below_step (pb_ HB.out) hb); have n1_ := Aside0.mk (hbox); have n2_ := Aside0.mk ((by rw [hg]; exact (below_size (pb_ HB.out)) : w.heap.size ≤ gb480)); have n3_ := Aside0.mk ((by rw [hg]; exact (below_size (pb_ HB.out)) : w.heap.size ≤ gb480)); clear HB; have HB := n0_; have BK480 := n1_; have GW480 := n2_; have GE480 := n3_; clear n0_ n1_ n2_ n3_; clear hb hbox hg; have hcz3 := bc4_ BK480.out))
  (try simp only [Act.put, List.setIfInBounds_toArray, List.set_cons_zero, List.set_cons_succ])
  go_loopg [8] k (fun kq v8 w' => ∃ (x8_1 : Int), v8 = .int .i64 x8_1 ∧ Aside0 (impl_IsRollout.l0 kq l0_1 (l0_1.length : Int) x8_1 a0_0 l0_1 a0_2 a0_3 = some r) ∧ Aside0 (kq ≤ k) ∧ Aside0 (w'.heap[gb480]? = some (.cells #[.int .i64 a0_0, (.slice A0_1 l0_1.length c0_1), .int .i64 a0_2, .bool a0_3] 33 (0, 0))) ∧ Aside0 (Below w.heap.size w w'))
  case atStart => exact ⟨(0), el_, H', ⟨Nat.le_refl _⟩, ⟨pk_ BK480.out⟩, ⟨pb1_ HB.out GE480.out⟩⟩
  clear H'
  try clear p2
  try clear hcz3
  obtain ⟨x8_1, rfl, HA, HK1, BK480, HB⟩ := hrel
  rcases gk with _ | k1
  · exact absurd HA.out (by simp [impl_IsRollout.l0])
  have H := HA.out
  clear HA
  simp only [impl_IsRollout.l0] at H
  by_cases c4 : x8_1 < (l0_1.length : Int)
  · rw [if_pos c4] at H
    have c4b0 : decide (x8_1 < (l0_1.length : Int)) = true := decide_eq_true c4
    clear c4
    by_cases c5 : 0 ≤ x8_1
    rotate_left
    · rw [if_neg c5] at H
      exact absurd H (by simp)
    rw [if_pos c5] at H
    have c5b0 : decide (0 ≤ x8_1) = true := decide_eq_true c5
    clear c5
    by_cases c6 : x8_1 < (l0_1.length : Int)
    rotate_left
    · rw [if_neg c6] at H
      exact absurd H (by simp)
    rw [if_pos c6] at H
    have c6b0 : decide (x8_1 < (l0_1.length : Int)) = true := decide_eq_true c6
    clear c6
    replace H := Option.bind_eq_some_iff.mp H
    obtain ⟨t482, A70, H⟩ := H
    (try dsimp only at H)
    have A7 := Aside0.mk A70
    clear A70
    by_cases c8 : t482 = true
    rotate_left
    · replace c8 := Bool.eq_false_iff.mpr c8
      subst c8
      rw [if_neg (show ¬ (false = true) by decide)] at H
      obtain rfl := Option.some.inj H
      have p481 : 0 ≤ (x8_1 : Int) := dt_
      have q481 : x8_1 < (l0_1.length : Int) := dt_
      obtain ⟨ad481, e481, hx481_0⟩ := Kd.at_int HR0_1.out x8_1 p481 q481
      cases e481
      replace hx481_0 := bt_ HB hx481_0
      replace p481 := eq_true p481
      replace q481 := eq_true q481
      go_wp2_with (first | ((with_reducible refine gate_callee (f := 57) rfl ?_); refine gl_ (some 14) Try.func57 #[.int .i64 (rd l0_1 x8_1), .int .i64 1, .int .i64 100] ?_; (with_reducible refine (impl_InRange.calls (rd l0_1 x8_1) 1 100 false _ A7.out).mono ?_); rintro e w' ⟨rfl, ⟨nd, rfl⟩⟩; refine ⟨_, rfl, ?_⟩))
      go_ret
      exact ⟨er_, pb1_ HB.out GE480.out⟩
    subst c8
    rw [if_pos rfl] at H
    by_cases c9 : x8_1 > 0
    rotate_left
    · rw [if_neg c9] at H
      have c9b0 : decide (0 < x8_1) = false := decide_eq_false c9
      clear c9
      have H' := Aside0.mk H
      clear H
      have p481 : 0 ≤ (x8_1 : Int) := dt_
      have q481 : x8_1 < (l0_1.length : Int) := dt_
      obtain ⟨ad481, e481, hx481_0⟩ := Kd.at_int HR0_1.out x8_1 p481 q481
      cases e481
      replace hx481_0 := bt_ HB hx481_0
      replace p481 := eq_true p481
      replace q481 := eq_true q481
      go_wp2_with (first | ((with_reducible refine gate_callee (f := 57) rfl ?_); refine gl_ (some 14) Try.func57 #[.int .i64 (rd l0_1 x8_1), .int .i64 1, .int .i64 100] ?_; (with_reducible refine (impl_InRange.calls (rd l0_1 x8_1) 1 100 true _ A7.out).mono ?_); rintro e w' ⟨rfl, ⟨nd, rfl⟩⟩; refine ⟨_, rfl, ?_⟩))
      go_roundg k1
      case measure => have := HK1.out; omega
      case rel => exact ⟨(wrap64 (x8_1 + 1)), el_, H', ⟨by have := HK1.out; omega⟩, ⟨pk_ BK480.out⟩, ⟨pb1_ HB.out GE480.out⟩⟩
    rw [if_pos c9] at H
    have c9b0 : decide (0 < x8_1) = true := decide_eq_true c9
    clear c9
    obtain ⟨ji10, hji10⟩ : ∃ j_ : Int, (wrap64 (x8_1 - 1)) = j_ := ⟨_, rfl⟩
    replace H : (if 0 ≤ (ji10) then (if (ji10) < (l0_1.length : Int) then (if (rd l0_1 (ji10)) ≥ (rd l0_1 x8_1) then (some false) else (impl_IsRollout.l0 k1 l0_1 (l0_1.length : Int) (wrap64 (x8_1 + 1)) a0_0 l0_1 a0_2 a0_3)) else (none)) else (none)) = some r := by first | (rw [hji10] at H; exact H) | (simp only [hji10] at H ⊢; exact H)
    (try rw [hji10] at A7)
    have hji10w : (IntKind.i64.wrap (x8_1 - 1)) = ji10 := (i64_w _).trans hji10
    by_cases c11 : 0 ≤ (ji10)
    rotate_left
    · rw [if_neg c11] at H
      exact absurd H (by simp)
    rw [if_pos c11] at H
    have c11b0 : decide (0 ≤ (ji10)) = true := decide_eq_true c11
    clear c11
    by_cases c12 : (ji10) < (l0_1.length : Int)
    rotate_left
    · rw [if_neg c12] at H
      exact absurd H (by simp)
    rw [if_pos c12] at H
    have c12b0 : decide ((ji10) < (l0_1.length : Int)) = true := decide_eq_true c12
    clear c12
    have HS_ := Aside0.mk H
    clear H
    have p481 : 0 ≤ (x8_1 : Int) := dt_
    have q481 : x8_1 < (l0_1.length : Int) := dt_
    obtain ⟨ad481, e481, hx481_0⟩ := Kd.at_int HR0_1.out x8_1 p481 q481
    cases e481
    replace hx481_0 := bt_ HB hx481_0
    replace p481 := eq_true p481
    replace q481 := eq_true q481
    go_upto_if 29 with (first | ((with_reducible refine gate_callee (f := 57) rfl ?_); refine gl_ (some 14) Try.func57 #[.int .i64 (rd l0_1 x8_1), .int .i64 1, .int .i64 100] ?_; (with_reducible refine (impl_InRange.calls (rd l0_1 x8_1) 1 100 true _ A7.out).mono ?_); rintro e w' ⟨rfl, ⟨nd, rfl⟩⟩; refine ⟨_, rfl, ?_⟩; have hcz13 := bc4_ BK480.out; have p483 : 0 ≤ ((ji10) : Int) := dt_; have q483 : (ji10) < (l0_1.length : Int) := dt_; obtain ⟨ad483, e483, hx483_0⟩ := Kd.at_int HR0_1.out (ji10) p483 q483; obtain rfl : ad481 = ad483 := (by injection e483); replace hx483_0 := bt_ HB hx483_0; replace p483 := eq_true p483; replace q483 := eq_true q483))
    (try simp only [Act.put, List.setIfInBounds_toArray, List.set_cons_zero, List.set_cons_succ])
    have H := HS_.out
    clear HS_
    by_cases c14 : (rd l0_1 (ji10)) ≥ (rd l0_1 x8_1)
    rotate_left
    · rw [if_neg c14] at H
      have c14b0 : decide ((rd l0_1 x8_1) ≤ (rd l0_1 (ji10))) = false := decide_eq_false c14
      clear c14
      (first | rw [c14b0] | (simp only [i64_w, i32_w]; rw [c14b0]) | skip)
      have H' := Aside0.mk H
      clear H
      go_wp2
      go_roundg k1
      case measure => have := HK1.out; omega
      case rel => exact ⟨(wrap64 (x8_1 + 1)), el_, H', ⟨by have := HK1.out; omega⟩, ⟨pk_ BK480.out⟩, ⟨pb1_ HB.out GE480.out⟩⟩
    rw [if_pos c14] at H
    have c14b0 : decide ((rd l0_1 x8_1) ≤ (rd l0_1 (ji10))) = true := decide_eq_true c14
    clear c14
    (first | rw [c14b0] | (simp only [i64_w, i32_w]; rw [c14b0]) | skip)
    obtain rfl := Option.some.inj H
    go_wp2
    go_ret
    exact ⟨by first | rfl | (simp [errW_none, errW_some] <;> rfl) | (simp only [← hji10]; first | rfl | (simp [errW_none, errW_some] <;> rfl)) | (simp [*, errW_none, errW_some] <;> rfl), pb1_ HB.out GE480.out⟩
  rw [if_neg c4] at H
  have c4b0 : decide (x8_1 < (l0_1.length : Int)) = false := decide_eq_false c4
  clear c4
  replace H := Option.bind_eq_some_iff.mp H
  obtain ⟨t484, A150, H⟩ := H
  (try dsimp only at H)
  have A15 := Aside0.mk A150
  clear A150
  by_cases c16 : t484 = true
  rotate_left
  · replace c16 := Bool.eq_false_iff.mpr c16
    subst c16
    rw [if_neg (show ¬ (false = true) by decide)] at H
    obtain rfl := Option.some.inj H
    have hcz17 := bc4_ BK480.out
    go_wp2_with (first | ((with_reducible refine gate_callee (f := 57) rfl ?_); refine gl_ (some 33) Try.func57 #[.int .i64 a0_0, .int .i64 1, .int .i64 9] ?_; (with_reducible refine (impl_InRange.calls a0_0 1 9 false _ A15.out).mono ?_); rintro e w' ⟨rfl, ⟨nd, rfl⟩⟩; refine ⟨_, rfl, ?_⟩))
    go_ret
    exact ⟨er_, pb1_ HB.out GE480.out⟩
  subst c16
  rw [if_pos rfl] at H
  replace H := Option.bind_eq_some_iff.mp H
  obtain ⟨t485, A180, H⟩ := H
  (try dsimp only at H)
  have A18 := Aside0.mk A180
  clear A180
  by_cases c19 : t485 = true
  rotate_left
  · replace c19 := Bool.eq_false_iff.mpr c19
    subst c19
    rw [if_neg (show ¬ (false = true) by decide)] at H
    obtain rfl := Option.some.inj H
    have hcz20 := bc4_ BK480.out
    go_wp2_with (first | ((with_reducible refine gate_callee (f := 57) rfl ?_); refine gl_ (some 33) Try.func57 #[.int .i64 a0_0, .int .i64 1, .int .i64 9] ?_; (with_reducible refine (impl_InRange.calls a0_0 1 9 true _ A15.out).mono ?_); rintro e w' ⟨rfl, ⟨nd, rfl⟩⟩; refine ⟨_, rfl, ?_⟩) | (go_at_call 57; (with_reducible refine (impl_InRange.calls (l0_1.length : Int) 1 5 false _ A18.out).mono ?_); rintro e w' ⟨rfl, ⟨nd, rfl⟩⟩))
    go_ret
    exact ⟨er_, pb1_ HB.out GE480.out⟩
  subst c19
  rw [if_pos rfl] at H
  obtain ⟨ji21, hji21⟩ : ∃ j_ : Int, (wrap64 ((l0_1.length : Int) - 1)) = j_ := ⟨_, rfl⟩
  replace H : (if 0 ≤ (ji21) then (if (ji21) < (l0_1.length : Int) then (if (rd l0_1 (ji21)) = 100 then ((impl_InRange.f a0_2 0 (ji21)).bind fun t487 => (some t487)) else (some false)) else (none)) else (none)) = some r := by first | (rw [hji21] at H; exact H) | (simp only [hji21] at H ⊢; exact H)
  (try rw [hji21] at A15)
  (try rw [hji21] at A18)
  have hji21w : (IntKind.i64.wrap ((l0_1.length : Int) - 1)) = ji21 := (i64_w _).trans hji21
  by_cases c22 : 0 ≤ (ji21)
  rotate_left
  · rw [if_neg c22] at H
    exact absurd H (by simp)
  rw [if_pos c22] at H
  have c22b0 : decide (0 ≤ (ji21)) = true := decide_eq_true c22
  clear c22
  by_cases c23 : (ji21) < (l0_1.length : Int)
  rotate_left
  · rw [if_neg c23] at H
    exact absurd H (by simp)
  rw [if_pos c23] at H
  have c23b0 : decide ((ji21) < (l0_1.length : Int)) = true := decide_eq_true c23
  clear c23
  by_cases c24 : (rd l0_1 (ji21)) = 100
  rotate_left
  · rw [if_neg c24] at H
    have c24b0 : ((rd l0_1 (ji21)) == 100) = false := beq_eq_false_iff_ne.mpr c24
    have c24b1 : ((rd l0_1 (ji21)) != 100) = true := bne_iff_ne.mpr c24
    obtain rfl := Option.some.inj H
    have hcz25 := bc4_ BK480.out
    go_wp2_with (first | ((with_reducible refine gate_callee (f := 57) rfl ?_); refine gl_ (some 33) Try.func57 #[.int .i64 a0_0, .int .i64 1, .int .i64 9] ?_; (with_reducible refine (impl_InRange.calls a0_0 1 9 true _ A15.out).mono ?_); rintro e w' ⟨rfl, ⟨nd, rfl⟩⟩; refine ⟨_, rfl, ?_⟩) | (go_at_call 57; (with_reducible refine (impl_InRange.calls (l0_1.length : Int) 1 5 true _ A18.out).mono ?_); rintro e w' ⟨rfl, ⟨nd, rfl⟩⟩; have p486 : 0 ≤ ((ji21) : Int) := dt_; have q486 : (ji21) < (l0_1.length : Int) := dt_; obtain ⟨ad486, e486, hx486_0⟩ := Kd.at_int HR0_1.out (ji21) p486 q486; cases e486; replace hx486_0 := bt_ HB hx486_0; replace p486 := eq_true p486; replace q486 := eq_true q486))
    go_ret
    exact ⟨by first | rfl | (simp [errW_none, errW_some] <;> rfl) | (simp only [← hji21]; first | rfl | (simp [errW_none, errW_some] <;> rfl)) | (simp [*, errW_none, errW_some] <;> rfl), pb1_ HB.out GE480.out⟩
  rw [if_pos c24] at H
  have c24b0 : ((rd l0_1 (ji21)) == 100) = true := beq_iff_eq.mpr c24
  have c24b1 : ((rd l0_1 (ji21)) != 100) = false := bne_eq_false_iff_eq.mpr c24
  clear c24
  replace H := Option.bind_eq_some_iff.mp H
  obtain ⟨t487, A260, H⟩ := H
  replace H : (some t487) = some r := H
  have A26 := Aside0.mk A260
  clear A260
  obtain rfl := Option.some.inj H
  have hcz27 := bc4_ BK480.out
  go_wp2_with (first | ((with_reducible refine gate_callee (f := 57) rfl ?_); refine gl_ (some 33) Try.func57 #[.int .i64 a0_0, .int .i64 1, .int .i64 9] ?_; (with_reducible refine (impl_InRange.calls a0_0 1 9 true _ A15.out).mono ?_); rintro e w' ⟨rfl, ⟨nd, rfl⟩⟩; refine ⟨_, rfl, ?_⟩) | (go_at_call 57; (with_reducible refine (impl_InRange.calls (l0_1.length : Int) 1 5 true _ A18.out).mono ?_); rintro e w' ⟨rfl, ⟨nd, rfl⟩⟩; have p486 : 0 ≤ ((ji21) : Int) := dt_; have q486 : (ji21) < (l0_1.length : Int) := dt_; obtain ⟨ad486, e486, hx486_0⟩ := Kd.at_int HR0_1.out (ji21) p486 q486; cases e486; replace hx486_0 := bt_ HB hx486_0; replace p486 := eq_true p486; replace q486 := eq_true q486) | (go_at_call 57; (with_reducible refine (impl_InRange.calls a0_2 0 ji21 t487 _ A26.out).mono ?_); rintro e w' ⟨rfl, ⟨nd, rfl⟩⟩))
  go_ret
  exact ⟨by first | rfl | (simp [errW_none, errW_some] <;> rfl) | (simp only [← hji21]; first | rfl | (simp [errW_none, errW_some] <;> rfl)) | (simp [*, errW_none, errW_some] <;> rfl), pb1_ HB.out GE480.out⟩

/-! ### impl_IsWorld_1: function 53 -/
def impl_IsWorld_1.f (k : Nat) (l0_0 : List Int) (l0_1 : List Int) (l0_2 : List (S95)) (a0_3 : Int) : Option (Bool) := (impl_IsEndpoint.f k l0_0 l0_1 l0_2 a0_3).bind fun t489 => (some (!t489))
theorem impl_IsWorld_1.mono : ∀ a0 a1 a2 a3 k, LeO (impl_IsWorld_1.f k a0 a1 a2 a3) (impl_IsWorld_1.f (k + 1) a0 a1 a2 a3) := by
  intro a0 a1 a2 a3 k
  unfold impl_IsWorld_1.f
  repeat' first
      | (with_reducible exact impl_IsEndpoint.mono _ _ _ _ _)
      | (with_reducible exact LeO.refl _)
      | (with_reducible exact LeO.none _)
      | (with_reducible refine LeO.ite ?_ ?_)
      | (with_reducible refine LeO.bind ?_ (fun _ => ?_))
      | exact impl_IsEndpoint.mono _ _ _ _ _
      | exact LeO.none _
      | refine LeO.ite ?_ ?_
      | refine LeO.bind ?_ (fun _ => ?_)
set_option maxHeartbeats 8000000 in
set_option maxRecDepth 100000 in
theorem impl_IsWorld_1.calls (k : Nat) (A0_0 : Option Addr) (c0_0 : Nat) (l0_0 : List Int) (A0_1 : Option Addr) (c0_1 : Nat) (l0_1 : List Int) (A0_2 : Option Addr) (c0_2 : Nat) (l0_2 : List (S95)) (a0_3 : Int) (r : Bool) (w : World) (hr0_0 : Kd.C (Kd.int .i64) w A0_0 l0_0.length l0_0) (hc0_0 : l0_0.length ≤ c0_0) (hr0_1 : Kd.C (Kd.int .i64) w A0_1 l0_1.length l0_1) (hc0_1 : l0_1.length ≤ c0_1) (hr0_2 : Kd.C k95 w A0_2 l0_2.length l0_2) (hc0_2 : l0_2.length ≤ c0_2) (h : impl_IsWorld_1.f k l0_0 l0_1 l0_2 a0_3 = some r) :
    Calls Try.prog 53 #[.agg #[.slice A0_0 l0_0.length c0_0, .slice A0_1 l0_1.length c0_1, .slice A0_2 l0_2.length c0_2, .int .i64 a0_3]] w fun e w' => e = .returned (.bool r) ∧ Below w.heap.size w w' := by
  have hu50 := Try.underlying50
  have HR0_0 := Aside0.mk hr0_0
  have HC0_0 := Aside0.mk hc0_0
  clear hr0_0 hc0_0
  have HR0_1 := Aside0.mk hr0_1
  have HC0_1 := Aside0.mk hc0_1
  clear hr0_1 hc0_1
  have HR0_2 := Aside0.mk hr0_2
  have HC0_2 := Aside0.mk hc0_2
  clear hr0_2 hc0_2
  have HB := Aside0.mk (Below.refl w.heap.size w)
  have H : ((impl_IsEndpoint.f k l0_0 l0_1 l0_2 a0_3).bind fun t489 => (some (!t489))) = some r := h
  clear h
  replace H := Option.bind_eq_some_iff.mp H
  obtain ⟨t489, A20, H⟩ := H
  replace H : (some (!t489)) = some r := H
  have A2 := Aside0.mk A20
  clear A20
  obtain rfl := Option.some.inj H
  go_enter Try.func53, Try.ntmps53
  go_wp2_with (first | ((with_reducible refine gate_dst (N := 1) rfl ?_); refine box_event ?hg (N := 1) ?hd (cs := #[.slice A0_0 l0_0.length c0_0, .slice A0_1 l0_1.length c0_1, .slice A0_2 l0_2.length c0_2, .int .i64 a0_3]) (t := 50) ?hr ?_; (case hd => rfl); (case hg => rfl); (case hr => first | (go_simp; done) | (go_simp; rfl)); intro gb488 hg w3 hbox hb; have n0_ := Aside0.mk (below_step (pb_ HB.out) hb); have n1_ := Aside0.mk (hbox); have n2_ := Aside0.mk ((by rw [hg]; exact (below_size (pb_ HB.out)) : w.heap.size ≤ gb488)); have n3_ := Aside0.mk ((by rw [hg]; exact (below_size (pb_ HB.out)) : w.heap.size ≤ gb488)); clear HB; have HB := n0_; have BK488 := n1_; have GW488 := n2_; have GE488 := n3_; clear n0_ n1_ n2_ n3_; clear hb hbox hg; have hcz4 := bc4_ BK488.out) | ((with_reducible refine gate_callee (f := 54) rfl ?_); refine gl_ (some 4) Try.func54 #[.agg #[.slice A0_0 l0_0.length c0_0, .slice A0_1 l0_1.length c0_1, .slice A0_2 l0_2.length c0_2, .int .i64 a0_3]] ?_; (with_reducible refine (impl_IsEndpoint.calls k _ _ l0_0 _ _ l0_1 _ _ l0_2 a0_3 t489 _ ?side1 ?side2 ?side3 ?side4 ?side5 ?side6 A2.out).mono ?_); (case side1 => exact cb_ HR0_0 HB); (case side2 => exact HC0_0.out); (case side3 => exact cb_ HR0_1 HB); (case side4 => exact HC0_1.out); (case side5 => exact cb_ HR0_2 HB); (case side6 => exact HC0_2.out); rintro e w5 ⟨rfl, hb⟩; refine ⟨_, rfl, ?_⟩; have _ := Aside0.mk (bb_ BK488.out hb); have _ := Aside0.mk (below_step (pb1_ HB.out GE488.out) hb); clear BK488 HB; rename_i BK488 HB; (try clear hb); (try clear hb2); (try clear hk); (try clear hi)))
  go_ret
  exact ⟨er_, pb1_ HB.out GE488.out⟩

end Go.Proofs.Ytchnkakjjbfklaa.Print
