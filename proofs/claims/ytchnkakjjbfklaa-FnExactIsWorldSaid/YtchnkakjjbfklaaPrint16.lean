-- Written by a program of this session (printx.py) out of the translation; Lean checks it.
import Derived.Test.YtchnkakjjbfklaaPrint0
import Derived.Test.YtchnkakjjbfklaaPrint2
import Derived.Test.YtchnkakjjbfklaaPrint3
import Derived.Test.YtchnkakjjbfklaaPrint6
import Derived.Test.YtchnkakjjbfklaaPrint10
import Derived.Test.YtchnkakjjbfklaaPrint15
namespace Go.Proofs.Ytchnkakjjbfklaa.Print
open Go.RowKit Go.Proofs.YtchnkakjjbfklaaW.PrintWords Go.Proofs.YtchnkakjjbfklaaW.PrintLast Go.Proofs.YtchnkakjjbfklaaW.PrintMore Go.Proofs.Ytchnkakjjbfklaa.Short
attribute [local go_sem] max2_int min2_int max_two min_two max_three min_three max_four min_four   -- for this text's walks alone
set_option linter.unusedVariables false
set_option linter.unusedSimpArgs false

/-! ### laws_FnExactIsWorld: function 4 -/
def laws_FnExactIsWorld.f (k : Nat) (l0_0 : List Int) (l0_1 : List Int) (a0_2 : Int) (l0_3 : List (S85)) (a0_4 : Int) (l0_5 : List Int) (a0_6 : Int) (a0_7 : Bool) (a0_8 : Int) (a0_9 : Int) (l0_10 : List (S89)) (l0_11 : List (S92)) (a0_12 : Int) (a0_13 : Int) (a0_14 : Int) : Option (Bool) := (laws_szWorld.f k l0_0 l0_1 a0_2 l0_3 a0_4 l0_5 a0_6 a0_7 a0_8 a0_9 l0_10 l0_11 a0_12 a0_13 a0_14 1048576).bind fun t509 => (if t509 < 0 then (some true) else ((laws_toWorld.f k l0_0 l0_1 a0_2 l0_3 a0_4 l0_5 a0_6 a0_7 a0_8 a0_9 l0_10 l0_11 a0_12 a0_13 a0_14).bind fun bt510 => ((spec_IsWorld.f k bt510.1 bt510.2.1 bt510.2.2.1 bt510.2.2.2.1 bt510.2.2.2.2.1 bt510.2.2.2.2.2.1 bt510.2.2.2.2.2.2.1 bt510.2.2.2.2.2.2.2.1 bt510.2.2.2.2.2.2.2.2.1 bt510.2.2.2.2.2.2.2.2.2.1 bt510.2.2.2.2.2.2.2.2.2.2.1 bt510.2.2.2.2.2.2.2.2.2.2.2.1 bt510.2.2.2.2.2.2.2.2.2.2.2.2.1 bt510.2.2.2.2.2.2.2.2.2.2.2.2.2.1 bt510.2.2.2.2.2.2.2.2.2.2.2.2.2.2).bind fun t537 => ((laws_toWorld.f k l0_0 l0_1 a0_2 l0_3 a0_4 l0_5 a0_6 a0_7 a0_8 a0_9 l0_10 l0_11 a0_12 a0_13 a0_14).bind fun bt538 => ((impl_IsWorld.f k bt538.1 bt538.2.1 bt538.2.2.1 bt538.2.2.2.1 bt538.2.2.2.2.1 bt538.2.2.2.2.2.1 bt538.2.2.2.2.2.2.1 bt538.2.2.2.2.2.2.2.1 bt538.2.2.2.2.2.2.2.2.1 bt538.2.2.2.2.2.2.2.2.2.1 bt538.2.2.2.2.2.2.2.2.2.2.1 bt538.2.2.2.2.2.2.2.2.2.2.2.1 bt538.2.2.2.2.2.2.2.2.2.2.2.2.1 bt538.2.2.2.2.2.2.2.2.2.2.2.2.2.1 bt538.2.2.2.2.2.2.2.2.2.2.2.2.2.2).bind fun t566 => (if (t566 != t537) = true then (some false) else ((laws_toWorld.f k l0_0 l0_1 a0_2 l0_3 a0_4 l0_5 a0_6 a0_7 a0_8 a0_9 l0_10 l0_11 a0_12 a0_13 a0_14).bind fun bt567 => ((laws_eqWorld.f k bt538.1 bt538.2.1 bt538.2.2.1 bt538.2.2.2.1 bt538.2.2.2.2.1 bt538.2.2.2.2.2.1 bt538.2.2.2.2.2.2.1 bt538.2.2.2.2.2.2.2.1 bt538.2.2.2.2.2.2.2.2.1 bt538.2.2.2.2.2.2.2.2.2.1 bt538.2.2.2.2.2.2.2.2.2.2.1 bt538.2.2.2.2.2.2.2.2.2.2.2.1 bt538.2.2.2.2.2.2.2.2.2.2.2.2.1 bt538.2.2.2.2.2.2.2.2.2.2.2.2.2.1 bt538.2.2.2.2.2.2.2.2.2.2.2.2.2.2 bt567.1 bt567.2.1 bt567.2.2.1 bt567.2.2.2.1 bt567.2.2.2.2.1 bt567.2.2.2.2.2.1 bt567.2.2.2.2.2.2.1 bt567.2.2.2.2.2.2.2.1 bt567.2.2.2.2.2.2.2.2.1 bt567.2.2.2.2.2.2.2.2.2.1 bt567.2.2.2.2.2.2.2.2.2.2.1 bt567.2.2.2.2.2.2.2.2.2.2.2.1 bt567.2.2.2.2.2.2.2.2.2.2.2.2.1 bt567.2.2.2.2.2.2.2.2.2.2.2.2.2.1 bt567.2.2.2.2.2.2.2.2.2.2.2.2.2.2).bind fun t594 => (if t594 = true then (some true) else (some false))))))))))
theorem laws_FnExactIsWorld.mono : ∀ a0 a1 a2 a3 a4 a5 a6 a7 a8 a9 a10 a11 a12 a13 a14 k, LeO (laws_FnExactIsWorld.f k a0 a1 a2 a3 a4 a5 a6 a7 a8 a9 a10 a11 a12 a13 a14) (laws_FnExactIsWorld.f (k + 1) a0 a1 a2 a3 a4 a5 a6 a7 a8 a9 a10 a11 a12 a13 a14) := by
  intro a0 a1 a2 a3 a4 a5 a6 a7 a8 a9 a10 a11 a12 a13 a14 k
  unfold laws_FnExactIsWorld.f
  repeat' first
      | (with_reducible exact impl_IsWorld.mono _ _ _ _ _ _ _ _ _ _ _ _ _ _ _ _)
      | (with_reducible exact laws_eqWorld.mono _ _ _ _ _ _ _ _ _ _ _ _ _ _ _ _ _ _ _ _ _ _ _ _ _ _ _ _ _ _ _)
      | (with_reducible exact laws_szWorld.mono _ _ _ _ _ _ _ _ _ _ _ _ _ _ _ _ _)
      | (with_reducible exact laws_toWorld.mono _ _ _ _ _ _ _ _ _ _ _ _ _ _ _ _)
      | (with_reducible exact spec_IsWorld.mono _ _ _ _ _ _ _ _ _ _ _ _ _ _ _ _)
      | (with_reducible exact LeO.refl _)
      | (with_reducible exact LeO.none _)
      | (with_reducible refine LeO.ite ?_ ?_)
      | (with_reducible refine LeO.bind ?_ (fun _ => ?_))
      | exact impl_IsWorld.mono _ _ _ _ _ _ _ _ _ _ _ _ _ _ _ _
      | exact laws_eqWorld.mono _ _ _ _ _ _ _ _ _ _ _ _ _ _ _ _ _ _ _ _ _ _ _ _ _ _ _ _ _ _ _
      | exact laws_szWorld.mono _ _ _ _ _ _ _ _ _ _ _ _ _ _ _ _ _
      | exact laws_toWorld.mono _ _ _ _ _ _ _ _ _ _ _ _ _ _ _ _
      | exact spec_IsWorld.mono _ _ _ _ _ _ _ _ _ _ _ _ _ _ _ _
      | exact LeO.none _
      | refine LeO.ite ?_ ?_
      | refine LeO.bind ?_ (fun _ => ?_)
set_option maxHeartbeats 8000000 in
set_option maxRecDepth 100000 in
theorem laws_FnExactIsWorld.calls (k : Nat) (A0_0 : Option Addr) (c0_0 : Nat) (l0_0 : List Int) (A0_1 : Option Addr) (c0_1 : Nat) (l0_1 : List Int) (a0_2 : Int) (A0_3 : Option Addr) (c0_3 : Nat) (l0_3 : List (S85)) (a0_4 : Int) (A0_5 : Option Addr) (c0_5 : Nat) (l0_5 : List Int) (a0_6 : Int) (a0_7 : Bool) (a0_8 : Int) (a0_9 : Int) (A0_10 : Option Addr) (c0_10 : Nat) (l0_10 : List (S89)) (A0_11 : Option Addr) (c0_11 : Nat) (l0_11 : List (S92)) (a0_12 : Int) (a0_13 : Int) (a0_14 : Int) (r : Bool) (w : World) (hr0_0 : Kd.C (Kd.int .i64) w A0_0 l0_0.length l0_0) (hc0_0 : l0_0.length ≤ c0_0) (hr0_1 : Kd.C (Kd.int .i64) w A0_1 l0_1.length l0_1) (hc0_1 : l0_1.length ≤ c0_1) (hr0_3 : Kd.C k85 w A0_3 l0_3.length l0_3) (hc0_3 : l0_3.length ≤ c0_3) (hr0_5 : Kd.C (Kd.int .i64) w A0_5 l0_5.length l0_5) (hc0_5 : l0_5.length ≤ c0_5) (hr0_10 : Kd.C k89 w A0_10 l0_10.length l0_10) (hc0_10 : l0_10.length ≤ c0_10) (hr0_11 : Kd.C k92 w A0_11 l0_11.length l0_11) (hc0_11 : l0_11.length ≤ c0_11) (h : laws_FnExactIsWorld.f k l0_0 l0_1 a0_2 l0_3 a0_4 l0_5 a0_6 a0_7 a0_8 a0_9 l0_10 l0_11 a0_12 a0_13 a0_14 = some r) :
    Calls Try.prog 4 #[.agg #[.slice A0_0 l0_0.length c0_0, .slice A0_1 l0_1.length c0_1, .int .i64 a0_2, .slice A0_3 l0_3.length c0_3, .int .i64 a0_4, .slice A0_5 l0_5.length c0_5, .int .i64 a0_6, .bool a0_7, .int .i64 a0_8, .int .i64 a0_9, .slice A0_10 l0_10.length c0_10, .slice A0_11 l0_11.length c0_11, .int .i64 a0_12, .int .i64 a0_13, .int .i64 a0_14]] w fun e w' => e = .returned (.bool r) ∧ Below w.heap.size w w' := by
  have hu29 := Try.underlying29
  have hu37 := Try.underlying37
  have HR0_0 := Aside0.mk hr0_0
  have HC0_0 := Aside0.mk hc0_0
  clear hr0_0 hc0_0
  have HR0_1 := Aside0.mk hr0_1
  have HC0_1 := Aside0.mk hc0_1
  clear hr0_1 hc0_1
  have HR0_3 := Aside0.mk hr0_3
  have HC0_3 := Aside0.mk hc0_3
  clear hr0_3 hc0_3
  have HR0_5 := Aside0.mk hr0_5
  have HC0_5 := Aside0.mk hc0_5
  clear hr0_5 hc0_5
  have HR0_10 := Aside0.mk hr0_10
  have HC0_10 := Aside0.mk hc0_10
  clear hr0_10 hc0_10
  have HR0_11 := Aside0.mk hr0_11
  have HC0_11 := Aside0.mk hc0_11
  clear hr0_11 hc0_11
  have HB := Aside0.mk (Below.refl w.heap.size w)
  have H : ((laws_szWorld.f k l0_0 l0_1 a0_2 l0_3 a0_4 l0_5 a0_6 a0_7 a0_8 a0_9 l0_10 l0_11 a0_12 a0_13 a0_14 1048576).bind fun t509 => (if t509 < 0 then (some true) else ((laws_toWorld.f k l0_0 l0_1 a0_2 l0_3 a0_4 l0_5 a0_6 a0_7 a0_8 a0_9 l0_10 l0_11 a0_12 a0_13 a0_14).bind fun bt510 => ((spec_IsWorld.f k bt510.1 bt510.2.1 bt510.2.2.1 bt510.2.2.2.1 bt510.2.2.2.2.1 bt510.2.2.2.2.2.1 bt510.2.2.2.2.2.2.1 bt510.2.2.2.2.2.2.2.1 bt510.2.2.2.2.2.2.2.2.1 bt510.2.2.2.2.2.2.2.2.2.1 bt510.2.2.2.2.2.2.2.2.2.2.1 bt510.2.2.2.2.2.2.2.2.2.2.2.1 bt510.2.2.2.2.2.2.2.2.2.2.2.2.1 bt510.2.2.2.2.2.2.2.2.2.2.2.2.2.1 bt510.2.2.2.2.2.2.2.2.2.2.2.2.2.2).bind fun t537 => ((laws_toWorld.f k l0_0 l0_1 a0_2 l0_3 a0_4 l0_5 a0_6 a0_7 a0_8 a0_9 l0_10 l0_11 a0_12 a0_13 a0_14).bind fun bt538 => ((impl_IsWorld.f k bt538.1 bt538.2.1 bt538.2.2.1 bt538.2.2.2.1 bt538.2.2.2.2.1 bt538.2.2.2.2.2.1 bt538.2.2.2.2.2.2.1 bt538.2.2.2.2.2.2.2.1 bt538.2.2.2.2.2.2.2.2.1 bt538.2.2.2.2.2.2.2.2.2.1 bt538.2.2.2.2.2.2.2.2.2.2.1 bt538.2.2.2.2.2.2.2.2.2.2.2.1 bt538.2.2.2.2.2.2.2.2.2.2.2.2.1 bt538.2.2.2.2.2.2.2.2.2.2.2.2.2.1 bt538.2.2.2.2.2.2.2.2.2.2.2.2.2.2).bind fun t566 => (if (t566 != t537) = true then (some false) else ((laws_toWorld.f k l0_0 l0_1 a0_2 l0_3 a0_4 l0_5 a0_6 a0_7 a0_8 a0_9 l0_10 l0_11 a0_12 a0_13 a0_14).bind fun bt567 => ((laws_eqWorld.f k bt538.1 bt538.2.1 bt538.2.2.1 bt538.2.2.2.1 bt538.2.2.2.2.1 bt538.2.2.2.2.2.1 bt538.2.2.2.2.2.2.1 bt538.2.2.2.2.2.2.2.1 bt538.2.2.2.2.2.2.2.2.1 bt538.2.2.2.2.2.2.2.2.2.1 bt538.2.2.2.2.2.2.2.2.2.2.1 bt538.2.2.2.2.2.2.2.2.2.2.2.1 bt538.2.2.2.2.2.2.2.2.2.2.2.2.1 bt538.2.2.2.2.2.2.2.2.2.2.2.2.2.1 bt538.2.2.2.2.2.2.2.2.2.2.2.2.2.2 bt567.1 bt567.2.1 bt567.2.2.1 bt567.2.2.2.1 bt567.2.2.2.2.1 bt567.2.2.2.2.2.1 bt567.2.2.2.2.2.2.1 bt567.2.2.2.2.2.2.2.1 bt567.2.2.2.2.2.2.2.2.1 bt567.2.2.2.2.2.2.2.2.2.1 bt567.2.2.2.2.2.2.2.2.2.2.1 bt567.2.2.2.2.2.2.2.2.2.2.2.1 bt567.2.2.2.2.2.2.2.2.2.2.2.2.1 bt567.2.2.2.2.2.2.2.2.2.2.2.2.2.1 bt567.2.2.2.2.2.2.2.2.2.2.2.2.2.2).bind fun t594 => (if t594 = true then (some true) else (some false))))))))))) = some r := h
  clear h
  have HS_ := Aside0.mk H
  clear H
  go_enter Try.func4, Try.ntmps4
  go_upto_region 2 with (first | ((with_reducible refine gate_dst (N := 1) rfl ?_); refine box_event ?hg (N := 1) ?hd (cs := #[.slice A0_0 l0_0.length c0_0, .slice A0_1 l0_1.length c0_1, .int .i64 a0_2, .slice A0_3 l0_3.length c0_3, .int .i64 a0_4, .slice A0_5 l0_5.length c0_5, .int .i64 a0_6, .bool a0_7, .int .i64 a0_8, .int .i64 a0_9, .slice A0_10 l0_10.length c0_10, .slice A0_11 l0_11.length c0_11, .int .i64 a0_12, .int .i64 a0_13, .int .i64 a0_14]) (t := 29) ?hr ?_; (case hd => rfl); (case hg => rfl); (case hr => first | (go_simp; done) | (go_simp; rfl)); intro gb508 hg w2 hbox hb; have n0_ := Aside0.mk (below_step (pb_ HB.out) hb); have n1_ := Aside0.mk (hbox); have n2_ := Aside0.mk ((by rw [hg]; exact (below_size (pb_ HB.out)) : w.heap.size ≤ gb508)); have n3_ := Aside0.mk ((by rw [hg]; exact (below_size (pb_ HB.out)) : w.heap.size ≤ gb508)); clear HB; have HB := n0_; have BK508 := n1_; have GW508 := n2_; have GE508 := n3_; clear n0_ n1_ n2_ n3_; clear hb hbox hg))
  (try simp only [Act.put, List.setIfInBounds_toArray, List.set_cons_zero, List.set_cons_succ])
  have H := HS_.out
  clear HS_
  replace H := Option.bind_eq_some_iff.mp H
  obtain ⟨t509, A30, H⟩ := H
  (try dsimp only at H)
  have A3 := Aside0.mk A30
  clear A30
  have HS_ := Aside0.mk H
  clear H
  have hcz4 := bc15_ BK508.out
  go_upto_if 11 with (first | ((with_reducible refine gate_callee (f := 5) rfl ?_); refine gl_ (some 9) Try.func5 #[.agg #[.slice A0_0 l0_0.length c0_0, .slice A0_1 l0_1.length c0_1, .int .i64 a0_2, .slice A0_3 l0_3.length c0_3, .int .i64 a0_4, .slice A0_5 l0_5.length c0_5, .int .i64 a0_6, .bool a0_7, .int .i64 a0_8, .int .i64 a0_9, .slice A0_10 l0_10.length c0_10, .slice A0_11 l0_11.length c0_11, .int .i64 a0_12, .int .i64 a0_13, .int .i64 a0_14], .int .i64 1048576] ?_; (with_reducible refine (laws_szWorld.calls k _ _ l0_0 _ _ l0_1 a0_2 _ _ l0_3 a0_4 _ _ l0_5 a0_6 a0_7 a0_8 a0_9 _ _ l0_10 _ _ l0_11 a0_12 a0_13 a0_14 1048576 t509 _ ?side1 ?side2 ?side3 ?side4 ?side5 ?side6 ?side7 ?side8 ?side9 ?side10 ?side11 ?side12 A3.out).mono ?_); (case side1 => exact cb_ HR0_0 HB); (case side2 => exact HC0_0.out); (case side3 => exact cb_ HR0_1 HB); (case side4 => exact HC0_1.out); (case side5 => exact cb_ HR0_3 HB); (case side6 => exact HC0_3.out); (case side7 => exact cb_ HR0_5 HB); (case side8 => exact HC0_5.out); (case side9 => exact cb_ HR0_10 HB); (case side10 => exact HC0_10.out); (case side11 => exact cb_ HR0_11 HB); (case side12 => exact HC0_11.out); rintro e w5 ⟨rfl, hb⟩; refine ⟨_, rfl, ?_⟩; have _ := Aside0.mk (bb_ BK508.out hb); have _ := Aside0.mk (below_step (pb1_ HB.out GE508.out) hb); clear BK508 HB; rename_i BK508 HB; (try clear hb); (try clear hb2); (try clear hk); (try clear hi)))
  (try simp only [Act.put, List.setIfInBounds_toArray, List.set_cons_zero, List.set_cons_succ])
  have H := HS_.out
  clear HS_
  by_cases c6 : t509 < 0
  · rw [if_pos c6] at H
    have c6b0 : decide (t509 < 0) = true := decide_eq_true c6
    clear c6
    (first | rw [c6b0] | (simp only [i64_w, i32_w]; rw [c6b0]) | skip)
    obtain rfl := Option.some.inj H
    go_wp2
    go_ret
    exact ⟨er_, pb1_ HB.out GE508.out⟩
  rw [if_neg c6] at H
  have c6b0 : decide (t509 < 0) = false := decide_eq_false c6
  clear c6
  (first | rw [c6b0] | (simp only [i64_w, i32_w]; rw [c6b0]) | skip)
  replace H := Option.bind_eq_some_iff.mp H
  obtain ⟨⟨t510, t513, t516, t517, t520, t521, t524, t525, t526, t527, t528, t531, t534, t535, t536⟩, A70, H⟩ := H
  (try dsimp only at H)
  have A7 := Aside0.mk A70
  clear A70
  replace H := Option.bind_eq_some_iff.mp H
  obtain ⟨t537, A80, H⟩ := H
  (try dsimp only at H)
  have A8 := Aside0.mk A80
  clear A80
  have HS_ := Aside0.mk H
  clear H
  have hcz9 := bc15_ BK508.out
  go_upto_region 6 with (first | ((with_reducible refine gate_callee (f := 7) rfl ?_); refine gl_ (some 13) Try.func7 #[.agg #[.slice A0_0 l0_0.length c0_0, .slice A0_1 l0_1.length c0_1, .int .i64 a0_2, .slice A0_3 l0_3.length c0_3, .int .i64 a0_4, .slice A0_5 l0_5.length c0_5, .int .i64 a0_6, .bool a0_7, .int .i64 a0_8, .int .i64 a0_9, .slice A0_10 l0_10.length c0_10, .slice A0_11 l0_11.length c0_11, .int .i64 a0_12, .int .i64 a0_13, .int .i64 a0_14]] ?_; (with_reducible refine (laws_toWorld.calls k _ _ l0_0 _ _ l0_1 a0_2 _ _ l0_3 a0_4 _ _ l0_5 a0_6 a0_7 a0_8 a0_9 _ _ l0_10 _ _ l0_11 a0_12 a0_13 a0_14 t510 t513 t516 t517 t520 t521 t524 t525 t526 t527 t528 t531 t534 t535 t536 _ ?side1 ?side2 ?side3 ?side4 ?side5 ?side6 ?side7 ?side8 ?side9 ?side10 ?side11 ?side12 A7.out).mono ?_); (case side1 => exact cb_ HR0_0 HB); (case side2 => exact HC0_0.out); (case side3 => exact cb_ HR0_1 HB); (case side4 => exact HC0_1.out); (case side5 => exact cb_ HR0_3 HB); (case side6 => exact HC0_3.out); (case side7 => exact cb_ HR0_5 HB); (case side8 => exact HC0_5.out); (case side9 => exact cb_ HR0_10 HB); (case side10 => exact HC0_10.out); (case side11 => exact cb_ HR0_11 HB); (case side12 => exact HC0_11.out); rintro e w10 ⟨v511, v514, v518, v522, v529, v532, rfl, ho0, ho1, ho2, ho3, ho4, ho5, hb⟩; refine ⟨_, rfl, ?_⟩; have _ := Aside0.mk (Kd.R_lower ho0 (below_size (pb1_ HB.out GE508.out))); have _ := Aside0.mk (Kd.R_lower ho1 (below_size (pb1_ HB.out GE508.out))); have _ := Aside0.mk (Kd.R_lower ho2 (below_size (pb1_ HB.out GE508.out))); have _ := Aside0.mk (Kd.R_lower ho3 (below_size (pb1_ HB.out GE508.out))); have _ := Aside0.mk (Kd.S_lower ho4 (below_size (pb1_ HB.out GE508.out))); have _ := Aside0.mk (Kd.S_lower ho5 (below_size (pb1_ HB.out GE508.out))); have _ := Aside0.mk (bb_ BK508.out hb); have _ := Aside0.mk (below_step (pb1_ HB.out GE508.out) hb); clear BK508 HB; rename_i HO512 HO515 HO519 HO523 HO530 HO533 BK508 HB; (try clear hb); (try clear hb2); (try clear hk); (try clear hi); (try clear ho0); (try clear ho1); (try clear ho2); (try clear ho3); (try clear ho4); (try clear ho5); obtain ⟨Ao11, co11, eo11⟩ := Kd.R_slice HO512.out; subst eo11; obtain ⟨Ao12, co12, eo12⟩ := Kd.R_slice HO515.out; subst eo12; obtain ⟨Ao13, co13, eo13⟩ := Kd.R_slice HO519.out; subst eo13; obtain ⟨Ao14, co14, eo14⟩ := Kd.R_slice HO523.out; subst eo14; obtain ⟨Ao15, co15, eo15⟩ := Kd.S_slice HO530.out; subst eo15; obtain ⟨Ao16, co16, eo16⟩ := Kd.S_slice HO533.out; subst eo16) | ((with_reducible refine gate_callee (f := 10) rfl ?_); refine gl_ (some 14) Try.func10 #[.agg #[.slice Ao11 t510.length co11, .slice Ao12 t513.length co12, .int .i64 t516, .slice Ao13 t517.length co13, .int .i64 t520, .slice Ao14 t521.length co14, .int .i64 t524, .bool t525, .int .i64 t526, .int .i64 t527, .slice Ao15 t528.length co15, .slice Ao16 t531.length co16, .int .i64 t534, .int .i64 t535, .int .i64 t536]] ?_; (with_reducible refine (spec_IsWorld.calls k _ _ t510 _ _ t513 t516 _ _ t517 t520 _ _ t521 t524 t525 t526 t527 _ _ t528 _ _ t531 t534 t535 t536 t537 _ ?side1 ?side2 ?side3 ?side4 ?side5 ?side6 ?side7 ?side8 ?side9 ?side10 ?side11 ?side12 A8.out).mono ?_); (case side1 => exact pc_ ((Kd.R_reads' HO512.out).2.2)); (case side2 => exact (Kd.R_reads' HO512.out).2.1); (case side3 => exact pc_ ((Kd.R_reads' HO515.out).2.2)); (case side4 => exact (Kd.R_reads' HO515.out).2.1); (case side5 => exact pc_ ((Kd.R_reads' HO519.out).2.2)); (case side6 => exact (Kd.R_reads' HO519.out).2.1); (case side7 => exact pc_ ((Kd.R_reads' HO523.out).2.2)); (case side8 => exact (Kd.R_reads' HO523.out).2.1); (case side9 => exact pc_ ((Kd.S_reads' HO530.out).2.2)); (case side10 => exact (Kd.S_reads' HO530.out).2.1); (case side11 => exact pc_ ((Kd.S_reads' HO533.out).2.2)); (case side12 => exact (Kd.S_reads' HO533.out).2.1); rintro e w17 ⟨rfl, hb⟩; refine ⟨_, rfl, ?_⟩; have _ := Aside0.mk (Kd.R_below (pr_ HO512.out) hb); have _ := Aside0.mk (Kd.R_below (pr_ HO515.out) hb); have _ := Aside0.mk (Kd.R_below (pr_ HO519.out) hb); have _ := Aside0.mk (Kd.R_below (pr_ HO523.out) hb); have _ := Aside0.mk (Kd.S_below (ps_ HO530.out) hb); have _ := Aside0.mk (Kd.S_below (ps_ HO533.out) hb); have _ := Aside0.mk (bb_ BK508.out hb); have _ := Aside0.mk (below_step (pb1_ HB.out GE508.out) hb); clear HO512 HO515 HO519 HO523 HO530 HO533 BK508 HB; rename_i HO512 HO515 HO519 HO523 HO530 HO533 BK508 HB; (try clear hb); (try clear hb2); (try clear hk); (try clear hi)))
  (try simp only [Act.put, List.setIfInBounds_toArray, List.set_cons_zero, List.set_cons_succ])
  have H := HS_.out
  clear HS_
  replace H := Option.bind_eq_some_iff.mp H
  obtain ⟨⟨t538, t541, t544, t545, t548, t549, t552, t553, t554, t555, t556, t559, t562, t563, t564⟩, A180, H⟩ := H
  (try dsimp only at H)
  have A18 := Aside0.mk A180
  clear A180
  have HS_ := Aside0.mk H
  clear H
  have hcz19 := bc15_ BK508.out
  go_upto_region 7 with (first | ((with_reducible refine gate_callee (f := 7) rfl ?_); refine gl_ (some 16) Try.func7 #[.agg #[.slice A0_0 l0_0.length c0_0, .slice A0_1 l0_1.length c0_1, .int .i64 a0_2, .slice A0_3 l0_3.length c0_3, .int .i64 a0_4, .slice A0_5 l0_5.length c0_5, .int .i64 a0_6, .bool a0_7, .int .i64 a0_8, .int .i64 a0_9, .slice A0_10 l0_10.length c0_10, .slice A0_11 l0_11.length c0_11, .int .i64 a0_12, .int .i64 a0_13, .int .i64 a0_14]] ?_; (with_reducible refine (laws_toWorld.calls k _ _ l0_0 _ _ l0_1 a0_2 _ _ l0_3 a0_4 _ _ l0_5 a0_6 a0_7 a0_8 a0_9 _ _ l0_10 _ _ l0_11 a0_12 a0_13 a0_14 t538 t541 t544 t545 t548 t549 t552 t553 t554 t555 t556 t559 t562 t563 t564 _ ?side1 ?side2 ?side3 ?side4 ?side5 ?side6 ?side7 ?side8 ?side9 ?side10 ?side11 ?side12 A18.out).mono ?_); (case side1 => exact cb_ HR0_0 HB); (case side2 => exact HC0_0.out); (case side3 => exact cb_ HR0_1 HB); (case side4 => exact HC0_1.out); (case side5 => exact cb_ HR0_3 HB); (case side6 => exact HC0_3.out); (case side7 => exact cb_ HR0_5 HB); (case side8 => exact HC0_5.out); (case side9 => exact cb_ HR0_10 HB); (case side10 => exact HC0_10.out); (case side11 => exact cb_ HR0_11 HB); (case side12 => exact HC0_11.out); rintro e w20 ⟨v539, v542, v546, v550, v557, v560, rfl, ho0, ho1, ho2, ho3, ho4, ho5, hb⟩; refine ⟨_, rfl, ?_⟩; have _ := Aside0.mk (Kd.R_mono (Kd.R_told (Kd.R_told (Kd.R_told (Kd.R_old (pr_ HO512.out) hb) (Kd.R_base ho0)) (Kd.R_base ho1)) (Kd.R_base ho3)) (fun _ h_ => h_.1)); have _ := Aside0.mk (Kd.R_mono (Kd.R_told (Kd.R_told (Kd.R_told (Kd.R_old (pr_ HO515.out) hb) (Kd.R_base ho0)) (Kd.R_base ho1)) (Kd.R_base ho3)) (fun _ h_ => h_.1)); have _ := Aside0.mk (Kd.R_mono (Kd.R_told (Kd.R_told (Kd.R_told (Kd.R_told (Kd.R_old (pr_ HO519.out) hb) (Kd.R_base ho0)) (Kd.R_base ho1)) (Kd.R_base ho2)) (Kd.R_base ho3)) (fun _ h_ => h_.1)); have _ := Aside0.mk (Kd.R_mono (Kd.R_told (Kd.R_told (Kd.R_told (Kd.R_old (pr_ HO523.out) hb) (Kd.R_base ho0)) (Kd.R_base ho1)) (Kd.R_base ho3)) (fun _ h_ => h_.1)); have _ := Aside0.mk (Kd.S_mono (Kd.S_told (Kd.S_told (Kd.S_told (Kd.S_told (Kd.S_old (ps_ HO530.out) hb) (Kd.R_base ho0)) (Kd.R_base ho1)) (Kd.R_base ho3)) (Kd.S_base ho4)) (fun _ h_ => h_.1)); have _ := Aside0.mk (Kd.S_mono (Kd.S_told (Kd.S_told (Kd.S_told (Kd.S_told (Kd.S_old (ps_ HO533.out) hb) (Kd.R_base ho0)) (Kd.R_base ho1)) (Kd.R_base ho3)) (Kd.S_base ho5)) (fun _ h_ => h_.1)); have _ := Aside0.mk (Kd.R_lower (Kd.R_new' (Kd.R_new' (Kd.R_new' ho0 (Kd.R_lt (pr_ HO512.out))) (Kd.R_lt (pr_ HO515.out))) (Kd.R_lt (pr_ HO523.out))) (below_size (pb1_ HB.out GE508.out))); have _ := Aside0.mk (Kd.R_lower (Kd.R_new' (Kd.R_new' (Kd.R_new' ho1 (Kd.R_lt (pr_ HO512.out))) (Kd.R_lt (pr_ HO515.out))) (Kd.R_lt (pr_ HO523.out))) (below_size (pb1_ HB.out GE508.out))); have _ := Aside0.mk (Kd.R_lower (Kd.R_new' (Kd.R_new' (Kd.R_new' (Kd.R_new' ho2 (Kd.R_lt (pr_ HO512.out))) (Kd.R_lt (pr_ HO515.out))) (Kd.R_lt (pr_ HO519.out))) (Kd.R_lt (pr_ HO523.out))) (below_size (pb1_ HB.out GE508.out))); have _ := Aside0.mk (Kd.R_lower (Kd.R_new' (Kd.R_new' (Kd.R_new' ho3 (Kd.R_lt (pr_ HO512.out))) (Kd.R_lt (pr_ HO515.out))) (Kd.R_lt (pr_ HO523.out))) (below_size (pb1_ HB.out GE508.out))); have _ := Aside0.mk (Kd.S_lower (Kd.S_new' (Kd.S_new' (Kd.S_new' (Kd.S_new' ho4 (Kd.R_lt (pr_ HO512.out))) (Kd.R_lt (pr_ HO515.out))) (Kd.R_lt (pr_ HO523.out))) (Kd.S_lt (ps_ HO530.out))) (below_size (pb1_ HB.out GE508.out))); have _ := Aside0.mk (Kd.S_lower (Kd.S_new' (Kd.S_new' (Kd.S_new' (Kd.S_new' ho5 (Kd.R_lt (pr_ HO512.out))) (Kd.R_lt (pr_ HO515.out))) (Kd.R_lt (pr_ HO523.out))) (Kd.S_lt (ps_ HO533.out))) (below_size (pb1_ HB.out GE508.out))); have _ := Aside0.mk (bb_ BK508.out hb); have _ := Aside0.mk (below_step (pb1_ HB.out GE508.out) hb); clear HO512 HO515 HO519 HO523 HO530 HO533 BK508 HB; rename_i HO512 HO515 HO519 HO523 HO530 HO533 HO540 HO543 HO547 HO551 HO558 HO561 BK508 HB; (try clear hb); (try clear hb2); (try clear hk); (try clear hi); (try clear ho0); (try clear ho1); (try clear ho2); (try clear ho3); (try clear ho4); (try clear ho5)) | ((with_reducible refine gate_dst (N := 5) rfl ?_); refine box_event ?hg (N := 5) ?hd (cs := #[.slice none 0 0, .slice none 0 0, .int .i64 0, .slice none 0 0, .int .i64 0, .slice none 0 0, .int .i64 0, .bool false, .int .i64 0, .int .i64 0, .slice none 0 0, .slice none 0 0, .int .i64 0, .int .i64 0, .int .i64 0]) (t := 37) ?hr ?_; (case hd => rfl); (case hg => rfl); (case hr => first | (go_simp; done) | (go_simp; rfl)); intro gb565 hg w21 hbox hb; have n0_ := Aside0.mk (Kd.R_below (pr_ HO512.out) hb); have n1_ := Aside0.mk (Kd.R_below (pr_ HO515.out) hb); have n2_ := Aside0.mk (Kd.R_below (pr_ HO519.out) hb); have n3_ := Aside0.mk (Kd.R_below (pr_ HO523.out) hb); have n4_ := Aside0.mk (Kd.S_below (ps_ HO530.out) hb); have n5_ := Aside0.mk (Kd.S_below (ps_ HO533.out) hb); have n6_ := Aside0.mk (Kd.R_below (pr_ HO540.out) hb); have n7_ := Aside0.mk (Kd.R_below (pr_ HO543.out) hb); have n8_ := Aside0.mk (Kd.R_below (pr_ HO547.out) hb); have n9_ := Aside0.mk (Kd.R_below (pr_ HO551.out) hb); have n10_ := Aside0.mk (Kd.S_below (ps_ HO558.out) hb); have n11_ := Aside0.mk (Kd.S_below (ps_ HO561.out) hb); have n12_ := Aside0.mk (bb_ BK508.out hb); have n13_ := Aside0.mk (below_step (pb1_ HB.out GE508.out) hb); have n14_ := Aside0.mk (hbox); have n15_ := Aside0.mk ((by rw [hg]; exact (below_size (pb1_ HB.out GE508.out)) : w.heap.size ≤ gb565)); have n16_ := Aside0.mk ((by rw [hg]; exact (below_size (pb1_ HB.out GE508.out)) : w.heap.size ≤ gb565)); have n17_ := Aside0.mk ((by rw [hg]; exact Nat.ne_of_lt (blk_lt (pk_ BK508.out)) : gb508 ≠ gb565)); have n18_ := Aside0.mk ((by rw [hg]; exact Nat.ne_of_gt (blk_lt (pk_ BK508.out)) : gb565 ≠ gb508)); clear HO512; clear HO515; clear HO519; clear HO523; clear HO530; clear HO533; clear HO540; clear HO543; clear HO547; clear HO551; clear HO558; clear HO561; clear BK508; clear HB; have HO512 := n0_; have HO515 := n1_; have HO519 := n2_; have HO523 := n3_; have HO530 := n4_; have HO533 := n5_; have HO540 := n6_; have HO543 := n7_; have HO547 := n8_; have HO551 := n9_; have HO558 := n10_; have HO561 := n11_; have BK508 := n12_; have HB := n13_; have BK565 := n14_; have GW565 := n15_; have GE565 := n16_; have NB508_565 := n17_; have NB565_508 := n18_; clear n0_ n1_ n2_ n3_ n4_ n5_ n6_ n7_ n8_ n9_ n10_ n11_ n12_ n13_ n14_ n15_ n16_ n17_ n18_; clear hb hbox hg; obtain ⟨Ao22, co22, eo22⟩ := Kd.R_slice HO540.out; subst eo22; have hnb23 := NB565_508.out; have hnc23 := NB508_565.out; have hcz24 := bc15_ BK565.out; obtain ⟨Ao25, co25, eo25⟩ := Kd.R_slice HO543.out; subst eo25; obtain ⟨Ao26, co26, eo26⟩ := Kd.R_slice HO547.out; subst eo26; obtain ⟨Ao27, co27, eo27⟩ := Kd.R_slice HO551.out; subst eo27; obtain ⟨Ao28, co28, eo28⟩ := Kd.S_slice HO558.out; subst eo28; obtain ⟨Ao29, co29, eo29⟩ := Kd.S_slice HO561.out; subst eo29))
  (try simp only [Act.put, List.setIfInBounds_toArray, List.set_cons_zero, List.set_cons_succ])
  have H := HS_.out
  clear HS_
  replace H := Option.bind_eq_some_iff.mp H
  obtain ⟨t566, A300, H⟩ := H
  (try dsimp only at H)
  have A30 := Aside0.mk A300
  clear A300
  have HS_ := Aside0.mk H
  clear H
  have hnb31 := NB565_508.out
  have hnc31 := NB508_565.out
  have hcz32 := bc15_ BK565.out
  go_upto_if 21 with (first | ((with_reducible refine gate_callee (f := 11) rfl ?_); refine gl_ (some 18) Try.func11 #[.agg #[.slice Ao22 t538.length co22, .slice Ao25 t541.length co25, .int .i64 t544, .slice Ao26 t545.length co26, .int .i64 t548, .slice Ao27 t549.length co27, .int .i64 t552, .bool t553, .int .i64 t554, .int .i64 t555, .slice Ao28 t556.length co28, .slice Ao29 t559.length co29, .int .i64 t562, .int .i64 t563, .int .i64 t564]] ?_; (with_reducible refine (impl_IsWorld.calls k _ _ t538 _ _ t541 t544 _ _ t545 t548 _ _ t549 t552 t553 t554 t555 _ _ t556 _ _ t559 t562 t563 t564 t566 _ ?side1 ?side2 ?side3 ?side4 ?side5 ?side6 ?side7 ?side8 ?side9 ?side10 ?side11 ?side12 A30.out).mono ?_); (case side1 => refine (Kd.R_reads' (e := 3) (base := w.heap.size) (ok := fun k_ => ((((some k_ ≠ (.slice Ao25 t541.length co25 : Value).ownBlock ∧ some k_ ≠ (.slice Ao27 t549.length co27 : Value).ownBlock) ∧ some k_ ≠ (.slice Ao11 t510.length co11 : Value).ownBlock) ∧ some k_ ≠ (.slice Ao12 t513.length co12 : Value).ownBlock) ∧ some k_ ≠ (.slice Ao14 t521.length co14 : Value).ownBlock)) (n := t538.length) (c := co22) ?_).2.2; exact (pr_ (rf15_ HO540.out BK565.out))); (case side2 => exact (Kd.R_reads' HO540.out).2.1); (case side3 => refine (Kd.R_reads' (e := 3) (base := w.heap.size) (ok := fun k_ => ((((some k_ ≠ (.slice Ao22 t538.length co22 : Value).ownBlock ∧ some k_ ≠ (.slice Ao27 t549.length co27 : Value).ownBlock) ∧ some k_ ≠ (.slice Ao11 t510.length co11 : Value).ownBlock) ∧ some k_ ≠ (.slice Ao12 t513.length co12 : Value).ownBlock) ∧ some k_ ≠ (.slice Ao14 t521.length co14 : Value).ownBlock)) (n := t541.length) (c := co25) ?_).2.2; exact (pr_ (rf15_ HO543.out BK565.out))); (case side4 => exact (Kd.R_reads' HO543.out).2.1); (case side5 => refine (Kd.R_reads' (e := 50) (base := w.heap.size) (ok := fun k_ => (((((some k_ ≠ (.slice Ao22 t538.length co22 : Value).ownBlock ∧ (some k_ ≠ (.slice Ao25 t541.length co25 : Value).ownBlock ∧ some k_ ≠ (.slice Ao27 t549.length co27 : Value).ownBlock)) ∧ some k_ ≠ (.slice Ao11 t510.length co11 : Value).ownBlock) ∧ some k_ ≠ (.slice Ao12 t513.length co12 : Value).ownBlock) ∧ some k_ ≠ (.slice Ao13 t517.length co13 : Value).ownBlock) ∧ some k_ ≠ (.slice Ao14 t521.length co14 : Value).ownBlock)) (n := t545.length) (c := co26) ?_).2.2; exact (pr_ (rf15_ HO547.out BK565.out))); (case side6 => exact (Kd.R_reads' HO547.out).2.1); (case side7 => refine (Kd.R_reads' (e := 3) (base := w.heap.size) (ok := fun k_ => ((((some k_ ≠ (.slice Ao22 t538.length co22 : Value).ownBlock ∧ some k_ ≠ (.slice Ao25 t541.length co25 : Value).ownBlock) ∧ some k_ ≠ (.slice Ao11 t510.length co11 : Value).ownBlock) ∧ some k_ ≠ (.slice Ao12 t513.length co12 : Value).ownBlock) ∧ some k_ ≠ (.slice Ao14 t521.length co14 : Value).ownBlock)) (n := t549.length) (c := co27) ?_).2.2; exact (pr_ (rf15_ HO551.out BK565.out))); (case side8 => exact (Kd.R_reads' HO551.out).2.1); (case side9 => refine (Kd.S_reads' (e := 55) (base := w.heap.size) (ok := fun k_ => (((((some k_ ≠ (.slice Ao22 t538.length co22 : Value).ownBlock ∧ (some k_ ≠ (.slice Ao25 t541.length co25 : Value).ownBlock ∧ some k_ ≠ (.slice Ao27 t549.length co27 : Value).ownBlock)) ∧ some k_ ≠ (.slice Ao11 t510.length co11 : Value).ownBlock) ∧ some k_ ≠ (.slice Ao12 t513.length co12 : Value).ownBlock) ∧ some k_ ≠ (.slice Ao14 t521.length co14 : Value).ownBlock) ∧ some k_ ≠ (.slice Ao15 t528.length co15 : Value).ownBlock)) (n := t556.length) (c := co28) ?_).2.2; exact (ps_ (sf15_ HO558.out BK565.out))); (case side10 => exact (Kd.S_reads' HO558.out).2.1); (case side11 => refine (Kd.S_reads' (e := 57) (base := w.heap.size) (ok := fun k_ => (((((some k_ ≠ (.slice Ao22 t538.length co22 : Value).ownBlock ∧ (some k_ ≠ (.slice Ao25 t541.length co25 : Value).ownBlock ∧ some k_ ≠ (.slice Ao27 t549.length co27 : Value).ownBlock)) ∧ some k_ ≠ (.slice Ao11 t510.length co11 : Value).ownBlock) ∧ some k_ ≠ (.slice Ao12 t513.length co12 : Value).ownBlock) ∧ some k_ ≠ (.slice Ao14 t521.length co14 : Value).ownBlock) ∧ some k_ ≠ (.slice Ao16 t531.length co16 : Value).ownBlock)) (n := t559.length) (c := co29) ?_).2.2; exact (ps_ (sf15_ HO561.out BK565.out))); (case side12 => exact (Kd.S_reads' HO561.out).2.1); rintro e w33 ⟨rfl, hb⟩; refine ⟨_, rfl, ?_⟩; have n0_ := Aside0.mk (Kd.R_below (pr_ (rf15_ HO512.out BK565.out)) hb); have n1_ := Aside0.mk (Kd.R_below (pr_ (rf15_ HO515.out BK565.out)) hb); have n2_ := Aside0.mk (Kd.R_below (pr_ (rf15_ HO519.out BK565.out)) hb); have n3_ := Aside0.mk (Kd.R_below (pr_ (rf15_ HO523.out BK565.out)) hb); have n4_ := Aside0.mk (Kd.S_below (ps_ (sf15_ HO530.out BK565.out)) hb); have n5_ := Aside0.mk (Kd.S_below (ps_ (sf15_ HO533.out BK565.out)) hb); have n6_ := Aside0.mk (Kd.R_below (pr_ (rf15_ HO540.out BK565.out)) hb); have n7_ := Aside0.mk (Kd.R_below (pr_ (rf15_ HO543.out BK565.out)) hb); have n8_ := Aside0.mk (Kd.R_below (pr_ (rf15_ HO547.out BK565.out)) hb); have n9_ := Aside0.mk (Kd.R_below (pr_ (rf15_ HO551.out BK565.out)) hb); have n10_ := Aside0.mk (Kd.S_below (ps_ (sf15_ HO558.out BK565.out)) hb); have n11_ := Aside0.mk (Kd.S_below (ps_ (sf15_ HO561.out BK565.out)) hb); have n12_ := Aside0.mk (blk_below (g := gb508) (o := .cells #[.slice A0_0 l0_0.length c0_0, .slice A0_1 l0_1.length c0_1, .int .i64 a0_2, .slice A0_3 l0_3.length c0_3, .int .i64 a0_4, .slice A0_5 l0_5.length c0_5, .int .i64 a0_6, .bool a0_7, .int .i64 a0_8, .int .i64 a0_9, .slice A0_10 l0_10.length c0_10, .slice A0_11 l0_11.length c0_11, .int .i64 a0_12, .int .i64 a0_13, .int .i64 a0_14] 29 (0, 0)) (pp_ BK508.out) hb); have n13_ := Aside0.mk (blk_below (g := gb565) (o := .cells #[.slice Ao22 t538.length co22, .slice Ao25 t541.length co25, .int .i64 t544, .slice Ao26 t545.length co26, .int .i64 t548, .slice Ao27 t549.length co27, .int .i64 t552, .bool t553, .int .i64 t554, .int .i64 t555, .slice Ao28 t556.length co28, .slice Ao29 t559.length co29, .int .i64 t562, .int .i64 t563, .int .i64 t564] 37 (0, 0)) (by apply Eq.trans; (with_reducible repeat (first | apply blk_set | apply blk_drewN | apply blk_drew | apply blk_alloc | apply blk_far (hp := Aside0.out (by assumption)))); exact BK565.out; simp only [List.setIfInBounds_toArray, List.set_cons_zero, List.set_cons_succ]) hb); have n14_ := Aside0.mk (below_step (pb2_ HB.out GE508.out GE565.out) hb); clear HO512; clear HO515; clear HO519; clear HO523; clear HO530; clear HO533; clear HO540; clear HO543; clear HO547; clear HO551; clear HO558; clear HO561; clear BK508; clear BK565; clear HB; have HO512 := n0_; have HO515 := n1_; have HO519 := n2_; have HO523 := n3_; have HO530 := n4_; have HO533 := n5_; have HO540 := n6_; have HO543 := n7_; have HO547 := n8_; have HO551 := n9_; have HO558 := n10_; have HO561 := n11_; have BK508 := n12_; have BK565 := n13_; have HB := n14_; clear n0_ n1_ n2_ n3_ n4_ n5_ n6_ n7_ n8_ n9_ n10_ n11_ n12_ n13_ n14_; (try clear hb); (try clear hb2); (try clear hk); (try clear hi)))
  (try simp only [Act.put, List.setIfInBounds_toArray, List.set_cons_zero, List.set_cons_succ])
  have H := HS_.out
  clear HS_
  by_cases c34 : (t566 != t537) = true
  · rw [if_pos c34] at H
    have c34b0 : (t566 != t537) = true := c34
    (try (have c34b1 : decide (t566 = t537) = false := by simpa using c34))
    (try (have c34b2 : (t566 == t537) = false := by simpa using c34))
    (try (have c34b3 : ¬ (t566 = t537) := by simpa using c34))
    clear c34
    (first | rw [c34b0] | (simp only [i64_w, i32_w]; rw [c34b0]) | (have c_ := c34b0; rw [bne] at c_; rw [c_]; clear c_) | rw [c34b1] | rw [c34b2] | skip)
    obtain rfl := Option.some.inj H
    go_wp2
    go_ret
    exact ⟨er_, pb2_ HB.out GE508.out GE565.out⟩
  rw [if_neg c34] at H
  have c34b0 : (t566 != t537) = false := by simpa using c34
  (try (have c34b1 : decide (t566 = t537) = true := by simpa using c34))
  (try (have c34b2 : (t566 == t537) = true := by simpa using c34))
  clear c34
  (first | rw [c34b0] | (simp only [i64_w, i32_w]; rw [c34b0]) | (have c_ := c34b0; rw [bne] at c_; rw [c_]; clear c_) | rw [c34b1] | rw [c34b2] | skip)
  replace H := Option.bind_eq_some_iff.mp H
  obtain ⟨⟨t567, t570, t573, t574, t577, t578, t581, t582, t583, t584, t585, t588, t591, t592, t593⟩, A350, H⟩ := H
  (try dsimp only at H)
  have A35 := Aside0.mk A350
  clear A350
  replace H := Option.bind_eq_some_iff.mp H
  obtain ⟨t594, A360, H⟩ := H
  replace H : (if t594 = true then (some true) else (some false)) = some r := H
  have A36 := Aside0.mk A360
  clear A360
  have HS_ := Aside0.mk H
  clear H
  try go_wp2
  have _ := Aside0.mk (Kd.R_drew HO512.out)
  have _ := Aside0.mk (Kd.R_drew HO515.out)
  have _ := Aside0.mk (Kd.R_drew HO519.out)
  have _ := Aside0.mk (Kd.R_drew HO523.out)
  have _ := Aside0.mk (Kd.S_drew HO530.out)
  have _ := Aside0.mk (Kd.S_drew HO533.out)
  have _ := Aside0.mk (Kd.R_drew HO540.out)
  have _ := Aside0.mk (Kd.R_drew HO543.out)
  have _ := Aside0.mk (Kd.R_drew HO547.out)
  have _ := Aside0.mk (Kd.R_drew HO551.out)
  have _ := Aside0.mk (Kd.S_drew HO558.out)
  have _ := Aside0.mk (Kd.S_drew HO561.out)
  have _ := Aside0.mk (blk_drew BK508.out)
  have _ := Aside0.mk (blk_drew BK565.out)
  have _ := Aside0.mk (below_drew1 HB.out)
  clear HO512 HO515 HO519 HO523 HO530 HO533 HO540 HO543 HO547 HO551 HO558 HO561 BK508 BK565 HB
  rename_i HO512 HO515 HO519 HO523 HO530 HO533 HO540 HO543 HO547 HO551 HO558 HO561 BK508 BK565 HB
  refine start_ (n := 5) (S := fun w' => w'.cell? ⟨gb565, 0, none⟩ = some (.slice Ao22 t538.length co22) ∧ w'.cell? ⟨gb565, 1, none⟩ = some (.slice Ao25 t541.length co25) ∧ w'.cell? ⟨gb565, 2, none⟩ = some (.int .i64 t544) ∧ w'.cell? ⟨gb565, 3, none⟩ = some (.slice Ao26 t545.length co26) ∧ w'.cell? ⟨gb565, 4, none⟩ = some (.int .i64 t548) ∧ w'.cell? ⟨gb565, 5, none⟩ = some (.slice Ao27 t549.length co27) ∧ w'.cell? ⟨gb565, 6, none⟩ = some (.int .i64 t552) ∧ w'.cell? ⟨gb565, 7, none⟩ = some (.bool t553) ∧ w'.cell? ⟨gb565, 8, none⟩ = some (.int .i64 t554) ∧ w'.cell? ⟨gb565, 9, none⟩ = some (.int .i64 t555) ∧ w'.cell? ⟨gb565, 10, none⟩ = some (.slice Ao28 t556.length co28) ∧ w'.cell? ⟨gb565, 11, none⟩ = some (.slice Ao29 t559.length co29) ∧ w'.cell? ⟨gb565, 12, none⟩ = some (.int .i64 t562) ∧ w'.cell? ⟨gb565, 13, none⟩ = some (.int .i64 t563) ∧ w'.cell? ⟨gb565, 14, none⟩ = some (.int .i64 t564) ∧ w'.cell? ⟨gb508, 0, none⟩ = some (.slice A0_0 l0_0.length c0_0) ∧ w'.cell? ⟨gb508, 1, none⟩ = some (.slice A0_1 l0_1.length c0_1) ∧ w'.cell? ⟨gb508, 2, none⟩ = some (.int .i64 a0_2) ∧ w'.cell? ⟨gb508, 3, none⟩ = some (.slice A0_3 l0_3.length c0_3) ∧ w'.cell? ⟨gb508, 4, none⟩ = some (.int .i64 a0_4) ∧ w'.cell? ⟨gb508, 5, none⟩ = some (.slice A0_5 l0_5.length c0_5) ∧ w'.cell? ⟨gb508, 6, none⟩ = some (.int .i64 a0_6) ∧ w'.cell? ⟨gb508, 7, none⟩ = some (.bool a0_7) ∧ w'.cell? ⟨gb508, 8, none⟩ = some (.int .i64 a0_8) ∧ w'.cell? ⟨gb508, 9, none⟩ = some (.int .i64 a0_9) ∧ w'.cell? ⟨gb508, 10, none⟩ = some (.slice A0_10 l0_10.length c0_10) ∧ w'.cell? ⟨gb508, 11, none⟩ = some (.slice A0_11 l0_11.length c0_11) ∧ w'.cell? ⟨gb508, 12, none⟩ = some (.int .i64 a0_12) ∧ w'.cell? ⟨gb508, 13, none⟩ = some (.int .i64 a0_13) ∧ w'.cell? ⟨gb508, 14, none⟩ = some (.int .i64 a0_14)) (ds := []) (tf_ 0 5) (by kernel_rfl) rfl rfl ⟨(blk_cell BK565.out 0).trans rfl, (blk_cell BK565.out 1).trans rfl, (blk_cell BK565.out 2).trans rfl, (blk_cell BK565.out 3).trans rfl, (blk_cell BK565.out 4).trans rfl, (blk_cell BK565.out 5).trans rfl, (blk_cell BK565.out 6).trans rfl, (blk_cell BK565.out 7).trans rfl, (blk_cell BK565.out 8).trans rfl, (blk_cell BK565.out 9).trans rfl, (blk_cell BK565.out 10).trans rfl, (blk_cell BK565.out 11).trans rfl, (blk_cell BK565.out 12).trans rfl, (blk_cell BK565.out 13).trans rfl, (blk_cell BK565.out 14).trans rfl, (blk_cell BK508.out 0).trans rfl, (blk_cell BK508.out 1).trans rfl, (blk_cell BK508.out 2).trans rfl, (blk_cell BK508.out 3).trans rfl, (blk_cell BK508.out 4).trans rfl, (blk_cell BK508.out 5).trans rfl, (blk_cell BK508.out 6).trans rfl, (blk_cell BK508.out 7).trans rfl, (blk_cell BK508.out 8).trans rfl, (blk_cell BK508.out 9).trans rfl, (blk_cell BK508.out 10).trans rfl, (blk_cell BK508.out 11).trans rfl, (blk_cell BK508.out 12).trans rfl, (blk_cell BK508.out 13).trans rfl, (blk_cell BK508.out 14).trans rfl⟩ (fun hHeld => ?_)
  generalize w33.drew = w37 at HO512 HO515 HO519 HO523 HO530 HO533 HO540 HO543 HO547 HO551 HO558 HO561 BK508 BK565 HB hHeld ⊢
  refine take_ (i := 0) (N := some 22) (v := ?_) (a' := ?_) #[true, false, false, false, false] rfl rfl (by kernel_rfl) (fun _ _ _ h => h) (Or.inl ⟨by rfl, ?_⟩) hHeld ?_ ?_
  rotate_left
  · rintro w' ⟨s0, s1, s2, s3, s4, s5, s6, s7, s8, s9, s10, s11, s12, s13, s14, s15, s16, s17, s18, s19, s20, s21, s22, s23, s24, s25, s26, s27, s28, s29⟩
    go_simp
    (try (simp only [Instr.field]; simp only [underlying, hu29, hu37]; go_simp; simp only [asAgg]; go_simp))
    with_reducible rfl
  rotate_left
  · simp only [Act.put, List.setIfInBounds_toArray, List.set_cons_zero, List.set_cons_succ, i64_w, i32_w]
    rfl
  refine take_ (i := 1) (N := some 23) (v := ?_) (a' := ?_) #[true, true, false, false, false] rfl rfl (by kernel_rfl) (fun _ _ _ h => h) (Or.inl ⟨by rfl, ?_⟩) hHeld ?_ ?_
  rotate_left
  · rintro w' ⟨s0, s1, s2, s3, s4, s5, s6, s7, s8, s9, s10, s11, s12, s13, s14, s15, s16, s17, s18, s19, s20, s21, s22, s23, s24, s25, s26, s27, s28, s29⟩
    go_simp
    (try (simp only [Instr.field]; simp only [underlying, hu29, hu37]; go_simp; simp only [asAgg]; go_simp))
    with_reducible rfl
  rotate_left
  · simp only [Act.put, List.setIfInBounds_toArray, List.set_cons_zero, List.set_cons_succ, i64_w, i32_w]
    rfl
  refine one_ (i := 2) (N := some 24) #[true, true, true, false, false] rfl rfl (by kernel_rfl) (by decide) (fun K hK => ?_)
  refine goes_ Try.func7 (by kernel_rfl) rfl #[.agg #[.slice A0_0 l0_0.length c0_0, .slice A0_1 l0_1.length c0_1, .int .i64 a0_2, .slice A0_3 l0_3.length c0_3, .int .i64 a0_4, .slice A0_5 l0_5.length c0_5, .int .i64 a0_6, .bool a0_7, .int .i64 a0_8, .int .i64 a0_9, .slice A0_10 l0_10.length c0_10, .slice A0_11 l0_11.length c0_11, .int .i64 a0_12, .int .i64 a0_13, .int .i64 a0_14]] (by rfl) rfl rfl mp_ ?_
  with_reducible refine (laws_toWorld.calls k _ _ l0_0 _ _ l0_1 a0_2 _ _ l0_3 a0_4 _ _ l0_5 a0_6 a0_7 a0_8 a0_9 _ _ l0_10 _ _ l0_11 a0_12 a0_13 a0_14 t567 t570 t573 t574 t577 t578 t581 t582 t583 t584 t585 t588 t591 t592 t593 _ ?side1 ?side2 ?side3 ?side4 ?side5 ?side6 ?side7 ?side8 ?side9 ?side10 ?side11 ?side12 A35.out).mono ?_
  (case side1 => exact cb_ HR0_0 HB)
  (case side2 => exact HC0_0.out)
  (case side3 => exact cb_ HR0_1 HB)
  (case side4 => exact HC0_1.out)
  (case side5 => exact cb_ HR0_3 HB)
  (case side6 => exact HC0_3.out)
  (case side7 => exact cb_ HR0_5 HB)
  (case side8 => exact HC0_5.out)
  (case side9 => exact cb_ HR0_10 HB)
  (case side10 => exact HC0_10.out)
  (case side11 => exact cb_ HR0_11 HB)
  (case side12 => exact HC0_11.out)
  rintro e w38 ⟨v568, v571, v575, v579, v586, v589, rfl, ho0, ho1, ho2, ho3, ho4, ho5, hb⟩
  refine ⟨_, rfl, ?_⟩
  have _ := Aside0.mk (Kd.R_mono (Kd.R_told (Kd.R_told (Kd.R_told (Kd.R_old (pr_ HO512.out) hb) (Kd.R_base ho0)) (Kd.R_base ho1)) (Kd.R_base ho3)) (fun _ h_ => h_.1))
  have _ := Aside0.mk (Kd.R_mono (Kd.R_told (Kd.R_told (Kd.R_told (Kd.R_old (pr_ HO515.out) hb) (Kd.R_base ho0)) (Kd.R_base ho1)) (Kd.R_base ho3)) (fun _ h_ => h_.1))
  have _ := Aside0.mk (Kd.R_mono (Kd.R_told (Kd.R_told (Kd.R_told (Kd.R_told (Kd.R_old (pr_ HO519.out) hb) (Kd.R_base ho0)) (Kd.R_base ho1)) (Kd.R_base ho2)) (Kd.R_base ho3)) (fun _ h_ => h_.1))
  have _ := Aside0.mk (Kd.R_mono (Kd.R_told (Kd.R_told (Kd.R_told (Kd.R_old (pr_ HO523.out) hb) (Kd.R_base ho0)) (Kd.R_base ho1)) (Kd.R_base ho3)) (fun _ h_ => h_.1))
  have _ := Aside0.mk (Kd.S_mono (Kd.S_told (Kd.S_told (Kd.S_told (Kd.S_told (Kd.S_old (ps_ HO530.out) hb) (Kd.R_base ho0)) (Kd.R_base ho1)) (Kd.R_base ho3)) (Kd.S_base ho4)) (fun _ h_ => h_.1))
  have _ := Aside0.mk (Kd.S_mono (Kd.S_told (Kd.S_told (Kd.S_told (Kd.S_told (Kd.S_old (ps_ HO533.out) hb) (Kd.R_base ho0)) (Kd.R_base ho1)) (Kd.R_base ho3)) (Kd.S_base ho5)) (fun _ h_ => h_.1))
  have _ := Aside0.mk (Kd.R_mono (Kd.R_told (Kd.R_told (Kd.R_told (Kd.R_old (pr_ HO540.out) hb) (Kd.R_base ho0)) (Kd.R_base ho1)) (Kd.R_base ho3)) (fun _ h_ => h_.1))
  have _ := Aside0.mk (Kd.R_mono (Kd.R_told (Kd.R_told (Kd.R_told (Kd.R_old (pr_ HO543.out) hb) (Kd.R_base ho0)) (Kd.R_base ho1)) (Kd.R_base ho3)) (fun _ h_ => h_.1))
  have _ := Aside0.mk (Kd.R_mono (Kd.R_told (Kd.R_told (Kd.R_told (Kd.R_told (Kd.R_old (pr_ HO547.out) hb) (Kd.R_base ho0)) (Kd.R_base ho1)) (Kd.R_base ho2)) (Kd.R_base ho3)) (fun _ h_ => h_.1))
  have _ := Aside0.mk (Kd.R_mono (Kd.R_told (Kd.R_told (Kd.R_told (Kd.R_old (pr_ HO551.out) hb) (Kd.R_base ho0)) (Kd.R_base ho1)) (Kd.R_base ho3)) (fun _ h_ => h_.1))
  have _ := Aside0.mk (Kd.S_mono (Kd.S_told (Kd.S_told (Kd.S_told (Kd.S_told (Kd.S_old (ps_ HO558.out) hb) (Kd.R_base ho0)) (Kd.R_base ho1)) (Kd.R_base ho3)) (Kd.S_base ho4)) (fun _ h_ => h_.1))
  have _ := Aside0.mk (Kd.S_mono (Kd.S_told (Kd.S_told (Kd.S_told (Kd.S_told (Kd.S_old (ps_ HO561.out) hb) (Kd.R_base ho0)) (Kd.R_base ho1)) (Kd.R_base ho3)) (Kd.S_base ho5)) (fun _ h_ => h_.1))
  have _ := Aside0.mk (Kd.R_lower (Kd.R_new' (Kd.R_new' (Kd.R_new' (Kd.R_new' (Kd.R_new' (Kd.R_new' ho0 (Kd.R_lt (pr_ HO512.out))) (Kd.R_lt (pr_ HO515.out))) (Kd.R_lt (pr_ HO523.out))) (Kd.R_lt (pr_ HO540.out))) (Kd.R_lt (pr_ HO543.out))) (Kd.R_lt (pr_ HO551.out))) (below_size (pb2_ HB.out GE508.out GE565.out)))
  have _ := Aside0.mk (Kd.R_lower (Kd.R_new' (Kd.R_new' (Kd.R_new' (Kd.R_new' (Kd.R_new' (Kd.R_new' ho1 (Kd.R_lt (pr_ HO512.out))) (Kd.R_lt (pr_ HO515.out))) (Kd.R_lt (pr_ HO523.out))) (Kd.R_lt (pr_ HO540.out))) (Kd.R_lt (pr_ HO543.out))) (Kd.R_lt (pr_ HO551.out))) (below_size (pb2_ HB.out GE508.out GE565.out)))
  have _ := Aside0.mk (Kd.R_lower (Kd.R_new' (Kd.R_new' (Kd.R_new' (Kd.R_new' (Kd.R_new' (Kd.R_new' (Kd.R_new' (Kd.R_new' ho2 (Kd.R_lt (pr_ HO512.out))) (Kd.R_lt (pr_ HO515.out))) (Kd.R_lt (pr_ HO519.out))) (Kd.R_lt (pr_ HO523.out))) (Kd.R_lt (pr_ HO540.out))) (Kd.R_lt (pr_ HO543.out))) (Kd.R_lt (pr_ HO547.out))) (Kd.R_lt (pr_ HO551.out))) (below_size (pb2_ HB.out GE508.out GE565.out)))
  have _ := Aside0.mk (Kd.R_lower (Kd.R_new' (Kd.R_new' (Kd.R_new' (Kd.R_new' (Kd.R_new' (Kd.R_new' ho3 (Kd.R_lt (pr_ HO512.out))) (Kd.R_lt (pr_ HO515.out))) (Kd.R_lt (pr_ HO523.out))) (Kd.R_lt (pr_ HO540.out))) (Kd.R_lt (pr_ HO543.out))) (Kd.R_lt (pr_ HO551.out))) (below_size (pb2_ HB.out GE508.out GE565.out)))
  have _ := Aside0.mk (Kd.S_lower (Kd.S_new' (Kd.S_new' (Kd.S_new' (Kd.S_new' (Kd.S_new' (Kd.S_new' (Kd.S_new' (Kd.S_new' ho4 (Kd.R_lt (pr_ HO512.out))) (Kd.R_lt (pr_ HO515.out))) (Kd.R_lt (pr_ HO523.out))) (Kd.S_lt (ps_ HO530.out))) (Kd.R_lt (pr_ HO540.out))) (Kd.R_lt (pr_ HO543.out))) (Kd.R_lt (pr_ HO551.out))) (Kd.S_lt (ps_ HO558.out))) (below_size (pb2_ HB.out GE508.out GE565.out)))
  have _ := Aside0.mk (Kd.S_lower (Kd.S_new' (Kd.S_new' (Kd.S_new' (Kd.S_new' (Kd.S_new' (Kd.S_new' (Kd.S_new' (Kd.S_new' ho5 (Kd.R_lt (pr_ HO512.out))) (Kd.R_lt (pr_ HO515.out))) (Kd.R_lt (pr_ HO523.out))) (Kd.S_lt (ps_ HO533.out))) (Kd.R_lt (pr_ HO540.out))) (Kd.R_lt (pr_ HO543.out))) (Kd.R_lt (pr_ HO551.out))) (Kd.S_lt (ps_ HO561.out))) (below_size (pb2_ HB.out GE508.out GE565.out)))
  have _ := Aside0.mk (bb_ BK508.out hb)
  have _ := Aside0.mk (bb_ BK565.out hb)
  have _ := Aside0.mk (below_step (pb2_ HB.out GE508.out GE565.out) hb)
  clear HO512 HO515 HO519 HO523 HO530 HO533 HO540 HO543 HO547 HO551 HO558 HO561 BK508 BK565 HB
  rename_i HO512 HO515 HO519 HO523 HO530 HO533 HO540 HO543 HO547 HO551 HO558 HO561 HO569 HO572 HO576 HO580 HO587 HO590 BK508 BK565 HB
  (try clear hb)
  (try clear hb2)
  (try clear hk)
  (try clear hi)
  (try clear ho0)
  (try clear ho1)
  (try clear ho2)
  (try clear ho3)
  (try clear ho4)
  (try clear ho5)
  obtain ⟨Ao39, co39, eo39⟩ := Kd.R_slice HO569.out
  (first | subst eo39 | (injection eo39 with f1_ f2_ f3_; have f4_ := f1_.symm; have f5_ := f3_.symm; clear f1_ f2_ f3_; subst f4_; subst f5_))
  obtain ⟨Ao40, co40, eo40⟩ := Kd.R_slice HO572.out
  (first | subst eo40 | (injection eo40 with f1_ f2_ f3_; have f4_ := f1_.symm; have f5_ := f3_.symm; clear f1_ f2_ f3_; subst f4_; subst f5_))
  obtain ⟨Ao41, co41, eo41⟩ := Kd.R_slice HO576.out
  (first | subst eo41 | (injection eo41 with f1_ f2_ f3_; have f4_ := f1_.symm; have f5_ := f3_.symm; clear f1_ f2_ f3_; subst f4_; subst f5_))
  obtain ⟨Ao42, co42, eo42⟩ := Kd.R_slice HO580.out
  (first | subst eo42 | (injection eo42 with f1_ f2_ f3_; have f4_ := f1_.symm; have f5_ := f3_.symm; clear f1_ f2_ f3_; subst f4_; subst f5_))
  obtain ⟨Ao43, co43, eo43⟩ := Kd.S_slice HO587.out
  (first | subst eo43 | (injection eo43 with f1_ f2_ f3_; have f4_ := f1_.symm; have f5_ := f3_.symm; clear f1_ f2_ f3_; subst f4_; subst f5_))
  obtain ⟨Ao44, co44, eo44⟩ := Kd.S_slice HO590.out
  (first | subst eo44 | (injection eo44 with f1_ f2_ f3_; have f4_ := f1_.symm; have f5_ := f3_.symm; clear f1_ f2_ f3_; subst f4_; subst f5_))
  refine hK.out _ _ ⟨(blk_cell BK565.out 0).trans rfl, (blk_cell BK565.out 1).trans rfl, (blk_cell BK565.out 2).trans rfl, (blk_cell BK565.out 3).trans rfl, (blk_cell BK565.out 4).trans rfl, (blk_cell BK565.out 5).trans rfl, (blk_cell BK565.out 6).trans rfl, (blk_cell BK565.out 7).trans rfl, (blk_cell BK565.out 8).trans rfl, (blk_cell BK565.out 9).trans rfl, (blk_cell BK565.out 10).trans rfl, (blk_cell BK565.out 11).trans rfl, (blk_cell BK565.out 12).trans rfl, (blk_cell BK565.out 13).trans rfl, (blk_cell BK565.out 14).trans rfl, (blk_cell BK508.out 0).trans rfl, (blk_cell BK508.out 1).trans rfl, (blk_cell BK508.out 2).trans rfl, (blk_cell BK508.out 3).trans rfl, (blk_cell BK508.out 4).trans rfl, (blk_cell BK508.out 5).trans rfl, (blk_cell BK508.out 6).trans rfl, (blk_cell BK508.out 7).trans rfl, (blk_cell BK508.out 8).trans rfl, (blk_cell BK508.out 9).trans rfl, (blk_cell BK508.out 10).trans rfl, (blk_cell BK508.out 11).trans rfl, (blk_cell BK508.out 12).trans rfl, (blk_cell BK508.out 13).trans rfl, (blk_cell BK508.out 14).trans rfl⟩ (fun hHeld => ?_)
  clear hK K
  refine no_ (some 24) ?_
  refine one_ (i := 3) (N := some 25) #[true, true, true, true, false] rfl rfl (by kernel_rfl) (by decide) (fun K hK => ?_)
  refine goes_ Try.func9 (by kernel_rfl) rfl #[.agg #[.slice Ao22 t538.length co22, .slice Ao25 t541.length co25, .int .i64 t544, .slice Ao26 t545.length co26, .int .i64 t548, .slice Ao27 t549.length co27, .int .i64 t552, .bool t553, .int .i64 t554, .int .i64 t555, .slice Ao28 t556.length co28, .slice Ao29 t559.length co29, .int .i64 t562, .int .i64 t563, .int .i64 t564], .agg #[.slice Ao39 t567.length co39, .slice Ao40 t570.length co40, .int .i64 t573, .slice Ao41 t574.length co41, .int .i64 t577, .slice Ao42 t578.length co42, .int .i64 t581, .bool t582, .int .i64 t583, .int .i64 t584, .slice Ao43 t585.length co43, .slice Ao44 t588.length co44, .int .i64 t591, .int .i64 t592, .int .i64 t593]] (by rfl) rfl rfl mp_ ?_
  with_reducible refine (laws_eqWorld.calls k _ _ t538 _ _ t541 t544 _ _ t545 t548 _ _ t549 t552 t553 t554 t555 _ _ t556 _ _ t559 t562 t563 t564 _ _ t567 _ _ t570 t573 _ _ t574 t577 _ _ t578 t581 t582 t583 t584 _ _ t585 _ _ t588 t591 t592 t593 t594 _ ?side1 ?side2 ?side3 ?side4 ?side5 ?side6 ?side7 ?side8 ?side9 ?side10 ?side11 ?side12 ?side13 ?side14 ?side15 ?side16 ?side17 ?side18 ?side19 ?side20 ?side21 ?side22 ?side23 ?side24 A36.out).mono ?_
  (case side1 => exact pc_ ((Kd.R_reads' HO540.out).2.2))
  (case side2 => exact (Kd.R_reads' HO540.out).2.1)
  (case side3 => exact pc_ ((Kd.R_reads' HO543.out).2.2))
  (case side4 => exact (Kd.R_reads' HO543.out).2.1)
  (case side5 => exact pc_ ((Kd.R_reads' HO547.out).2.2))
  (case side6 => exact (Kd.R_reads' HO547.out).2.1)
  (case side7 => exact pc_ ((Kd.R_reads' HO551.out).2.2))
  (case side8 => exact (Kd.R_reads' HO551.out).2.1)
  (case side9 => exact pc_ ((Kd.S_reads' HO558.out).2.2))
  (case side10 => exact (Kd.S_reads' HO558.out).2.1)
  (case side11 => exact pc_ ((Kd.S_reads' HO561.out).2.2))
  (case side12 => exact (Kd.S_reads' HO561.out).2.1)
  (case side13 => exact pc_ ((Kd.R_reads' HO569.out).2.2))
  (case side14 => exact (Kd.R_reads' HO569.out).2.1)
  (case side15 => exact pc_ ((Kd.R_reads' HO572.out).2.2))
  (case side16 => exact (Kd.R_reads' HO572.out).2.1)
  (case side17 => exact pc_ ((Kd.R_reads' HO576.out).2.2))
  (case side18 => exact (Kd.R_reads' HO576.out).2.1)
  (case side19 => exact pc_ ((Kd.R_reads' HO580.out).2.2))
  (case side20 => exact (Kd.R_reads' HO580.out).2.1)
  (case side21 => exact pc_ ((Kd.S_reads' HO587.out).2.2))
  (case side22 => exact (Kd.S_reads' HO587.out).2.1)
  (case side23 => exact pc_ ((Kd.S_reads' HO590.out).2.2))
  (case side24 => exact (Kd.S_reads' HO590.out).2.1)
  rintro e w45 ⟨rfl, hb⟩
  refine ⟨_, rfl, ?_⟩
  have _ := Aside0.mk (Kd.R_below (pr_ HO512.out) hb)
  have _ := Aside0.mk (Kd.R_below (pr_ HO515.out) hb)
  have _ := Aside0.mk (Kd.R_below (pr_ HO519.out) hb)
  have _ := Aside0.mk (Kd.R_below (pr_ HO523.out) hb)
  have _ := Aside0.mk (Kd.S_below (ps_ HO530.out) hb)
  have _ := Aside0.mk (Kd.S_below (ps_ HO533.out) hb)
  have _ := Aside0.mk (Kd.R_below (pr_ HO540.out) hb)
  have _ := Aside0.mk (Kd.R_below (pr_ HO543.out) hb)
  have _ := Aside0.mk (Kd.R_below (pr_ HO547.out) hb)
  have _ := Aside0.mk (Kd.R_below (pr_ HO551.out) hb)
  have _ := Aside0.mk (Kd.S_below (ps_ HO558.out) hb)
  have _ := Aside0.mk (Kd.S_below (ps_ HO561.out) hb)
  have _ := Aside0.mk (Kd.R_below (pr_ HO569.out) hb)
  have _ := Aside0.mk (Kd.R_below (pr_ HO572.out) hb)
  have _ := Aside0.mk (Kd.R_below (pr_ HO576.out) hb)
  have _ := Aside0.mk (Kd.R_below (pr_ HO580.out) hb)
  have _ := Aside0.mk (Kd.S_below (ps_ HO587.out) hb)
  have _ := Aside0.mk (Kd.S_below (ps_ HO590.out) hb)
  have _ := Aside0.mk (bb_ BK508.out hb)
  have _ := Aside0.mk (bb_ BK565.out hb)
  have _ := Aside0.mk (below_step (pb2_ HB.out GE508.out GE565.out) hb)
  clear HO512 HO515 HO519 HO523 HO530 HO533 HO540 HO543 HO547 HO551 HO558 HO561 HO569 HO572 HO576 HO580 HO587 HO590 BK508 BK565 HB
  rename_i HO512 HO515 HO519 HO523 HO530 HO533 HO540 HO543 HO547 HO551 HO558 HO561 HO569 HO572 HO576 HO580 HO587 HO590 BK508 BK565 HB
  (try clear hb)
  (try clear hb2)
  (try clear hk)
  (try clear hi)
  refine hK.out _ _ ⟨(blk_cell BK565.out 0).trans rfl, (blk_cell BK565.out 1).trans rfl, (blk_cell BK565.out 2).trans rfl, (blk_cell BK565.out 3).trans rfl, (blk_cell BK565.out 4).trans rfl, (blk_cell BK565.out 5).trans rfl, (blk_cell BK565.out 6).trans rfl, (blk_cell BK565.out 7).trans rfl, (blk_cell BK565.out 8).trans rfl, (blk_cell BK565.out 9).trans rfl, (blk_cell BK565.out 10).trans rfl, (blk_cell BK565.out 11).trans rfl, (blk_cell BK565.out 12).trans rfl, (blk_cell BK565.out 13).trans rfl, (blk_cell BK565.out 14).trans rfl, (blk_cell BK508.out 0).trans rfl, (blk_cell BK508.out 1).trans rfl, (blk_cell BK508.out 2).trans rfl, (blk_cell BK508.out 3).trans rfl, (blk_cell BK508.out 4).trans rfl, (blk_cell BK508.out 5).trans rfl, (blk_cell BK508.out 6).trans rfl, (blk_cell BK508.out 7).trans rfl, (blk_cell BK508.out 8).trans rfl, (blk_cell BK508.out 9).trans rfl, (blk_cell BK508.out 10).trans rfl, (blk_cell BK508.out 11).trans rfl, (blk_cell BK508.out 12).trans rfl, (blk_cell BK508.out 13).trans rfl, (blk_cell BK508.out 14).trans rfl⟩ (fun hHeld => ?_)
  clear hK K
  refine no_ (some 25) ?_
  refine pure_ (i := 4) (N := some 26) (v := ?_) (a' := ?_) #[true, true, true, true, true] rfl rfl (by kernel_rfl) (fun _ _ _ h => h) (Or.inl ⟨by rfl, ?_⟩) ?_ ?_
  rotate_left
  · intro w'
    go_simp
    (try (simp only [Instr.field]; simp only [underlying, hu29, hu37]; go_simp; simp only [asAgg]; go_simp))
    with_reducible rfl
  rotate_left
  · simp only [Act.put, List.setIfInBounds_toArray, List.set_cons_zero, List.set_cons_succ, i64_w, i32_w]
    rfl
  refine done_ (by kernel_rfl) ?_
  go_upto_if 26 with (fail)
  have H := HS_.out
  clear HS_
  by_cases c46 : t594 = true
  rotate_left
  · replace c46 := Bool.eq_false_iff.mpr c46
    subst c46
    rw [if_neg (show ¬ (false = true) by decide)] at H
    obtain rfl := Option.some.inj H
    go_wp2
    go_ret
    exact ⟨er_, pb2_ HB.out GE508.out GE565.out⟩
  subst c46
  rw [if_pos rfl] at H
  obtain rfl := Option.some.inj H
  go_wp2
  go_ret
  exact ⟨er_, pb2_ HB.out GE508.out GE565.out⟩

/-- THE ONE PURE STATEMENT of laws_FnExactIsWorld: yours. -/
def laws_FnExactIsWorld.Pure : Prop := ∀ (x0 : S29), Q29 x0 → ∃ k, laws_FnExactIsWorld.f k x0.f0 x0.f1 x0.f2 x0.f3 x0.f4.f0 x0.f4.f1 x0.f4.f2 x0.f4.f3 x0.f5 x0.f6 x0.f7 x0.f8 x0.f9 x0.f10 x0.f11 = some true

end Go.Proofs.Ytchnkakjjbfklaa.Print
