-- Written by a program of this session (printx.py) out of the translation; Lean checks it.
import Derived.Test.YtdoefkloanpliaaPrint0
import Derived.Test.YtdoefkloanpliaaPrint11
import Derived.Test.YtdoefkloanpliaaPrint12
import Derived.Test.YtdoefkloanpliaaPrint13
import Derived.Test.YtdoefkloanpliaaPrint14
namespace Go.Proofs.Ytdoefkloanpliaa.Print
open Go.RowKit Go.Proofs.YtdoefkloanpliaaW.PrintWords Go.Proofs.YtdoefkloanpliaaW.PrintLast Go.Proofs.YtdoefkloanpliaaW.PrintMore Go.Proofs.Ytdoefkloanpliaa.Short
attribute [local go_sem] max2_int min2_int max_two min_two max_three min_three max_four min_four   -- for this text's walks alone
set_option linter.unusedVariables false
set_option linter.unusedSimpArgs false

/-! ### laws_FnExactEqualEndpoints: function 10 -/
def laws_FnExactEqualEndpoints.f (k : Nat) (l0_0 : List Int) (l0_1 : List Int) (l0_2 : List (S64)) (a0_3 : Int) (l1_0 : List Int) (l1_1 : List Int) (l1_2 : List (S64)) (a1_3 : Int) : Option (Bool) := (laws_szEndpoint.f k l0_0 l0_1 l0_2 a0_3 1048576).bind fun t677 => (if t677 < 0 then (some true) else ((laws_szEndpoint.f k l1_0 l1_1 l1_2 a1_3 t677).bind fun t678 => (if t678 < 0 then (some true) else ((laws_toEndpoint.f k l0_0 l0_1 l0_2 a0_3).bind fun bt679 => ((laws_toEndpoint.f k l1_0 l1_1 l1_2 a1_3).bind fun bt689 => ((spec_EqualEndpoints.f k bt679.1 bt679.2.1 bt679.2.2.1 bt679.2.2.2 bt689.1 bt689.2.1 bt689.2.2.1 bt689.2.2.2).bind fun t699 => ((laws_toEndpoint.f k l0_0 l0_1 l0_2 a0_3).bind fun bt700 => ((laws_toEndpoint.f k l1_0 l1_1 l1_2 a1_3).bind fun bt711 => ((impl_EqualEndpoints.f k bt700.1 bt700.2.1 bt700.2.2.1 bt700.2.2.2 bt711.1 bt711.2.1 bt711.2.2.1 bt711.2.2.2).bind fun t722 => (if (t722 != t699) = true then (some false) else ((laws_toEndpoint.f k l0_0 l0_1 l0_2 a0_3).bind fun bt723 => ((laws_eqEndpoint.f k bt700.1 bt700.2.1 bt700.2.2.1 bt700.2.2.2 bt723.1 bt723.2.1 bt723.2.2.1 bt723.2.2.2).bind fun t733 => (if t733 = true then ((laws_toEndpoint.f k l1_0 l1_1 l1_2 a1_3).bind fun bt734 => ((laws_eqEndpoint.f k bt711.1 bt711.2.1 bt711.2.2.1 bt711.2.2.2 bt734.1 bt734.2.1 bt734.2.2.1 bt734.2.2.2).bind fun t744 => (if t744 = true then (some true) else (some false)))) else (some false))))))))))))))
theorem laws_FnExactEqualEndpoints.mono : ∀ a0 a1 a2 a3 a4 a5 a6 a7 k, LeO (laws_FnExactEqualEndpoints.f k a0 a1 a2 a3 a4 a5 a6 a7) (laws_FnExactEqualEndpoints.f (k + 1) a0 a1 a2 a3 a4 a5 a6 a7) := by
  intro a0 a1 a2 a3 a4 a5 a6 a7 k
  unfold laws_FnExactEqualEndpoints.f
  repeat' first
      | (with_reducible exact impl_EqualEndpoints.mono _ _ _ _ _ _ _ _ _)
      | (with_reducible exact laws_eqEndpoint.mono _ _ _ _ _ _ _ _ _)
      | (with_reducible exact laws_szEndpoint.mono _ _ _ _ _ _)
      | (with_reducible exact laws_toEndpoint.mono _ _ _ _ _)
      | (with_reducible exact spec_EqualEndpoints.mono _ _ _ _ _ _ _ _ _)
      | (with_reducible exact LeO.refl _)
      | (with_reducible exact LeO.none _)
      | (with_reducible refine LeO.ite ?_ ?_)
      | (with_reducible refine LeO.bind ?_ (fun _ => ?_))
      | exact impl_EqualEndpoints.mono _ _ _ _ _ _ _ _ _
      | exact laws_eqEndpoint.mono _ _ _ _ _ _ _ _ _
      | exact laws_szEndpoint.mono _ _ _ _ _ _
      | exact laws_toEndpoint.mono _ _ _ _ _
      | exact spec_EqualEndpoints.mono _ _ _ _ _ _ _ _ _
      | exact LeO.none _
      | refine LeO.ite ?_ ?_
      | refine LeO.bind ?_ (fun _ => ?_)
set_option maxHeartbeats 8000000 in
set_option maxRecDepth 100000 in
theorem laws_FnExactEqualEndpoints.calls (k : Nat) (A0_0 : Option Addr) (c0_0 : Nat) (l0_0 : List Int) (A0_1 : Option Addr) (c0_1 : Nat) (l0_1 : List Int) (A0_2 : Option Addr) (c0_2 : Nat) (l0_2 : List (S64)) (a0_3 : Int) (A1_0 : Option Addr) (c1_0 : Nat) (l1_0 : List Int) (A1_1 : Option Addr) (c1_1 : Nat) (l1_1 : List Int) (A1_2 : Option Addr) (c1_2 : Nat) (l1_2 : List (S64)) (a1_3 : Int) (r : Bool) (w : World) (hr0_0 : Kd.C (Kd.int .i64) w A0_0 l0_0.length l0_0) (hc0_0 : l0_0.length ≤ c0_0) (hr0_1 : Kd.C (Kd.int .i64) w A0_1 l0_1.length l0_1) (hc0_1 : l0_1.length ≤ c0_1) (hr0_2 : Kd.C k64 w A0_2 l0_2.length l0_2) (hc0_2 : l0_2.length ≤ c0_2) (hr1_0 : Kd.C (Kd.int .i64) w A1_0 l1_0.length l1_0) (hc1_0 : l1_0.length ≤ c1_0) (hr1_1 : Kd.C (Kd.int .i64) w A1_1 l1_1.length l1_1) (hc1_1 : l1_1.length ≤ c1_1) (hr1_2 : Kd.C k64 w A1_2 l1_2.length l1_2) (hc1_2 : l1_2.length ≤ c1_2) (h : laws_FnExactEqualEndpoints.f k l0_0 l0_1 l0_2 a0_3 l1_0 l1_1 l1_2 a1_3 = some r) :
    Calls Try.prog 10 #[.agg #[.slice A0_0 l0_0.length c0_0, .slice A0_1 l0_1.length c0_1, .slice A0_2 l0_2.length c0_2, .int .i64 a0_3], .agg #[.slice A1_0 l1_0.length c1_0, .slice A1_1 l1_1.length c1_1, .slice A1_2 l1_2.length c1_2, .int .i64 a1_3]] w fun e w' => e = .returned (.bool r) ∧ Below w.heap.size w w' := by
  have hu53 := Try.underlying53
  have hu58 := Try.underlying58
  have HR0_0 := Aside0.mk hr0_0
  have HC0_0 := Aside0.mk hc0_0
  clear hr0_0 hc0_0
  have HR0_1 := Aside0.mk hr0_1
  have HC0_1 := Aside0.mk hc0_1
  clear hr0_1 hc0_1
  have HR0_2 := Aside0.mk hr0_2
  have HC0_2 := Aside0.mk hc0_2
  clear hr0_2 hc0_2
  have HR1_0 := Aside0.mk hr1_0
  have HC1_0 := Aside0.mk hc1_0
  clear hr1_0 hc1_0
  have HR1_1 := Aside0.mk hr1_1
  have HC1_1 := Aside0.mk hc1_1
  clear hr1_1 hc1_1
  have HR1_2 := Aside0.mk hr1_2
  have HC1_2 := Aside0.mk hc1_2
  clear hr1_2 hc1_2
  have HB := Aside0.mk (Below.refl w.heap.size w)
  have H : ((laws_szEndpoint.f k l0_0 l0_1 l0_2 a0_3 1048576).bind fun t677 => (if t677 < 0 then (some true) else ((laws_szEndpoint.f k l1_0 l1_1 l1_2 a1_3 t677).bind fun t678 => (if t678 < 0 then (some true) else ((laws_toEndpoint.f k l0_0 l0_1 l0_2 a0_3).bind fun bt679 => ((laws_toEndpoint.f k l1_0 l1_1 l1_2 a1_3).bind fun bt689 => ((spec_EqualEndpoints.f k bt679.1 bt679.2.1 bt679.2.2.1 bt679.2.2.2 bt689.1 bt689.2.1 bt689.2.2.1 bt689.2.2.2).bind fun t699 => ((laws_toEndpoint.f k l0_0 l0_1 l0_2 a0_3).bind fun bt700 => ((laws_toEndpoint.f k l1_0 l1_1 l1_2 a1_3).bind fun bt711 => ((impl_EqualEndpoints.f k bt700.1 bt700.2.1 bt700.2.2.1 bt700.2.2.2 bt711.1 bt711.2.1 bt711.2.2.1 bt711.2.2.2).bind fun t722 => (if (t722 != t699) = true then (some false) else ((laws_toEndpoint.f k l0_0 l0_1 l0_2 a0_3).bind fun bt723 => ((laws_eqEndpoint.f k bt700.1 bt700.2.1 bt700.2.2.1 bt700.2.2.2 bt723.1 bt723.2.1 bt723.2.2.1 bt723.2.2.2).bind fun t733 => (if t733 = true then ((laws_toEndpoint.f k l1_0 l1_1 l1_2 a1_3).bind fun bt734 => ((laws_eqEndpoint.f k bt711.1 bt711.2.1 bt711.2.2.1 bt711.2.2.2 bt734.1 bt734.2.1 bt734.2.2.1 bt734.2.2.2).bind fun t744 => (if t744 = true then (some true) else (some false)))) else (some false))))))))))))))) = some r := h
  clear h
  have HS_ := Aside0.mk H
  clear H
  go_enter Try.func10, Try.ntmps10
  go_upto_region 2 with (first | ((with_reducible refine gate_dst (N := 2) rfl ?_); refine box_event ?hg (N := 2) ?hd (cs := #[.slice A0_0 l0_0.length c0_0, .slice A0_1 l0_1.length c0_1, .slice A0_2 l0_2.length c0_2, .int .i64 a0_3]) (t := 53) ?hr ?_; (case hd => rfl); (case hg => rfl); (case hr => first | (go_simp; done) | (go_simp; rfl)); intro gb675 hg w3 hbox hb; have n0_ := Aside0.mk (below_step (pb_ HB.out) hb); have n1_ := Aside0.mk (hbox); have n2_ := Aside0.mk ((by rw [hg]; exact (below_size (pb_ HB.out)) : w.heap.size ≤ gb675)); have n3_ := Aside0.mk ((by rw [hg]; exact (below_size (pb_ HB.out)) : w.heap.size ≤ gb675)); clear HB; have HB := n0_; have BK675 := n1_; have GW675 := n2_; have GE675 := n3_; clear n0_ n1_ n2_ n3_; clear hb hbox hg) | ((with_reducible refine gate_dst (N := 3) rfl ?_); refine box_event ?hg (N := 3) ?hd (cs := #[.slice A1_0 l1_0.length c1_0, .slice A1_1 l1_1.length c1_1, .slice A1_2 l1_2.length c1_2, .int .i64 a1_3]) (t := 53) ?hr ?_; (case hd => rfl); (case hg => rfl); (case hr => first | (go_simp; done) | (go_simp; rfl)); intro gb676 hg w4 hbox hb; have n0_ := Aside0.mk (bb_ BK675.out hb); have n1_ := Aside0.mk (below_step (pb1_ HB.out GE675.out) hb); have n2_ := Aside0.mk (hbox); have n3_ := Aside0.mk ((by rw [hg]; exact (below_size (pb1_ HB.out GE675.out)) : w.heap.size ≤ gb676)); have n4_ := Aside0.mk ((by rw [hg]; exact (below_size (pb1_ HB.out GE675.out)) : w.heap.size ≤ gb676)); have n5_ := Aside0.mk ((by rw [hg]; exact Nat.ne_of_lt (blk_lt (pk_ BK675.out)) : gb675 ≠ gb676)); have n6_ := Aside0.mk ((by rw [hg]; exact Nat.ne_of_gt (blk_lt (pk_ BK675.out)) : gb676 ≠ gb675)); clear BK675; clear HB; have BK675 := n0_; have HB := n1_; have BK676 := n2_; have GW676 := n3_; have GE676 := n4_; have NB675_676 := n5_; have NB676_675 := n6_; clear n0_ n1_ n2_ n3_ n4_ n5_ n6_; clear hb hbox hg))
  (try simp only [Act.put, List.setIfInBounds_toArray, List.set_cons_zero, List.set_cons_succ])
  have H := HS_.out
  clear HS_
  replace H := Option.bind_eq_some_iff.mp H
  obtain ⟨t677, A50, H⟩ := H
  (try dsimp only at H)
  have A5 := Aside0.mk A50
  clear A50
  have HS_ := Aside0.mk H
  clear H
  have hnb6 := NB675_676.out
  have hnc6 := NB676_675.out
  obtain ⟨hcz7_0, hcz7_1, hcz7_2, hcz7_3, hfz7_0, hfz7_1, hfz7_2, hfz7_3⟩ := bc4_ BK675.out
  go_upto_if 14 with (first | ((with_reducible refine gate_callee (f := 43) rfl ?_); refine goesL_ (some 12) rfl rfl Try.func43 (by kernel_rfl) rfl #[.agg #[.slice A0_0 l0_0.length c0_0, .slice A0_1 l0_1.length c0_1, .slice A0_2 l0_2.length c0_2, .int .i64 a0_3], .int .i64 1048576] rfl mp_ ?_; (with_reducible refine (laws_szEndpoint.calls k _ _ l0_0 _ _ l0_1 _ _ l0_2 a0_3 1048576 t677 _ ?side1 ?side2 ?side3 ?side4 ?side5 ?side6 A5.out).mono ?_); (case side1 => exact pc_ (Kd.C_below HR0_0.out HB.out)); (case side2 => exact HC0_0.out); (case side3 => exact pc_ (Kd.C_below HR0_1.out HB.out)); (case side4 => exact HC0_1.out); (case side5 => exact pc_ (Kd.C_below HR0_2.out HB.out)); (case side6 => exact HC0_2.out); rintro e w8 ⟨rfl, hb⟩; refine ⟨_, rfl, ?_⟩; have n0_ := Aside0.mk (bb_ BK675.out hb); have n1_ := Aside0.mk (bb_ BK676.out hb); have n2_ := Aside0.mk (below_step (pb2_ HB.out GE675.out GE676.out) hb); clear BK675; clear BK676; clear HB; have BK675 := n0_; have BK676 := n1_; have HB := n2_; clear n0_ n1_ n2_; (try clear hb); (try clear hb2); (try clear hk); (try clear hi)))
  (try simp only [Act.put, List.setIfInBounds_toArray, List.set_cons_zero, List.set_cons_succ])
  have H := HS_.out
  clear HS_
  by_cases c9 : t677 < 0
  · rw [if_pos c9] at H
    have c9b0 : decide (t677 < 0) = true := decide_eq_true c9
    clear c9
    (first | rw [c9b0] | (simp only [i64_w, i32_w]; rw [c9b0]) | skip)
    obtain rfl := Option.some.inj H
    go_wp2
    go_ret
    exact ⟨er_, pb2_ HB.out GE675.out GE676.out⟩
  rw [if_neg c9] at H
  have c9b0 : decide (t677 < 0) = false := decide_eq_false c9
  clear c9
  (first | rw [c9b0] | (simp only [i64_w, i32_w]; rw [c9b0]) | skip)
  replace H := Option.bind_eq_some_iff.mp H
  obtain ⟨t678, A100, H⟩ := H
  (try dsimp only at H)
  have A10 := Aside0.mk A100
  clear A100
  have HS_ := Aside0.mk H
  clear H
  have hnb11 := NB676_675.out
  have hnc11 := NB675_676.out
  obtain ⟨hcz12_0, hcz12_1, hcz12_2, hcz12_3, hfz12_0, hfz12_1, hfz12_2, hfz12_3⟩ := bc4_ BK676.out
  go_upto_if 19 with (first | ((with_reducible refine gate_callee (f := 43) rfl ?_); refine goesL_ (some 17) rfl rfl Try.func43 (by kernel_rfl) rfl #[.agg #[.slice A1_0 l1_0.length c1_0, .slice A1_1 l1_1.length c1_1, .slice A1_2 l1_2.length c1_2, .int .i64 a1_3], .int .i64 t677] rfl mp_ ?_; (with_reducible refine (laws_szEndpoint.calls k _ _ l1_0 _ _ l1_1 _ _ l1_2 a1_3 t677 t678 _ ?side1 ?side2 ?side3 ?side4 ?side5 ?side6 A10.out).mono ?_); (case side1 => exact pc_ (Kd.C_below HR1_0.out HB.out)); (case side2 => exact HC1_0.out); (case side3 => exact pc_ (Kd.C_below HR1_1.out HB.out)); (case side4 => exact HC1_1.out); (case side5 => exact pc_ (Kd.C_below HR1_2.out HB.out)); (case side6 => exact HC1_2.out); rintro e w13 ⟨rfl, hb⟩; refine ⟨_, rfl, ?_⟩; have n0_ := Aside0.mk (bb_ BK675.out hb); have n1_ := Aside0.mk (bb_ BK676.out hb); have n2_ := Aside0.mk (below_step (pb2_ HB.out GE675.out GE676.out) hb); clear BK675; clear BK676; clear HB; have BK675 := n0_; have BK676 := n1_; have HB := n2_; clear n0_ n1_ n2_; (try clear hb); (try clear hb2); (try clear hk); (try clear hi)))
  (try simp only [Act.put, List.setIfInBounds_toArray, List.set_cons_zero, List.set_cons_succ])
  have H := HS_.out
  clear HS_
  by_cases c14 : t678 < 0
  · rw [if_pos c14] at H
    have c14b0 : decide (t678 < 0) = true := decide_eq_true c14
    clear c14
    (first | rw [c14b0] | (simp only [i64_w, i32_w]; rw [c14b0]) | skip)
    obtain rfl := Option.some.inj H
    go_wp2
    go_ret
    exact ⟨er_, pb2_ HB.out GE675.out GE676.out⟩
  rw [if_neg c14] at H
  have c14b0 : decide (t678 < 0) = false := decide_eq_false c14
  clear c14
  (first | rw [c14b0] | (simp only [i64_w, i32_w]; rw [c14b0]) | skip)
  replace H := Option.bind_eq_some_iff.mp H
  obtain ⟨⟨t679, t682, t685, t688⟩, A150, H⟩ := H
  (try dsimp only at H)
  have A15 := Aside0.mk A150
  clear A150
  replace H := Option.bind_eq_some_iff.mp H
  obtain ⟨⟨t689, t692, t695, t698⟩, A160, H⟩ := H
  (try dsimp only at H)
  have A16 := Aside0.mk A160
  clear A160
  replace H := Option.bind_eq_some_iff.mp H
  obtain ⟨t699, A170, H⟩ := H
  (try dsimp only at H)
  have A17 := Aside0.mk A170
  clear A170
  have HS_ := Aside0.mk H
  clear H
  try go_wp2
  have n0_ := Aside0.mk (blk_drew BK675.out)
  have n1_ := Aside0.mk (blk_drew BK676.out)
  have n2_ := Aside0.mk (below_drew1 HB.out)
  clear BK675
  clear BK676
  clear HB
  have BK675 := n0_
  have BK676 := n1_
  have HB := n2_
  clear n0_ n1_ n2_
  refine start_ (n := 6) (S := fun w' => w'.cell? ⟨gb675, 0, none⟩ = some (.slice A0_0 l0_0.length c0_0) ∧ w'.cell? ⟨gb675, 1, none⟩ = some (.slice A0_1 l0_1.length c0_1) ∧ w'.cell? ⟨gb675, 2, none⟩ = some (.slice A0_2 l0_2.length c0_2) ∧ w'.cell? ⟨gb675, 3, none⟩ = some (.int .i64 a0_3) ∧ w'.cell? ⟨gb676, 0, none⟩ = some (.slice A1_0 l1_0.length c1_0) ∧ w'.cell? ⟨gb676, 1, none⟩ = some (.slice A1_1 l1_1.length c1_1) ∧ w'.cell? ⟨gb676, 2, none⟩ = some (.slice A1_2 l1_2.length c1_2) ∧ w'.cell? ⟨gb676, 3, none⟩ = some (.int .i64 a1_3)) (ds := []) #[false, false, false, false, false, false] (by kernel_rfl) rfl rfl ⟨(blk_cell BK675.out 0).trans rfl, (blk_cell BK675.out 1).trans rfl, (blk_cell BK675.out 2).trans rfl, (blk_cell BK675.out 3).trans rfl, (blk_cell BK676.out 0).trans rfl, (blk_cell BK676.out 1).trans rfl, (blk_cell BK676.out 2).trans rfl, (blk_cell BK676.out 3).trans rfl⟩ (fun hHeld => ?_)
  generalize w13.drew = w18 at BK675 BK676 HB hHeld ⊢
  refine take_ (i := 0) (N := some 20) (v := ?_) (a' := ?_) #[true, false, false, false, false, false] rfl rfl (by kernel_rfl) (fun _ _ _ h => h) (Or.inl ⟨by rfl, ?_⟩) hHeld ?_ ?_
  rotate_left
  · rintro w' ⟨s0, s1, s2, s3, s4, s5, s6, s7⟩
    go_simp
    (try (simp only [Instr.field]; simp only [underlying, hu53, hu58]; go_simp; simp only [asAgg]; go_simp))
    with_reducible rfl
  rotate_left
  · simp only [Act.put, List.setIfInBounds_toArray, List.set_cons_zero, List.set_cons_succ, i64_w, i32_w]
    rfl
  refine take_ (i := 2) (N := some 22) (v := ?_) (a' := ?_) #[true, false, true, false, false, false] rfl rfl (by kernel_rfl) (fun _ _ _ h => h) (Or.inl ⟨by rfl, ?_⟩) hHeld ?_ ?_
  rotate_left
  · rintro w' ⟨s0, s1, s2, s3, s4, s5, s6, s7⟩
    go_simp
    (try (simp only [Instr.field]; simp only [underlying, hu53, hu58]; go_simp; simp only [asAgg]; go_simp))
    with_reducible rfl
  rotate_left
  · simp only [Act.put, List.setIfInBounds_toArray, List.set_cons_zero, List.set_cons_succ, i64_w, i32_w]
    rfl
  refine one_ (i := 1) (N := some 21) #[true, true, true, false, false, false] rfl rfl (by kernel_rfl) (by decide) (fun K hK => ?_)
  refine goes_ Try.func45 (by kernel_rfl) rfl #[.agg #[.slice A0_0 l0_0.length c0_0, .slice A0_1 l0_1.length c0_1, .slice A0_2 l0_2.length c0_2, .int .i64 a0_3]] (by rfl) rfl rfl mp_ ?_
  with_reducible refine (laws_toEndpoint.calls k _ _ l0_0 _ _ l0_1 _ _ l0_2 a0_3 t679 t682 t685 t688 _ ?side1 ?side2 ?side3 ?side4 ?side5 ?side6 A15.out).mono ?_
  (case side1 => exact pc_ (Kd.C_below HR0_0.out HB.out))
  (case side2 => exact HC0_0.out)
  (case side3 => exact pc_ (Kd.C_below HR0_1.out HB.out))
  (case side4 => exact HC0_1.out)
  (case side5 => exact pc_ (Kd.C_below HR0_2.out HB.out))
  (case side6 => exact HC0_2.out)
  rintro e w19 ⟨v680, v683, v686, rfl, ho0, ho1, ho2, hb⟩
  refine ⟨_, rfl, ?_⟩
  have n0_ := Aside0.mk (Kd.R_lower ho0 (below_size (pb2_ HB.out GE675.out GE676.out)))
  have n1_ := Aside0.mk (Kd.R_lower ho1 (below_size (pb2_ HB.out GE675.out GE676.out)))
  have n2_ := Aside0.mk (Kd.S_lower ho2 (below_size (pb2_ HB.out GE675.out GE676.out)))
  have n3_ := Aside0.mk (bb_ BK675.out hb)
  have n4_ := Aside0.mk (bb_ BK676.out hb)
  have n5_ := Aside0.mk (below_step (pb2_ HB.out GE675.out GE676.out) hb)
  clear BK675
  clear BK676
  clear HB
  have HO681 := n0_
  have HO684 := n1_
  have HO687 := n2_
  have BK675 := n3_
  have BK676 := n4_
  have HB := n5_
  clear n0_ n1_ n2_ n3_ n4_ n5_
  (try clear hb)
  (try clear hb2)
  (try clear hk)
  (try clear hi)
  (try clear ho0)
  (try clear ho1)
  (try clear ho2)
  refine hK.out _ _ ⟨(blk_cell BK675.out 0).trans rfl, (blk_cell BK675.out 1).trans rfl, (blk_cell BK675.out 2).trans rfl, (blk_cell BK675.out 3).trans rfl, (blk_cell BK676.out 0).trans rfl, (blk_cell BK676.out 1).trans rfl, (blk_cell BK676.out 2).trans rfl, (blk_cell BK676.out 3).trans rfl⟩ (fun hHeld => ?_)
  clear hK K
  refine norm_ (a' := ?_) ?_ ?_
  rotate_left
  · show Act.put _ (some 21) _ = _
    simp only [Act.put, List.setIfInBounds_toArray, List.set_cons_zero, List.set_cons_succ, i64_w, i32_w]
    rfl
  refine one_ (i := 3) (N := some 23) #[true, true, true, true, false, false] rfl rfl (by kernel_rfl) (by decide) (fun K hK => ?_)
  refine goes_ Try.func45 (by kernel_rfl) rfl #[.agg #[.slice A1_0 l1_0.length c1_0, .slice A1_1 l1_1.length c1_1, .slice A1_2 l1_2.length c1_2, .int .i64 a1_3]] (by rfl) rfl rfl mp_ ?_
  with_reducible refine (laws_toEndpoint.calls k _ _ l1_0 _ _ l1_1 _ _ l1_2 a1_3 t689 t692 t695 t698 _ ?side1 ?side2 ?side3 ?side4 ?side5 ?side6 A16.out).mono ?_
  (case side1 => exact pc_ (Kd.C_below HR1_0.out HB.out))
  (case side2 => exact HC1_0.out)
  (case side3 => exact pc_ (Kd.C_below HR1_1.out HB.out))
  (case side4 => exact HC1_1.out)
  (case side5 => exact pc_ (Kd.C_below HR1_2.out HB.out))
  (case side6 => exact HC1_2.out)
  rintro e w20 ⟨v690, v693, v696, rfl, ho0, ho1, ho2, hb⟩
  refine ⟨_, rfl, ?_⟩
  have n0_ := Aside0.mk (Kd.R_mono (Kd.R_told (Kd.R_told (Kd.R_old (pr_ HO681.out) hb) (Kd.R_base ho0)) (Kd.R_base ho1)) (fun _ h_ => h_.1))
  have n1_ := Aside0.mk (Kd.R_mono (Kd.R_told (Kd.R_told (Kd.R_old (pr_ HO684.out) hb) (Kd.R_base ho0)) (Kd.R_base ho1)) (fun _ h_ => h_.1))
  have n2_ := Aside0.mk (Kd.S_mono (Kd.S_told (Kd.S_told (Kd.S_told (Kd.S_old (ps_ HO687.out) hb) (Kd.R_base ho0)) (Kd.R_base ho1)) (Kd.S_base ho2)) (fun _ h_ => h_.1))
  have n3_ := Aside0.mk (Kd.R_lower (Kd.R_new' (Kd.R_new' ho0 (Kd.R_lt (pr_ HO681.out))) (Kd.R_lt (pr_ HO684.out))) (below_size (pb2_ HB.out GE675.out GE676.out)))
  have n4_ := Aside0.mk (Kd.R_lower (Kd.R_new' (Kd.R_new' ho1 (Kd.R_lt (pr_ HO681.out))) (Kd.R_lt (pr_ HO684.out))) (below_size (pb2_ HB.out GE675.out GE676.out)))
  have n5_ := Aside0.mk (Kd.S_lower (Kd.S_new' (Kd.S_new' (Kd.S_new' ho2 (Kd.R_lt (pr_ HO681.out))) (Kd.R_lt (pr_ HO684.out))) (Kd.S_lt (ps_ HO687.out))) (below_size (pb2_ HB.out GE675.out GE676.out)))
  have n6_ := Aside0.mk (bb_ BK675.out hb)
  have n7_ := Aside0.mk (bb_ BK676.out hb)
  have n8_ := Aside0.mk (below_step (pb2_ HB.out GE675.out GE676.out) hb)
  clear HO681
  clear HO684
  clear HO687
  clear BK675
  clear BK676
  clear HB
  have HO681 := n0_
  have HO684 := n1_
  have HO687 := n2_
  have HO691 := n3_
  have HO694 := n4_
  have HO697 := n5_
  have BK675 := n6_
  have BK676 := n7_
  have HB := n8_
  clear n0_ n1_ n2_ n3_ n4_ n5_ n6_ n7_ n8_
  (try clear hb)
  (try clear hb2)
  (try clear hk)
  (try clear hi)
  (try clear ho0)
  (try clear ho1)
  (try clear ho2)
  obtain ⟨Ao21, co21, eo21⟩ := Kd.R_slice HO681.out
  (first | subst eo21 | (injection eo21 with f1_ f2_ f3_; have f4_ := f1_.symm; have f5_ := f3_.symm; clear f1_ f2_ f3_; subst f4_; subst f5_))
  obtain ⟨Ao22, co22, eo22⟩ := Kd.R_slice HO684.out
  (first | subst eo22 | (injection eo22 with f1_ f2_ f3_; have f4_ := f1_.symm; have f5_ := f3_.symm; clear f1_ f2_ f3_; subst f4_; subst f5_))
  obtain ⟨Ao23, co23, eo23⟩ := Kd.S_slice HO687.out
  (first | subst eo23 | (injection eo23 with f1_ f2_ f3_; have f4_ := f1_.symm; have f5_ := f3_.symm; clear f1_ f2_ f3_; subst f4_; subst f5_))
  obtain ⟨Ao24, co24, eo24⟩ := Kd.R_slice HO691.out
  (first | subst eo24 | (injection eo24 with f1_ f2_ f3_; have f4_ := f1_.symm; have f5_ := f3_.symm; clear f1_ f2_ f3_; subst f4_; subst f5_))
  obtain ⟨Ao25, co25, eo25⟩ := Kd.R_slice HO694.out
  (first | subst eo25 | (injection eo25 with f1_ f2_ f3_; have f4_ := f1_.symm; have f5_ := f3_.symm; clear f1_ f2_ f3_; subst f4_; subst f5_))
  obtain ⟨Ao26, co26, eo26⟩ := Kd.S_slice HO697.out
  (first | subst eo26 | (injection eo26 with f1_ f2_ f3_; have f4_ := f1_.symm; have f5_ := f3_.symm; clear f1_ f2_ f3_; subst f4_; subst f5_))
  refine hK.out _ _ ⟨(blk_cell BK675.out 0).trans rfl, (blk_cell BK675.out 1).trans rfl, (blk_cell BK675.out 2).trans rfl, (blk_cell BK675.out 3).trans rfl, (blk_cell BK676.out 0).trans rfl, (blk_cell BK676.out 1).trans rfl, (blk_cell BK676.out 2).trans rfl, (blk_cell BK676.out 3).trans rfl⟩ (fun hHeld => ?_)
  clear hK K
  refine norm_ (a' := ?_) ?_ ?_
  rotate_left
  · show Act.put _ (some 23) _ = _
    simp only [Act.put, List.setIfInBounds_toArray, List.set_cons_zero, List.set_cons_succ, i64_w, i32_w]
    rfl
  refine one_ (i := 4) (N := some 24) #[true, true, true, true, true, false] rfl rfl (by kernel_rfl) (by decide) (fun K hK => ?_)
  refine goes_ Try.func44 (by kernel_rfl) rfl #[.agg #[.slice Ao21 t679.length co21, .slice Ao22 t682.length co22, .slice Ao23 t685.length co23, .int .i64 t688], .agg #[.slice Ao24 t689.length co24, .slice Ao25 t692.length co25, .slice Ao26 t695.length co26, .int .i64 t698]] (by rfl) rfl rfl mp_ ?_
  with_reducible refine (spec_EqualEndpoints.calls k _ _ t679 _ _ t682 _ _ t685 t688 _ _ t689 _ _ t692 _ _ t695 t698 t699 _ ?side1 ?side2 ?side3 ?side4 ?side5 ?side6 ?side7 ?side8 ?side9 ?side10 ?side11 ?side12 A17.out).mono ?_
  (case side1 => exact pc_ ((Kd.R_reads' HO681.out).2.2))
  (case side2 => exact (Kd.R_reads' HO681.out).2.1)
  (case side3 => exact pc_ ((Kd.R_reads' HO684.out).2.2))
  (case side4 => exact (Kd.R_reads' HO684.out).2.1)
  (case side5 => exact pc_ ((Kd.S_reads' HO687.out).2.2))
  (case side6 => exact (Kd.S_reads' HO687.out).2.1)
  (case side7 => exact pc_ ((Kd.R_reads' HO691.out).2.2))
  (case side8 => exact (Kd.R_reads' HO691.out).2.1)
  (case side9 => exact pc_ ((Kd.R_reads' HO694.out).2.2))
  (case side10 => exact (Kd.R_reads' HO694.out).2.1)
  (case side11 => exact pc_ ((Kd.S_reads' HO697.out).2.2))
  (case side12 => exact (Kd.S_reads' HO697.out).2.1)
  rintro e w27 ⟨rfl, hb⟩
  refine ⟨_, rfl, ?_⟩
  have n0_ := Aside0.mk (Kd.R_below (pr_ HO681.out) hb)
  have n1_ := Aside0.mk (Kd.R_below (pr_ HO684.out) hb)
  have n2_ := Aside0.mk (Kd.S_below (ps_ HO687.out) hb)
  have n3_ := Aside0.mk (Kd.R_below (pr_ HO691.out) hb)
  have n4_ := Aside0.mk (Kd.R_below (pr_ HO694.out) hb)
  have n5_ := Aside0.mk (Kd.S_below (ps_ HO697.out) hb)
  have n6_ := Aside0.mk (bb_ BK675.out hb)
  have n7_ := Aside0.mk (bb_ BK676.out hb)
  have n8_ := Aside0.mk (below_step (pb2_ HB.out GE675.out GE676.out) hb)
  clear HO681
  clear HO684
  clear HO687
  clear HO691
  clear HO694
  clear HO697
  clear BK675
  clear BK676
  clear HB
  have HO681 := n0_
  have HO684 := n1_
  have HO687 := n2_
  have HO691 := n3_
  have HO694 := n4_
  have HO697 := n5_
  have BK675 := n6_
  have BK676 := n7_
  have HB := n8_
  clear n0_ n1_ n2_ n3_ n4_ n5_ n6_ n7_ n8_
  (try clear hb)
  (try clear hb2)
  (try clear hk)
  (try clear hi)
  refine hK.out _ _ ⟨(blk_cell BK675.out 0).trans rfl, (blk_cell BK675.out 1).trans rfl, (blk_cell BK675.out 2).trans rfl, (blk_cell BK675.out 3).trans rfl, (blk_cell BK676.out 0).trans rfl, (blk_cell BK676.out 1).trans rfl, (blk_cell BK676.out 2).trans rfl, (blk_cell BK676.out 3).trans rfl⟩ (fun hHeld => ?_)
  clear hK K
  refine norm_ (a' := ?_) ?_ ?_
  rotate_left
  · show Act.put _ (some 24) _ = _
    simp only [Act.put, List.setIfInBounds_toArray, List.set_cons_zero, List.set_cons_succ, i64_w, i32_w]
    rfl
  refine pure_ (i := 5) (N := some 6) (v := ?_) (a' := ?_) #[true, true, true, true, true, true] rfl rfl (by kernel_rfl) (fun _ _ _ h => h) (Or.inl ⟨by rfl, ?_⟩) ?_ ?_
  rotate_left
  · intro w'
    go_simp
    (try (simp only [Instr.field]; simp only [underlying, hu53, hu58]; go_simp; simp only [asAgg]; go_simp))
    with_reducible rfl
  rotate_left
  · simp only [Act.put, List.setIfInBounds_toArray, List.set_cons_zero, List.set_cons_succ, i64_w, i32_w]
    rfl
  refine done_ (by kernel_rfl) ?_
  go_upto_region 9 with (fail)
  have H := HS_.out
  clear HS_
  replace H := Option.bind_eq_some_iff.mp H
  obtain ⟨⟨t700, t703, t706, t709⟩, A280, H⟩ := H
  (try dsimp only at H)
  have A28 := Aside0.mk A280
  clear A280
  have HS_ := Aside0.mk H
  clear H
  have hnb29 := NB675_676.out
  have hnc29 := NB676_675.out
  obtain ⟨hcz30_0, hcz30_1, hcz30_2, hcz30_3, hfz30_0, hfz30_1, hfz30_2, hfz30_3⟩ := bc4_ BK675.out
  go_upto_region 10 with (first | ((with_reducible refine gate_callee (f := 45) rfl ?_); refine goesL_ (some 26) rfl rfl Try.func45 (by kernel_rfl) rfl #[.agg #[.slice A0_0 l0_0.length c0_0, .slice A0_1 l0_1.length c0_1, .slice A0_2 l0_2.length c0_2, .int .i64 a0_3]] rfl mp_ ?_; (with_reducible refine (laws_toEndpoint.calls k _ _ l0_0 _ _ l0_1 _ _ l0_2 a0_3 t700 t703 t706 t709 _ ?side1 ?side2 ?side3 ?side4 ?side5 ?side6 A28.out).mono ?_); (case side1 => exact pc_ (Kd.C_below HR0_0.out HB.out)); (case side2 => exact HC0_0.out); (case side3 => exact pc_ (Kd.C_below HR0_1.out HB.out)); (case side4 => exact HC0_1.out); (case side5 => exact pc_ (Kd.C_below HR0_2.out HB.out)); (case side6 => exact HC0_2.out); rintro e w31 ⟨v701, v704, v707, rfl, ho0, ho1, ho2, hb⟩; refine ⟨_, rfl, ?_⟩; have n0_ := Aside0.mk (Kd.R_mono (Kd.R_told (Kd.R_told (Kd.R_old (pr_ HO681.out) hb) (Kd.R_base ho0)) (Kd.R_base ho1)) (fun _ h_ => h_.1)); have n1_ := Aside0.mk (Kd.R_mono (Kd.R_told (Kd.R_told (Kd.R_old (pr_ HO684.out) hb) (Kd.R_base ho0)) (Kd.R_base ho1)) (fun _ h_ => h_.1)); have n2_ := Aside0.mk (Kd.S_mono (Kd.S_told (Kd.S_told (Kd.S_told (Kd.S_old (ps_ HO687.out) hb) (Kd.R_base ho0)) (Kd.R_base ho1)) (Kd.S_base ho2)) (fun _ h_ => h_.1)); have n3_ := Aside0.mk (Kd.R_mono (Kd.R_told (Kd.R_told (Kd.R_old (pr_ HO691.out) hb) (Kd.R_base ho0)) (Kd.R_base ho1)) (fun _ h_ => h_.1)); have n4_ := Aside0.mk (Kd.R_mono (Kd.R_told (Kd.R_told (Kd.R_old (pr_ HO694.out) hb) (Kd.R_base ho0)) (Kd.R_base ho1)) (fun _ h_ => h_.1)); have n5_ := Aside0.mk (Kd.S_mono (Kd.S_told (Kd.S_told (Kd.S_told (Kd.S_old (ps_ HO697.out) hb) (Kd.R_base ho0)) (Kd.R_base ho1)) (Kd.S_base ho2)) (fun _ h_ => h_.1)); have n6_ := Aside0.mk (Kd.R_lower (Kd.R_new' (Kd.R_new' (Kd.R_new' (Kd.R_new' ho0 (Kd.R_lt (pr_ HO681.out))) (Kd.R_lt (pr_ HO684.out))) (Kd.R_lt (pr_ HO691.out))) (Kd.R_lt (pr_ HO694.out))) (below_size (pb2_ HB.out GE675.out GE676.out))); have n7_ := Aside0.mk (Kd.R_lower (Kd.R_new' (Kd.R_new' (Kd.R_new' (Kd.R_new' ho1 (Kd.R_lt (pr_ HO681.out))) (Kd.R_lt (pr_ HO684.out))) (Kd.R_lt (pr_ HO691.out))) (Kd.R_lt (pr_ HO694.out))) (below_size (pb2_ HB.out GE675.out GE676.out))); have n8_ := Aside0.mk (Kd.S_lower (Kd.S_new' (Kd.S_new' (Kd.S_new' (Kd.S_new' (Kd.S_new' (Kd.S_new' ho2 (Kd.R_lt (pr_ HO681.out))) (Kd.R_lt (pr_ HO684.out))) (Kd.S_lt (ps_ HO687.out))) (Kd.R_lt (pr_ HO691.out))) (Kd.R_lt (pr_ HO694.out))) (Kd.S_lt (ps_ HO697.out))) (below_size (pb2_ HB.out GE675.out GE676.out))); have n9_ := Aside0.mk (bb_ BK675.out hb); have n10_ := Aside0.mk (bb_ BK676.out hb); have n11_ := Aside0.mk (below_step (pb2_ HB.out GE675.out GE676.out) hb); clear HO681; clear HO684; clear HO687; clear HO691; clear HO694; clear HO697; clear BK675; clear BK676; clear HB; have HO681 := n0_; have HO684 := n1_; have HO687 := n2_; have HO691 := n3_; have HO694 := n4_; have HO697 := n5_; have HO702 := n6_; have HO705 := n7_; have HO708 := n8_; have BK675 := n9_; have BK676 := n10_; have HB := n11_; clear n0_ n1_ n2_ n3_ n4_ n5_ n6_ n7_ n8_ n9_ n10_ n11_; (try clear hb); (try clear hb2); (try clear hk); (try clear hi); (try clear ho0); (try clear ho1); (try clear ho2)) | ((with_reducible refine gate_dst (N := 7) rfl ?_); refine box_event ?hg (N := 7) ?hd (cs := #[.slice none 0 0, .slice none 0 0, .slice none 0 0, .int .i64 0]) (t := 58) ?hr ?_; (case hd => rfl); (case hg => rfl); (case hr => first | (go_simp; done) | (go_simp; rfl)); intro gb710 hg w32 hbox hb; have n0_ := Aside0.mk (Kd.R_below (pr_ HO681.out) hb); have n1_ := Aside0.mk (Kd.R_below (pr_ HO684.out) hb); have n2_ := Aside0.mk (Kd.S_below (ps_ HO687.out) hb); have n3_ := Aside0.mk (Kd.R_below (pr_ HO691.out) hb); have n4_ := Aside0.mk (Kd.R_below (pr_ HO694.out) hb); have n5_ := Aside0.mk (Kd.S_below (ps_ HO697.out) hb); have n6_ := Aside0.mk (Kd.R_below (pr_ HO702.out) hb); have n7_ := Aside0.mk (Kd.R_below (pr_ HO705.out) hb); have n8_ := Aside0.mk (Kd.S_below (ps_ HO708.out) hb); have n9_ := Aside0.mk (bb_ BK675.out hb); have n10_ := Aside0.mk (bb_ BK676.out hb); have n11_ := Aside0.mk (below_step (pb2_ HB.out GE675.out GE676.out) hb); have n12_ := Aside0.mk (hbox); have n13_ := Aside0.mk ((by rw [hg]; exact (below_size (pb2_ HB.out GE675.out GE676.out)) : w.heap.size ≤ gb710)); have n14_ := Aside0.mk ((by rw [hg]; exact (below_size (pb2_ HB.out GE675.out GE676.out)) : w.heap.size ≤ gb710)); have n15_ := Aside0.mk ((by rw [hg]; exact Nat.ne_of_lt (blk_lt (pk_ BK675.out)) : gb675 ≠ gb710)); have n16_ := Aside0.mk ((by rw [hg]; exact Nat.ne_of_gt (blk_lt (pk_ BK675.out)) : gb710 ≠ gb675)); have n17_ := Aside0.mk ((by rw [hg]; exact Nat.ne_of_lt (blk_lt (pk_ BK676.out)) : gb676 ≠ gb710)); have n18_ := Aside0.mk ((by rw [hg]; exact Nat.ne_of_gt (blk_lt (pk_ BK676.out)) : gb710 ≠ gb676)); clear HO681; clear HO684; clear HO687; clear HO691; clear HO694; clear HO697; clear HO702; clear HO705; clear HO708; clear BK675; clear BK676; clear HB; have HO681 := n0_; have HO684 := n1_; have HO687 := n2_; have HO691 := n3_; have HO694 := n4_; have HO697 := n5_; have HO702 := n6_; have HO705 := n7_; have HO708 := n8_; have BK675 := n9_; have BK676 := n10_; have HB := n11_; have BK710 := n12_; have GW710 := n13_; have GE710 := n14_; have NB675_710 := n15_; have NB710_675 := n16_; have NB676_710 := n17_; have NB710_676 := n18_; clear n0_ n1_ n2_ n3_ n4_ n5_ n6_ n7_ n8_ n9_ n10_ n11_ n12_ n13_ n14_ n15_ n16_ n17_ n18_; clear hb hbox hg; obtain ⟨Ao33, co33, eo33⟩ := Kd.R_slice HO702.out; subst eo33; have hnb34 := NB710_675.out; have hnc34 := NB675_710.out; have hnb35 := NB710_676.out; have hnc35 := NB676_710.out; have hcz36_0 : w32.cell? ⟨gb710, 0, none⟩ = some (.slice none 0 0) := (blk_cell BK710.out 0).trans rfl; have hcz36_1 : w32.cell? ⟨gb710, 1, none⟩ = some (.slice none 0 0) := (blk_cell BK710.out 1).trans rfl; have hcz36_2 : w32.cell? ⟨gb710, 2, none⟩ = some (.slice none 0 0) := (blk_cell BK710.out 2).trans rfl; have hcz36_3 : w32.cell? ⟨gb710, 3, none⟩ = some (.int .i64 0) := (blk_cell BK710.out 3).trans rfl; have hfz36_0 := blk_frozen BK710.out 0; have hfz36_1 := blk_frozen BK710.out 1; have hfz36_2 := blk_frozen BK710.out 2; have hfz36_3 := blk_frozen BK710.out 3; obtain ⟨Ao37, co37, eo37⟩ := Kd.R_slice HO705.out; subst eo37; obtain ⟨Ao38, co38, eo38⟩ := Kd.S_slice HO708.out; subst eo38))
  (try simp only [Act.put, List.setIfInBounds_toArray, List.set_cons_zero, List.set_cons_succ])
  have H := HS_.out
  clear HS_
  replace H := Option.bind_eq_some_iff.mp H
  obtain ⟨⟨t711, t714, t717, t720⟩, A390, H⟩ := H
  (try dsimp only at H)
  have A39 := Aside0.mk A390
  clear A390
  have HS_ := Aside0.mk H
  clear H
  have hnb40 := NB676_675.out
  have hnc40 := NB675_676.out
  have hnb41 := NB676_710.out
  have hnc41 := NB710_676.out
  obtain ⟨hcz42_0, hcz42_1, hcz42_2, hcz42_3, hfz42_0, hfz42_1, hfz42_2, hfz42_3⟩ := bc4_ BK676.out
  go_upto_region 11 with (first | ((with_reducible refine gate_callee (f := 45) rfl ?_); refine goesL_ (some 28) rfl rfl Try.func45 (by kernel_rfl) rfl #[.agg #[.slice A1_0 l1_0.length c1_0, .slice A1_1 l1_1.length c1_1, .slice A1_2 l1_2.length c1_2, .int .i64 a1_3]] rfl mp_ ?_; (with_reducible refine (laws_toEndpoint.calls k _ _ l1_0 _ _ l1_1 _ _ l1_2 a1_3 t711 t714 t717 t720 _ ?side1 ?side2 ?side3 ?side4 ?side5 ?side6 A39.out).mono ?_); (case side1 => exact Kd.C_below HR1_0.out (pb3_ HB.out GE675.out GE676.out GE710.out)); (case side2 => exact HC1_0.out); (case side3 => exact Kd.C_below HR1_1.out (pb3_ HB.out GE675.out GE676.out GE710.out)); (case side4 => exact HC1_1.out); (case side5 => exact Kd.C_below HR1_2.out (pb3_ HB.out GE675.out GE676.out GE710.out)); (case side6 => exact HC1_2.out); rintro e w43 ⟨v712, v715, v718, rfl, ho0, ho1, ho2, hb⟩; refine ⟨_, rfl, ?_⟩; have n0_ := Aside0.mk (Kd.R_mono (Kd.R_told (Kd.R_told (Kd.R_old (pr_ (rf4_ HO681.out BK710.out)) hb) (Kd.R_base ho0)) (Kd.R_base ho1)) (fun _ h_ => h_.1)); have n1_ := Aside0.mk (Kd.R_mono (Kd.R_told (Kd.R_told (Kd.R_old (pr_ (rf4_ HO684.out BK710.out)) hb) (Kd.R_base ho0)) (Kd.R_base ho1)) (fun _ h_ => h_.1)); have n2_ := Aside0.mk (Kd.S_mono (Kd.S_told (Kd.S_told (Kd.S_told (Kd.S_old (ps_ (Kd.S_mono (Kd.S_far (p := ⟨gb710, 3, none⟩) (Kd.S_far (p := ⟨gb710, 2, none⟩) (Kd.S_far (p := ⟨gb710, 1, none⟩) (Kd.S_far (p := ⟨gb710, 0, none⟩) (Kd.S_types HO687.out BK710.out (by decide)) (fun _ hk => hk.2) (.slice Ao33 t700.length co33)) (fun _ hk => hk.2) (.slice Ao37 t703.length co37)) (fun _ hk => hk.2) (.slice Ao38 t706.length co38)) (fun _ hk => hk.2) (.int .i64 t709)) (fun _ h_ => h_.1))) hb) (Kd.R_base ho0)) (Kd.R_base ho1)) (Kd.S_base ho2)) (fun _ h_ => h_.1)); have n3_ := Aside0.mk (Kd.R_mono (Kd.R_told (Kd.R_told (Kd.R_old (pr_ (rf4_ HO691.out BK710.out)) hb) (Kd.R_base ho0)) (Kd.R_base ho1)) (fun _ h_ => h_.1)); have n4_ := Aside0.mk (Kd.R_mono (Kd.R_told (Kd.R_told (Kd.R_old (pr_ (rf4_ HO694.out BK710.out)) hb) (Kd.R_base ho0)) (Kd.R_base ho1)) (fun _ h_ => h_.1)); have n5_ := Aside0.mk (Kd.S_mono (Kd.S_told (Kd.S_told (Kd.S_told (Kd.S_old (ps_ (Kd.S_mono (Kd.S_far (p := ⟨gb710, 3, none⟩) (Kd.S_far (p := ⟨gb710, 2, none⟩) (Kd.S_far (p := ⟨gb710, 1, none⟩) (Kd.S_far (p := ⟨gb710, 0, none⟩) (Kd.S_types HO697.out BK710.out (by decide)) (fun _ hk => hk.2) (.slice Ao33 t700.length co33)) (fun _ hk => hk.2) (.slice Ao37 t703.length co37)) (fun _ hk => hk.2) (.slice Ao38 t706.length co38)) (fun _ hk => hk.2) (.int .i64 t709)) (fun _ h_ => h_.1))) hb) (Kd.R_base ho0)) (Kd.R_base ho1)) (Kd.S_base ho2)) (fun _ h_ => h_.1)); have n6_ := Aside0.mk (Kd.R_mono (Kd.R_told (Kd.R_told (Kd.R_old (pr_ (rf4_ HO702.out BK710.out)) hb) (Kd.R_base ho0)) (Kd.R_base ho1)) (fun _ h_ => h_.1)); have n7_ := Aside0.mk (Kd.R_mono (Kd.R_told (Kd.R_told (Kd.R_old (pr_ (rf4_ HO705.out BK710.out)) hb) (Kd.R_base ho0)) (Kd.R_base ho1)) (fun _ h_ => h_.1)); have n8_ := Aside0.mk (Kd.S_mono (Kd.S_told (Kd.S_told (Kd.S_told (Kd.S_old (ps_ (Kd.S_mono (Kd.S_far (p := ⟨gb710, 3, none⟩) (Kd.S_far (p := ⟨gb710, 2, none⟩) (Kd.S_far (p := ⟨gb710, 1, none⟩) (Kd.S_far (p := ⟨gb710, 0, none⟩) (Kd.S_types HO708.out BK710.out (by decide)) (fun _ hk => hk.2) (.slice Ao33 t700.length co33)) (fun _ hk => hk.2) (.slice Ao37 t703.length co37)) (fun _ hk => hk.2) (.slice Ao38 t706.length co38)) (fun _ hk => hk.2) (.int .i64 t709)) (fun _ h_ => h_.1))) hb) (Kd.R_base ho0)) (Kd.R_base ho1)) (Kd.S_base ho2)) (fun _ h_ => h_.1)); have n9_ := Aside0.mk (Kd.R_lower (Kd.R_new' (Kd.R_new' (Kd.R_new' (Kd.R_new' (Kd.R_new' (Kd.R_new' ho0 (Kd.R_lt (pr_ (rf4_ HO681.out BK710.out)))) (Kd.R_lt (pr_ (rf4_ HO684.out BK710.out)))) (Kd.R_lt (pr_ (rf4_ HO691.out BK710.out)))) (Kd.R_lt (pr_ (rf4_ HO694.out BK710.out)))) (Kd.R_lt (pr_ (rf4_ HO702.out BK710.out)))) (Kd.R_lt (pr_ (rf4_ HO705.out BK710.out)))) (below_size (pb3_ HB.out GE675.out GE676.out GE710.out))); have n10_ := Aside0.mk (Kd.R_lower (Kd.R_new' (Kd.R_new' (Kd.R_new' (Kd.R_new' (Kd.R_new' (Kd.R_new' ho1 (Kd.R_lt (pr_ (rf4_ HO681.out BK710.out)))) (Kd.R_lt (pr_ (rf4_ HO684.out BK710.out)))) (Kd.R_lt (pr_ (rf4_ HO691.out BK710.out)))) (Kd.R_lt (pr_ (rf4_ HO694.out BK710.out)))) (Kd.R_lt (pr_ (rf4_ HO702.out BK710.out)))) (Kd.R_lt (pr_ (rf4_ HO705.out BK710.out)))) (below_size (pb3_ HB.out GE675.out GE676.out GE710.out))); have n11_ := Aside0.mk (Kd.S_lower (Kd.S_new' (Kd.S_new' (Kd.S_new' (Kd.S_new' (Kd.S_new' (Kd.S_new' (Kd.S_new' (Kd.S_new' (Kd.S_new' ho2 (Kd.R_lt (pr_ (rf4_ HO681.out BK710.out)))) (Kd.R_lt (pr_ (rf4_ HO684.out BK710.out)))) (Kd.S_lt (ps_ (Kd.S_mono (Kd.S_far (p := ⟨gb710, 3, none⟩) (Kd.S_far (p := ⟨gb710, 2, none⟩) (Kd.S_far (p := ⟨gb710, 1, none⟩) (Kd.S_far (p := ⟨gb710, 0, none⟩) (Kd.S_types HO687.out BK710.out (by decide)) (fun _ hk => hk.2) (.slice Ao33 t700.length co33)) (fun _ hk => hk.2) (.slice Ao37 t703.length co37)) (fun _ hk => hk.2) (.slice Ao38 t706.length co38)) (fun _ hk => hk.2) (.int .i64 t709)) (fun _ h_ => h_.1))))) (Kd.R_lt (pr_ (rf4_ HO691.out BK710.out)))) (Kd.R_lt (pr_ (rf4_ HO694.out BK710.out)))) (Kd.S_lt (ps_ (Kd.S_mono (Kd.S_far (p := ⟨gb710, 3, none⟩) (Kd.S_far (p := ⟨gb710, 2, none⟩) (Kd.S_far (p := ⟨gb710, 1, none⟩) (Kd.S_far (p := ⟨gb710, 0, none⟩) (Kd.S_types HO697.out BK710.out (by decide)) (fun _ hk => hk.2) (.slice Ao33 t700.length co33)) (fun _ hk => hk.2) (.slice Ao37 t703.length co37)) (fun _ hk => hk.2) (.slice Ao38 t706.length co38)) (fun _ hk => hk.2) (.int .i64 t709)) (fun _ h_ => h_.1))))) (Kd.R_lt (pr_ (rf4_ HO702.out BK710.out)))) (Kd.R_lt (pr_ (rf4_ HO705.out BK710.out)))) (Kd.S_lt (ps_ (Kd.S_mono (Kd.S_far (p := ⟨gb710, 3, none⟩) (Kd.S_far (p := ⟨gb710, 2, none⟩) (Kd.S_far (p := ⟨gb710, 1, none⟩) (Kd.S_far (p := ⟨gb710, 0, none⟩) (Kd.S_types HO708.out BK710.out (by decide)) (fun _ hk => hk.2) (.slice Ao33 t700.length co33)) (fun _ hk => hk.2) (.slice Ao37 t703.length co37)) (fun _ hk => hk.2) (.slice Ao38 t706.length co38)) (fun _ hk => hk.2) (.int .i64 t709)) (fun _ h_ => h_.1))))) (below_size (pb3_ HB.out GE675.out GE676.out GE710.out))); have n12_ := Aside0.mk (blk_below (g := gb675) (o := .cells #[.slice A0_0 l0_0.length c0_0, .slice A0_1 l0_1.length c0_1, .slice A0_2 l0_2.length c0_2, .int .i64 a0_3] 53 (0, 0)) (pp_ BK675.out) hb); have n13_ := Aside0.mk (blk_below (g := gb676) (o := .cells #[.slice A1_0 l1_0.length c1_0, .slice A1_1 l1_1.length c1_1, .slice A1_2 l1_2.length c1_2, .int .i64 a1_3] 53 (0, 0)) (pp_ BK676.out) hb); have n14_ := Aside0.mk (blk_below (g := gb710) (o := .cells #[.slice Ao33 t700.length co33, .slice Ao37 t703.length co37, .slice Ao38 t706.length co38, .int .i64 t709] 58 (0, 0)) (pp_ BK710.out) hb); have n15_ := Aside0.mk (below_step (pb3_ HB.out GE675.out GE676.out GE710.out) hb); clear HO681; clear HO684; clear HO687; clear HO691; clear HO694; clear HO697; clear HO702; clear HO705; clear HO708; clear BK675; clear BK676; clear BK710; clear HB; have HO681 := n0_; have HO684 := n1_; have HO687 := n2_; have HO691 := n3_; have HO694 := n4_; have HO697 := n5_; have HO702 := n6_; have HO705 := n7_; have HO708 := n8_; have HO713 := n9_; have HO716 := n10_; have HO719 := n11_; have BK675 := n12_; have BK676 := n13_; have BK710 := n14_; have HB := n15_; clear n0_ n1_ n2_ n3_ n4_ n5_ n6_ n7_ n8_ n9_ n10_ n11_ n12_ n13_ n14_ n15_; (try clear hb); (try clear hb2); (try clear hk); (try clear hi); (try clear ho0); (try clear ho1); (try clear ho2)) | ((with_reducible refine gate_dst (N := 8) rfl ?_); refine box_event ?hg (N := 8) ?hd (cs := #[.slice none 0 0, .slice none 0 0, .slice none 0 0, .int .i64 0]) (t := 58) ?hr ?_; (case hd => rfl); (case hg => rfl); (case hr => first | (go_simp; done) | (go_simp; rfl)); intro gb721 hg w44 hbox hb; have n0_ := Aside0.mk (Kd.R_below (pr_ HO681.out) hb); have n1_ := Aside0.mk (Kd.R_below (pr_ HO684.out) hb); have n2_ := Aside0.mk (Kd.S_below (ps_ HO687.out) hb); have n3_ := Aside0.mk (Kd.R_below (pr_ HO691.out) hb); have n4_ := Aside0.mk (Kd.R_below (pr_ HO694.out) hb); have n5_ := Aside0.mk (Kd.S_below (ps_ HO697.out) hb); have n6_ := Aside0.mk (Kd.R_below (pr_ HO702.out) hb); have n7_ := Aside0.mk (Kd.R_below (pr_ HO705.out) hb); have n8_ := Aside0.mk (Kd.S_below (ps_ HO708.out) hb); have n9_ := Aside0.mk (Kd.R_below (pr_ HO713.out) hb); have n10_ := Aside0.mk (Kd.R_below (pr_ HO716.out) hb); have n11_ := Aside0.mk (Kd.S_below (ps_ HO719.out) hb); have n12_ := Aside0.mk (bb_ BK675.out hb); have n13_ := Aside0.mk (bb_ BK676.out hb); have n14_ := Aside0.mk (bb_ BK710.out hb); have n15_ := Aside0.mk (below_step (pb3_ HB.out GE675.out GE676.out GE710.out) hb); have n16_ := Aside0.mk (hbox); have n17_ := Aside0.mk ((by rw [hg]; exact (below_size (pb3_ HB.out GE675.out GE676.out GE710.out)) : w.heap.size ≤ gb721)); have n18_ := Aside0.mk ((by rw [hg]; exact (below_size (pb3_ HB.out GE675.out GE676.out GE710.out)) : w.heap.size ≤ gb721)); have n19_ := Aside0.mk ((by rw [hg]; exact Nat.ne_of_lt (blk_lt (pk_ BK675.out)) : gb675 ≠ gb721)); have n20_ := Aside0.mk ((by rw [hg]; exact Nat.ne_of_gt (blk_lt (pk_ BK675.out)) : gb721 ≠ gb675)); have n21_ := Aside0.mk ((by rw [hg]; exact Nat.ne_of_lt (blk_lt (pk_ BK676.out)) : gb676 ≠ gb721)); have n22_ := Aside0.mk ((by rw [hg]; exact Nat.ne_of_gt (blk_lt (pk_ BK676.out)) : gb721 ≠ gb676)); have n23_ := Aside0.mk ((by rw [hg]; exact Nat.ne_of_lt (blk_lt (pk_ BK710.out)) : gb710 ≠ gb721)); have n24_ := Aside0.mk ((by rw [hg]; exact Nat.ne_of_gt (blk_lt (pk_ BK710.out)) : gb721 ≠ gb710)); clear HO681; clear HO684; clear HO687; clear HO691; clear HO694; clear HO697; clear HO702; clear HO705; clear HO708; clear HO713; clear HO716; clear HO719; clear BK675; clear BK676; clear BK710; clear HB; have HO681 := n0_; have HO684 := n1_; have HO687 := n2_; have HO691 := n3_; have HO694 := n4_; have HO697 := n5_; have HO702 := n6_; have HO705 := n7_; have HO708 := n8_; have HO713 := n9_; have HO716 := n10_; have HO719 := n11_; have BK675 := n12_; have BK676 := n13_; have BK710 := n14_; have HB := n15_; have BK721 := n16_; have GW721 := n17_; have GE721 := n18_; have NB675_721 := n19_; have NB721_675 := n20_; have NB676_721 := n21_; have NB721_676 := n22_; have NB710_721 := n23_; have NB721_710 := n24_; clear n0_ n1_ n2_ n3_ n4_ n5_ n6_ n7_ n8_ n9_ n10_ n11_ n12_ n13_ n14_ n15_ n16_ n17_ n18_ n19_ n20_ n21_ n22_ n23_ n24_; clear hb hbox hg; obtain ⟨Ao45, co45, eo45⟩ := Kd.R_slice HO713.out; subst eo45; have hnb46 := NB721_675.out; have hnc46 := NB675_721.out; have hnb47 := NB721_676.out; have hnc47 := NB676_721.out; have hnb48 := NB721_710.out; have hnc48 := NB710_721.out; have hcz49_0 : w44.cell? ⟨gb721, 0, none⟩ = some (.slice none 0 0) := (blk_cell BK721.out 0).trans rfl; have hcz49_1 : w44.cell? ⟨gb721, 1, none⟩ = some (.slice none 0 0) := (blk_cell BK721.out 1).trans rfl; have hcz49_2 : w44.cell? ⟨gb721, 2, none⟩ = some (.slice none 0 0) := (blk_cell BK721.out 2).trans rfl; have hcz49_3 : w44.cell? ⟨gb721, 3, none⟩ = some (.int .i64 0) := (blk_cell BK721.out 3).trans rfl; have hfz49_0 := blk_frozen BK721.out 0; have hfz49_1 := blk_frozen BK721.out 1; have hfz49_2 := blk_frozen BK721.out 2; have hfz49_3 := blk_frozen BK721.out 3; obtain ⟨Ao50, co50, eo50⟩ := Kd.R_slice HO716.out; subst eo50; obtain ⟨Ao51, co51, eo51⟩ := Kd.S_slice HO719.out; subst eo51))
  (try simp only [Act.put, List.setIfInBounds_toArray, List.set_cons_zero, List.set_cons_succ])
  have H := HS_.out
  clear HS_
  replace H := Option.bind_eq_some_iff.mp H
  obtain ⟨t722, A520, H⟩ := H
  (try dsimp only at H)
  have A52 := Aside0.mk A520
  clear A520
  have HS_ := Aside0.mk H
  clear H
  have hnb53 := NB710_675.out
  have hnc53 := NB675_710.out
  have hnb54 := NB710_676.out
  have hnc54 := NB676_710.out
  have hnb55 := NB710_721.out
  have hnc55 := NB721_710.out
  obtain ⟨hcz56_0, hcz56_1, hcz56_2, hcz56_3, hfz56_0, hfz56_1, hfz56_2, hfz56_3⟩ := bc4_ BK710.out
  have hnb57 := NB721_675.out
  have hnc57 := NB675_721.out
  have hnb58 := NB721_676.out
  have hnc58 := NB676_721.out
  obtain ⟨hcz59_0, hcz59_1, hcz59_2, hcz59_3, hfz59_0, hfz59_1, hfz59_2, hfz59_3⟩ := bc4_ BK721.out
  go_upto_if 34 with (first | ((with_reducible refine gate_callee (f := 46) rfl ?_); refine goesL_ (some 31) rfl rfl Try.func46 (by kernel_rfl) rfl #[.agg #[.slice Ao33 t700.length co33, .slice Ao37 t703.length co37, .slice Ao38 t706.length co38, .int .i64 t709], .agg #[.slice Ao45 t711.length co45, .slice Ao50 t714.length co50, .slice Ao51 t717.length co51, .int .i64 t720]] rfl mp_ ?_; (with_reducible refine (impl_EqualEndpoints.calls k _ _ t700 _ _ t703 _ _ t706 t709 _ _ t711 _ _ t714 _ _ t717 t720 t722 _ ?side1 ?side2 ?side3 ?side4 ?side5 ?side6 ?side7 ?side8 ?side9 ?side10 ?side11 ?side12 A52.out).mono ?_); (case side1 => refine (Kd.R_reads' (e := 3) (base := w.heap.size) (ok := fun k_ => ((((((some k_ ≠ (.slice Ao37 t703.length co37 : Value).ownBlock ∧ some k_ ≠ (.slice Ao21 t679.length co21 : Value).ownBlock) ∧ some k_ ≠ (.slice Ao22 t682.length co22 : Value).ownBlock) ∧ some k_ ≠ (.slice Ao24 t689.length co24 : Value).ownBlock) ∧ some k_ ≠ (.slice Ao25 t692.length co25 : Value).ownBlock) ∧ some k_ ≠ (.slice Ao45 t711.length co45 : Value).ownBlock) ∧ some k_ ≠ (.slice Ao50 t714.length co50 : Value).ownBlock)) (n := t700.length) (c := co33) ?_).2.2; exact (pr_ (rf4_ HO702.out BK721.out))); (case side2 => exact (Kd.R_reads' HO702.out).2.1); (case side3 => refine (Kd.R_reads' (e := 3) (base := w.heap.size) (ok := fun k_ => ((((((some k_ ≠ (.slice Ao33 t700.length co33 : Value).ownBlock ∧ some k_ ≠ (.slice Ao21 t679.length co21 : Value).ownBlock) ∧ some k_ ≠ (.slice Ao22 t682.length co22 : Value).ownBlock) ∧ some k_ ≠ (.slice Ao24 t689.length co24 : Value).ownBlock) ∧ some k_ ≠ (.slice Ao25 t692.length co25 : Value).ownBlock) ∧ some k_ ≠ (.slice Ao45 t711.length co45 : Value).ownBlock) ∧ some k_ ≠ (.slice Ao50 t714.length co50 : Value).ownBlock)) (n := t703.length) (c := co37) ?_).2.2; exact (pr_ (rf4_ HO705.out BK721.out))); (case side4 => exact (Kd.R_reads' HO705.out).2.1); (case side5 => refine (Kd.S_reads' (e := 67) (base := w.heap.size) (ok := fun k_ => ((((((((((some k_ ≠ (.slice Ao33 t700.length co33 : Value).ownBlock ∧ some k_ ≠ (.slice Ao37 t703.length co37 : Value).ownBlock) ∧ some k_ ≠ (.slice Ao21 t679.length co21 : Value).ownBlock) ∧ some k_ ≠ (.slice Ao22 t682.length co22 : Value).ownBlock) ∧ some k_ ≠ (.slice Ao23 t685.length co23 : Value).ownBlock) ∧ some k_ ≠ (.slice Ao24 t689.length co24 : Value).ownBlock) ∧ some k_ ≠ (.slice Ao25 t692.length co25 : Value).ownBlock) ∧ some k_ ≠ (.slice Ao26 t695.length co26 : Value).ownBlock) ∧ some k_ ≠ (.slice Ao45 t711.length co45 : Value).ownBlock) ∧ some k_ ≠ (.slice Ao50 t714.length co50 : Value).ownBlock) ∧ some k_ ≠ (.slice Ao51 t717.length co51 : Value).ownBlock)) (n := t706.length) (c := co38) ?_).2.2; exact (ps_ (Kd.S_mono (Kd.S_far (p := ⟨gb721, 3, none⟩) (Kd.S_far (p := ⟨gb721, 2, none⟩) (Kd.S_far (p := ⟨gb721, 1, none⟩) (Kd.S_far (p := ⟨gb721, 0, none⟩) (Kd.S_types HO708.out BK721.out (by decide)) (fun _ hk => hk.2) (.slice Ao45 t711.length co45)) (fun _ hk => hk.2) (.slice Ao50 t714.length co50)) (fun _ hk => hk.2) (.slice Ao51 t717.length co51)) (fun _ hk => hk.2) (.int .i64 t720)) (fun _ h_ => h_.1)))); (case side6 => exact (Kd.S_reads' HO708.out).2.1); (case side7 => refine (Kd.R_reads' (e := 3) (base := w.heap.size) (ok := fun k_ => ((((((some k_ ≠ (.slice Ao50 t714.length co50 : Value).ownBlock ∧ some k_ ≠ (.slice Ao21 t679.length co21 : Value).ownBlock) ∧ some k_ ≠ (.slice Ao22 t682.length co22 : Value).ownBlock) ∧ some k_ ≠ (.slice Ao24 t689.length co24 : Value).ownBlock) ∧ some k_ ≠ (.slice Ao25 t692.length co25 : Value).ownBlock) ∧ some k_ ≠ (.slice Ao33 t700.length co33 : Value).ownBlock) ∧ some k_ ≠ (.slice Ao37 t703.length co37 : Value).ownBlock)) (n := t711.length) (c := co45) ?_).2.2; exact (pr_ (rf4_ HO713.out BK721.out))); (case side8 => exact (Kd.R_reads' HO713.out).2.1); (case side9 => refine (Kd.R_reads' (e := 3) (base := w.heap.size) (ok := fun k_ => ((((((some k_ ≠ (.slice Ao45 t711.length co45 : Value).ownBlock ∧ some k_ ≠ (.slice Ao21 t679.length co21 : Value).ownBlock) ∧ some k_ ≠ (.slice Ao22 t682.length co22 : Value).ownBlock) ∧ some k_ ≠ (.slice Ao24 t689.length co24 : Value).ownBlock) ∧ some k_ ≠ (.slice Ao25 t692.length co25 : Value).ownBlock) ∧ some k_ ≠ (.slice Ao33 t700.length co33 : Value).ownBlock) ∧ some k_ ≠ (.slice Ao37 t703.length co37 : Value).ownBlock)) (n := t714.length) (c := co50) ?_).2.2; exact (pr_ (rf4_ HO716.out BK721.out))); (case side10 => exact (Kd.R_reads' HO716.out).2.1); (case side11 => refine (Kd.S_reads' (e := 67) (base := w.heap.size) (ok := fun k_ => ((((((((((some k_ ≠ (.slice Ao45 t711.length co45 : Value).ownBlock ∧ some k_ ≠ (.slice Ao50 t714.length co50 : Value).ownBlock) ∧ some k_ ≠ (.slice Ao21 t679.length co21 : Value).ownBlock) ∧ some k_ ≠ (.slice Ao22 t682.length co22 : Value).ownBlock) ∧ some k_ ≠ (.slice Ao23 t685.length co23 : Value).ownBlock) ∧ some k_ ≠ (.slice Ao24 t689.length co24 : Value).ownBlock) ∧ some k_ ≠ (.slice Ao25 t692.length co25 : Value).ownBlock) ∧ some k_ ≠ (.slice Ao26 t695.length co26 : Value).ownBlock) ∧ some k_ ≠ (.slice Ao33 t700.length co33 : Value).ownBlock) ∧ some k_ ≠ (.slice Ao37 t703.length co37 : Value).ownBlock) ∧ some k_ ≠ (.slice Ao38 t706.length co38 : Value).ownBlock)) (n := t717.length) (c := co51) ?_).2.2; exact (ps_ (Kd.S_mono (Kd.S_far (p := ⟨gb721, 3, none⟩) (Kd.S_far (p := ⟨gb721, 2, none⟩) (Kd.S_far (p := ⟨gb721, 1, none⟩) (Kd.S_far (p := ⟨gb721, 0, none⟩) (Kd.S_types HO719.out BK721.out (by decide)) (fun _ hk => hk.2) (.slice Ao45 t711.length co45)) (fun _ hk => hk.2) (.slice Ao50 t714.length co50)) (fun _ hk => hk.2) (.slice Ao51 t717.length co51)) (fun _ hk => hk.2) (.int .i64 t720)) (fun _ h_ => h_.1)))); (case side12 => exact (Kd.S_reads' HO719.out).2.1); rintro e w60 ⟨rfl, hb⟩; refine ⟨_, rfl, ?_⟩; have n0_ := Aside0.mk (Kd.R_below (pr_ (rf4_ HO681.out BK721.out)) hb); have n1_ := Aside0.mk (Kd.R_below (pr_ (rf4_ HO684.out BK721.out)) hb); have n2_ := Aside0.mk (Kd.S_below (ps_ (Kd.S_mono (Kd.S_far (p := ⟨gb721, 3, none⟩) (Kd.S_far (p := ⟨gb721, 2, none⟩) (Kd.S_far (p := ⟨gb721, 1, none⟩) (Kd.S_far (p := ⟨gb721, 0, none⟩) (Kd.S_types HO687.out BK721.out (by decide)) (fun _ hk => hk.2) (.slice Ao45 t711.length co45)) (fun _ hk => hk.2) (.slice Ao50 t714.length co50)) (fun _ hk => hk.2) (.slice Ao51 t717.length co51)) (fun _ hk => hk.2) (.int .i64 t720)) (fun _ h_ => h_.1))) hb); have n3_ := Aside0.mk (Kd.R_below (pr_ (rf4_ HO691.out BK721.out)) hb); have n4_ := Aside0.mk (Kd.R_below (pr_ (rf4_ HO694.out BK721.out)) hb); have n5_ := Aside0.mk (Kd.S_below (ps_ (Kd.S_mono (Kd.S_far (p := ⟨gb721, 3, none⟩) (Kd.S_far (p := ⟨gb721, 2, none⟩) (Kd.S_far (p := ⟨gb721, 1, none⟩) (Kd.S_far (p := ⟨gb721, 0, none⟩) (Kd.S_types HO697.out BK721.out (by decide)) (fun _ hk => hk.2) (.slice Ao45 t711.length co45)) (fun _ hk => hk.2) (.slice Ao50 t714.length co50)) (fun _ hk => hk.2) (.slice Ao51 t717.length co51)) (fun _ hk => hk.2) (.int .i64 t720)) (fun _ h_ => h_.1))) hb); have n6_ := Aside0.mk (Kd.R_below (pr_ (rf4_ HO702.out BK721.out)) hb); have n7_ := Aside0.mk (Kd.R_below (pr_ (rf4_ HO705.out BK721.out)) hb); have n8_ := Aside0.mk (Kd.S_below (ps_ (Kd.S_mono (Kd.S_far (p := ⟨gb721, 3, none⟩) (Kd.S_far (p := ⟨gb721, 2, none⟩) (Kd.S_far (p := ⟨gb721, 1, none⟩) (Kd.S_far (p := ⟨gb721, 0, none⟩) (Kd.S_types HO708.out BK721.out (by decide)) (fun _ hk => hk.2) (.slice Ao45 t711.length co45)) (fun _ hk => hk.2) (.slice Ao50 t714.length co50)) (fun _ hk => hk.2) (.slice Ao51 t717.length co51)) (fun _ hk => hk.2) (.int .i64 t720)) (fun _ h_ => h_.1))) hb); have n9_ := Aside0.mk (Kd.R_below (pr_ (rf4_ HO713.out BK721.out)) hb); have n10_ := Aside0.mk (Kd.R_below (pr_ (rf4_ HO716.out BK721.out)) hb); have n11_ := Aside0.mk (Kd.S_below (ps_ (Kd.S_mono (Kd.S_far (p := ⟨gb721, 3, none⟩) (Kd.S_far (p := ⟨gb721, 2, none⟩) (Kd.S_far (p := ⟨gb721, 1, none⟩) (Kd.S_far (p := ⟨gb721, 0, none⟩) (Kd.S_types HO719.out BK721.out (by decide)) (fun _ hk => hk.2) (.slice Ao45 t711.length co45)) (fun _ hk => hk.2) (.slice Ao50 t714.length co50)) (fun _ hk => hk.2) (.slice Ao51 t717.length co51)) (fun _ hk => hk.2) (.int .i64 t720)) (fun _ h_ => h_.1))) hb); have n12_ := Aside0.mk (blk_below (g := gb675) (o := .cells #[.slice A0_0 l0_0.length c0_0, .slice A0_1 l0_1.length c0_1, .slice A0_2 l0_2.length c0_2, .int .i64 a0_3] 53 (0, 0)) (pp_ BK675.out) hb); have n13_ := Aside0.mk (blk_below (g := gb676) (o := .cells #[.slice A1_0 l1_0.length c1_0, .slice A1_1 l1_1.length c1_1, .slice A1_2 l1_2.length c1_2, .int .i64 a1_3] 53 (0, 0)) (pp_ BK676.out) hb); have n14_ := Aside0.mk (blk_below (g := gb710) (o := .cells #[.slice Ao33 t700.length co33, .slice Ao37 t703.length co37, .slice Ao38 t706.length co38, .int .i64 t709] 58 (0, 0)) (pp_ BK710.out) hb); have n15_ := Aside0.mk (blk_below (g := gb721) (o := .cells #[.slice Ao45 t711.length co45, .slice Ao50 t714.length co50, .slice Ao51 t717.length co51, .int .i64 t720] 58 (0, 0)) (pp_ BK721.out) hb); have n16_ := Aside0.mk (below_step (pb4_ HB.out GE675.out GE676.out GE710.out GE721.out) hb); clear HO681; clear HO684; clear HO687; clear HO691; clear HO694; clear HO697; clear HO702; clear HO705; clear HO708; clear HO713; clear HO716; clear HO719; clear BK675; clear BK676; clear BK710; clear BK721; clear HB; have HO681 := n0_; have HO684 := n1_; have HO687 := n2_; have HO691 := n3_; have HO694 := n4_; have HO697 := n5_; have HO702 := n6_; have HO705 := n7_; have HO708 := n8_; have HO713 := n9_; have HO716 := n10_; have HO719 := n11_; have BK675 := n12_; have BK676 := n13_; have BK710 := n14_; have BK721 := n15_; have HB := n16_; clear n0_ n1_ n2_ n3_ n4_ n5_ n6_ n7_ n8_ n9_ n10_ n11_ n12_ n13_ n14_ n15_ n16_; (try clear hb); (try clear hb2); (try clear hk); (try clear hi)))
  (try simp only [Act.put, List.setIfInBounds_toArray, List.set_cons_zero, List.set_cons_succ])
  have H := HS_.out
  clear HS_
  by_cases c61 : (t722 != t699) = true
  · rw [if_pos c61] at H
    have c61b0 : (t722 != t699) = true := c61
    (try (have c61b1 : decide (t722 = t699) = false := by simpa using c61))
    (try (have c61b2 : (t722 == t699) = false := by simpa using c61))
    (try (have c61b3 : ¬ (t722 = t699) := by simpa using c61))
    clear c61
    (first | rw [c61b0] | (simp only [i64_w, i32_w]; rw [c61b0]) | (have c_ := c61b0; rw [bne] at c_; rw [c_]; clear c_) | rw [c61b1] | rw [c61b2] | skip)
    obtain rfl := Option.some.inj H
    go_wp2
    go_ret
    exact ⟨er_, pb4_ HB.out GE675.out GE676.out GE710.out GE721.out⟩
  rw [if_neg c61] at H
  have c61b0 : (t722 != t699) = false := by simpa using c61
  (try (have c61b1 : decide (t722 = t699) = true := by simpa using c61))
  (try (have c61b2 : (t722 == t699) = true := by simpa using c61))
  clear c61
  (first | rw [c61b0] | (simp only [i64_w, i32_w]; rw [c61b0]) | (have c_ := c61b0; rw [bne] at c_; rw [c_]; clear c_) | rw [c61b1] | rw [c61b2] | skip)
  replace H := Option.bind_eq_some_iff.mp H
  obtain ⟨⟨t723, t726, t729, t732⟩, A620, H⟩ := H
  (try dsimp only at H)
  have A62 := Aside0.mk A620
  clear A620
  replace H := Option.bind_eq_some_iff.mp H
  obtain ⟨t733, A630, H⟩ := H
  (try dsimp only at H)
  have A63 := Aside0.mk A630
  clear A630
  have HS_ := Aside0.mk H
  clear H
  try go_wp2
  have n0_ := Aside0.mk (Kd.R_drew HO681.out)
  have n1_ := Aside0.mk (Kd.R_drew HO684.out)
  have n2_ := Aside0.mk (Kd.S_drew HO687.out)
  have n3_ := Aside0.mk (Kd.R_drew HO691.out)
  have n4_ := Aside0.mk (Kd.R_drew HO694.out)
  have n5_ := Aside0.mk (Kd.S_drew HO697.out)
  have n6_ := Aside0.mk (Kd.R_drew HO702.out)
  have n7_ := Aside0.mk (Kd.R_drew HO705.out)
  have n8_ := Aside0.mk (Kd.S_drew HO708.out)
  have n9_ := Aside0.mk (Kd.R_drew HO713.out)
  have n10_ := Aside0.mk (Kd.R_drew HO716.out)
  have n11_ := Aside0.mk (Kd.S_drew HO719.out)
  have n12_ := Aside0.mk (blk_drew BK675.out)
  have n13_ := Aside0.mk (blk_drew BK676.out)
  have n14_ := Aside0.mk (blk_drew BK710.out)
  have n15_ := Aside0.mk (blk_drew BK721.out)
  have n16_ := Aside0.mk (below_drew1 HB.out)
  clear HO681
  clear HO684
  clear HO687
  clear HO691
  clear HO694
  clear HO697
  clear HO702
  clear HO705
  clear HO708
  clear HO713
  clear HO716
  clear HO719
  clear BK675
  clear BK676
  clear BK710
  clear BK721
  clear HB
  have HO681 := n0_
  have HO684 := n1_
  have HO687 := n2_
  have HO691 := n3_
  have HO694 := n4_
  have HO697 := n5_
  have HO702 := n6_
  have HO705 := n7_
  have HO708 := n8_
  have HO713 := n9_
  have HO716 := n10_
  have HO719 := n11_
  have BK675 := n12_
  have BK676 := n13_
  have BK710 := n14_
  have BK721 := n15_
  have HB := n16_
  clear n0_ n1_ n2_ n3_ n4_ n5_ n6_ n7_ n8_ n9_ n10_ n11_ n12_ n13_ n14_ n15_ n16_
  refine start_ (n := 5) (S := fun w' => w'.cell? ⟨gb710, 0, none⟩ = some (.slice Ao33 t700.length co33) ∧ w'.cell? ⟨gb710, 1, none⟩ = some (.slice Ao37 t703.length co37) ∧ w'.cell? ⟨gb710, 2, none⟩ = some (.slice Ao38 t706.length co38) ∧ w'.cell? ⟨gb710, 3, none⟩ = some (.int .i64 t709) ∧ w'.cell? ⟨gb675, 0, none⟩ = some (.slice A0_0 l0_0.length c0_0) ∧ w'.cell? ⟨gb675, 1, none⟩ = some (.slice A0_1 l0_1.length c0_1) ∧ w'.cell? ⟨gb675, 2, none⟩ = some (.slice A0_2 l0_2.length c0_2) ∧ w'.cell? ⟨gb675, 3, none⟩ = some (.int .i64 a0_3)) (ds := []) #[false, false, false, false, false] (by kernel_rfl) rfl rfl ⟨(blk_cell BK710.out 0).trans rfl, (blk_cell BK710.out 1).trans rfl, (blk_cell BK710.out 2).trans rfl, (blk_cell BK710.out 3).trans rfl, (blk_cell BK675.out 0).trans rfl, (blk_cell BK675.out 1).trans rfl, (blk_cell BK675.out 2).trans rfl, (blk_cell BK675.out 3).trans rfl⟩ (fun hHeld => ?_)
  generalize w60.drew = w64 at HO681 HO684 HO687 HO691 HO694 HO697 HO702 HO705 HO708 HO713 HO716 HO719 BK675 BK676 BK710 BK721 HB hHeld ⊢
  refine take_ (i := 0) (N := some 35) (v := ?_) (a' := ?_) #[true, false, false, false, false] rfl rfl (by kernel_rfl) (fun _ _ _ h => h) (Or.inl ⟨by rfl, ?_⟩) hHeld ?_ ?_
  rotate_left
  · rintro w' ⟨s0, s1, s2, s3, s4, s5, s6, s7⟩
    go_simp
    (try (simp only [Instr.field]; simp only [underlying, hu53, hu58]; go_simp; simp only [asAgg]; go_simp))
    with_reducible rfl
  rotate_left
  · simp only [Act.put, List.setIfInBounds_toArray, List.set_cons_zero, List.set_cons_succ, i64_w, i32_w]
    rfl
  refine take_ (i := 1) (N := some 36) (v := ?_) (a' := ?_) #[true, true, false, false, false] rfl rfl (by kernel_rfl) (fun _ _ _ h => h) (Or.inl ⟨by rfl, ?_⟩) hHeld ?_ ?_
  rotate_left
  · rintro w' ⟨s0, s1, s2, s3, s4, s5, s6, s7⟩
    go_simp
    (try (simp only [Instr.field]; simp only [underlying, hu53, hu58]; go_simp; simp only [asAgg]; go_simp))
    with_reducible rfl
  rotate_left
  · simp only [Act.put, List.setIfInBounds_toArray, List.set_cons_zero, List.set_cons_succ, i64_w, i32_w]
    rfl
  refine one_ (i := 2) (N := some 37) #[true, true, true, false, false] rfl rfl (by kernel_rfl) (by decide) (fun K hK => ?_)
  refine goes_ Try.func45 (by kernel_rfl) rfl #[.agg #[.slice A0_0 l0_0.length c0_0, .slice A0_1 l0_1.length c0_1, .slice A0_2 l0_2.length c0_2, .int .i64 a0_3]] (by rfl) rfl rfl mp_ ?_
  with_reducible refine (laws_toEndpoint.calls k _ _ l0_0 _ _ l0_1 _ _ l0_2 a0_3 t723 t726 t729 t732 _ ?side1 ?side2 ?side3 ?side4 ?side5 ?side6 A62.out).mono ?_
  (case side1 => exact pc_ (Kd.C_below HR0_0.out HB.out))
  (case side2 => exact HC0_0.out)
  (case side3 => exact pc_ (Kd.C_below HR0_1.out HB.out))
  (case side4 => exact HC0_1.out)
  (case side5 => exact pc_ (Kd.C_below HR0_2.out HB.out))
  (case side6 => exact HC0_2.out)
  rintro e w65 ⟨v724, v727, v730, rfl, ho0, ho1, ho2, hb⟩
  refine ⟨_, rfl, ?_⟩
  have n0_ := Aside0.mk (Kd.R_mono (Kd.R_told (Kd.R_told (Kd.R_old (pr_ HO681.out) hb) (Kd.R_base ho0)) (Kd.R_base ho1)) (fun _ h_ => h_.1))
  have n1_ := Aside0.mk (Kd.R_mono (Kd.R_told (Kd.R_told (Kd.R_old (pr_ HO684.out) hb) (Kd.R_base ho0)) (Kd.R_base ho1)) (fun _ h_ => h_.1))
  have n2_ := Aside0.mk (Kd.S_mono (Kd.S_told (Kd.S_told (Kd.S_told (Kd.S_old (ps_ HO687.out) hb) (Kd.R_base ho0)) (Kd.R_base ho1)) (Kd.S_base ho2)) (fun _ h_ => h_.1))
  have n3_ := Aside0.mk (Kd.R_mono (Kd.R_told (Kd.R_told (Kd.R_old (pr_ HO691.out) hb) (Kd.R_base ho0)) (Kd.R_base ho1)) (fun _ h_ => h_.1))
  have n4_ := Aside0.mk (Kd.R_mono (Kd.R_told (Kd.R_told (Kd.R_old (pr_ HO694.out) hb) (Kd.R_base ho0)) (Kd.R_base ho1)) (fun _ h_ => h_.1))
  have n5_ := Aside0.mk (Kd.S_mono (Kd.S_told (Kd.S_told (Kd.S_told (Kd.S_old (ps_ HO697.out) hb) (Kd.R_base ho0)) (Kd.R_base ho1)) (Kd.S_base ho2)) (fun _ h_ => h_.1))
  have n6_ := Aside0.mk (Kd.R_mono (Kd.R_told (Kd.R_told (Kd.R_old (pr_ HO702.out) hb) (Kd.R_base ho0)) (Kd.R_base ho1)) (fun _ h_ => h_.1))
  have n7_ := Aside0.mk (Kd.R_mono (Kd.R_told (Kd.R_told (Kd.R_old (pr_ HO705.out) hb) (Kd.R_base ho0)) (Kd.R_base ho1)) (fun _ h_ => h_.1))
  have n8_ := Aside0.mk (Kd.S_mono (Kd.S_told (Kd.S_told (Kd.S_told (Kd.S_old (ps_ HO708.out) hb) (Kd.R_base ho0)) (Kd.R_base ho1)) (Kd.S_base ho2)) (fun _ h_ => h_.1))
  have n9_ := Aside0.mk (Kd.R_mono (Kd.R_told (Kd.R_told (Kd.R_old (pr_ HO713.out) hb) (Kd.R_base ho0)) (Kd.R_base ho1)) (fun _ h_ => h_.1))
  have n10_ := Aside0.mk (Kd.R_mono (Kd.R_told (Kd.R_told (Kd.R_old (pr_ HO716.out) hb) (Kd.R_base ho0)) (Kd.R_base ho1)) (fun _ h_ => h_.1))
  have n11_ := Aside0.mk (Kd.S_mono (Kd.S_told (Kd.S_told (Kd.S_told (Kd.S_old (ps_ HO719.out) hb) (Kd.R_base ho0)) (Kd.R_base ho1)) (Kd.S_base ho2)) (fun _ h_ => h_.1))
  have n12_ := Aside0.mk (Kd.R_lower (Kd.R_new' (Kd.R_new' (Kd.R_new' (Kd.R_new' (Kd.R_new' (Kd.R_new' (Kd.R_new' (Kd.R_new' ho0 (Kd.R_lt (pr_ HO681.out))) (Kd.R_lt (pr_ HO684.out))) (Kd.R_lt (pr_ HO691.out))) (Kd.R_lt (pr_ HO694.out))) (Kd.R_lt (pr_ HO702.out))) (Kd.R_lt (pr_ HO705.out))) (Kd.R_lt (pr_ HO713.out))) (Kd.R_lt (pr_ HO716.out))) (below_size (pb4_ HB.out GE675.out GE676.out GE710.out GE721.out)))
  have n13_ := Aside0.mk (Kd.R_lower (Kd.R_new' (Kd.R_new' (Kd.R_new' (Kd.R_new' (Kd.R_new' (Kd.R_new' (Kd.R_new' (Kd.R_new' ho1 (Kd.R_lt (pr_ HO681.out))) (Kd.R_lt (pr_ HO684.out))) (Kd.R_lt (pr_ HO691.out))) (Kd.R_lt (pr_ HO694.out))) (Kd.R_lt (pr_ HO702.out))) (Kd.R_lt (pr_ HO705.out))) (Kd.R_lt (pr_ HO713.out))) (Kd.R_lt (pr_ HO716.out))) (below_size (pb4_ HB.out GE675.out GE676.out GE710.out GE721.out)))
  have n14_ := Aside0.mk (Kd.S_lower (Kd.S_new' (Kd.S_new' (Kd.S_new' (Kd.S_new' (Kd.S_new' (Kd.S_new' (Kd.S_new' (Kd.S_new' (Kd.S_new' (Kd.S_new' (Kd.S_new' (Kd.S_new' ho2 (Kd.R_lt (pr_ HO681.out))) (Kd.R_lt (pr_ HO684.out))) (Kd.S_lt (ps_ HO687.out))) (Kd.R_lt (pr_ HO691.out))) (Kd.R_lt (pr_ HO694.out))) (Kd.S_lt (ps_ HO697.out))) (Kd.R_lt (pr_ HO702.out))) (Kd.R_lt (pr_ HO705.out))) (Kd.S_lt (ps_ HO708.out))) (Kd.R_lt (pr_ HO713.out))) (Kd.R_lt (pr_ HO716.out))) (Kd.S_lt (ps_ HO719.out))) (below_size (pb4_ HB.out GE675.out GE676.out GE710.out GE721.out)))
  have n15_ := Aside0.mk (bb_ BK675.out hb)
  have n16_ := Aside0.mk (bb_ BK676.out hb)
  have n17_ := Aside0.mk (bb_ BK710.out hb)
  have n18_ := Aside0.mk (bb_ BK721.out hb)
  have n19_ := Aside0.mk (below_step (pb4_ HB.out GE675.out GE676.out GE710.out GE721.out) hb)
  clear HO681
  clear HO684
  clear HO687
  clear HO691
  clear HO694
  clear HO697
  clear HO702
  clear HO705
  clear HO708
  clear HO713
  clear HO716
  clear HO719
  clear BK675
  clear BK676
  clear BK710
  clear BK721
  clear HB
  have HO681 := n0_
  have HO684 := n1_
  have HO687 := n2_
  have HO691 := n3_
  have HO694 := n4_
  have HO697 := n5_
  have HO702 := n6_
  have HO705 := n7_
  have HO708 := n8_
  have HO713 := n9_
  have HO716 := n10_
  have HO719 := n11_
  have HO725 := n12_
  have HO728 := n13_
  have HO731 := n14_
  have BK675 := n15_
  have BK676 := n16_
  have BK710 := n17_
  have BK721 := n18_
  have HB := n19_
  clear n0_ n1_ n2_ n3_ n4_ n5_ n6_ n7_ n8_ n9_ n10_ n11_ n12_ n13_ n14_ n15_ n16_ n17_ n18_ n19_
  (try clear hb)
  (try clear hb2)
  (try clear hk)
  (try clear hi)
  (try clear ho0)
  (try clear ho1)
  (try clear ho2)
  obtain ⟨Ao66, co66, eo66⟩ := Kd.R_slice HO725.out
  (first | subst eo66 | (injection eo66 with f1_ f2_ f3_; have f4_ := f1_.symm; have f5_ := f3_.symm; clear f1_ f2_ f3_; subst f4_; subst f5_))
  obtain ⟨Ao67, co67, eo67⟩ := Kd.R_slice HO728.out
  (first | subst eo67 | (injection eo67 with f1_ f2_ f3_; have f4_ := f1_.symm; have f5_ := f3_.symm; clear f1_ f2_ f3_; subst f4_; subst f5_))
  obtain ⟨Ao68, co68, eo68⟩ := Kd.S_slice HO731.out
  (first | subst eo68 | (injection eo68 with f1_ f2_ f3_; have f4_ := f1_.symm; have f5_ := f3_.symm; clear f1_ f2_ f3_; subst f4_; subst f5_))
  refine hK.out _ _ ⟨(blk_cell BK710.out 0).trans rfl, (blk_cell BK710.out 1).trans rfl, (blk_cell BK710.out 2).trans rfl, (blk_cell BK710.out 3).trans rfl, (blk_cell BK675.out 0).trans rfl, (blk_cell BK675.out 1).trans rfl, (blk_cell BK675.out 2).trans rfl, (blk_cell BK675.out 3).trans rfl⟩ (fun hHeld => ?_)
  clear hK K
  refine norm_ (a' := ?_) ?_ ?_
  rotate_left
  · show Act.put _ (some 37) _ = _
    simp only [Act.put, List.setIfInBounds_toArray, List.set_cons_zero, List.set_cons_succ, i64_w, i32_w]
    rfl
  refine one_ (i := 3) (N := some 38) #[true, true, true, true, false] rfl rfl (by kernel_rfl) (by decide) (fun K hK => ?_)
  refine goes_ Try.func47 (by kernel_rfl) rfl #[.agg #[.slice Ao33 t700.length co33, .slice Ao37 t703.length co37, .slice Ao38 t706.length co38, .int .i64 t709], .agg #[.slice Ao66 t723.length co66, .slice Ao67 t726.length co67, .slice Ao68 t729.length co68, .int .i64 t732]] (by rfl) rfl rfl mp_ ?_
  with_reducible refine (laws_eqEndpoint.calls k _ _ t700 _ _ t703 _ _ t706 t709 _ _ t723 _ _ t726 _ _ t729 t732 t733 _ ?side1 ?side2 ?side3 ?side4 ?side5 ?side6 ?side7 ?side8 ?side9 ?side10 ?side11 ?side12 A63.out).mono ?_
  (case side1 => exact pc_ ((Kd.R_reads' HO702.out).2.2))
  (case side2 => exact (Kd.R_reads' HO702.out).2.1)
  (case side3 => exact pc_ ((Kd.R_reads' HO705.out).2.2))
  (case side4 => exact (Kd.R_reads' HO705.out).2.1)
  (case side5 => exact pc_ ((Kd.S_reads' HO708.out).2.2))
  (case side6 => exact (Kd.S_reads' HO708.out).2.1)
  (case side7 => exact pc_ ((Kd.R_reads' HO725.out).2.2))
  (case side8 => exact (Kd.R_reads' HO725.out).2.1)
  (case side9 => exact pc_ ((Kd.R_reads' HO728.out).2.2))
  (case side10 => exact (Kd.R_reads' HO728.out).2.1)
  (case side11 => exact pc_ ((Kd.S_reads' HO731.out).2.2))
  (case side12 => exact (Kd.S_reads' HO731.out).2.1)
  rintro e w69 ⟨rfl, hb⟩
  refine ⟨_, rfl, ?_⟩
  have n0_ := Aside0.mk (Kd.R_below (pr_ HO681.out) hb)
  have n1_ := Aside0.mk (Kd.R_below (pr_ HO684.out) hb)
  have n2_ := Aside0.mk (Kd.S_below (ps_ HO687.out) hb)
  have n3_ := Aside0.mk (Kd.R_below (pr_ HO691.out) hb)
  have n4_ := Aside0.mk (Kd.R_below (pr_ HO694.out) hb)
  have n5_ := Aside0.mk (Kd.S_below (ps_ HO697.out) hb)
  have n6_ := Aside0.mk (Kd.R_below (pr_ HO702.out) hb)
  have n7_ := Aside0.mk (Kd.R_below (pr_ HO705.out) hb)
  have n8_ := Aside0.mk (Kd.S_below (ps_ HO708.out) hb)
  have n9_ := Aside0.mk (Kd.R_below (pr_ HO713.out) hb)
  have n10_ := Aside0.mk (Kd.R_below (pr_ HO716.out) hb)
  have n11_ := Aside0.mk (Kd.S_below (ps_ HO719.out) hb)
  have n12_ := Aside0.mk (Kd.R_below (pr_ HO725.out) hb)
  have n13_ := Aside0.mk (Kd.R_below (pr_ HO728.out) hb)
  have n14_ := Aside0.mk (Kd.S_below (ps_ HO731.out) hb)
  have n15_ := Aside0.mk (bb_ BK675.out hb)
  have n16_ := Aside0.mk (bb_ BK676.out hb)
  have n17_ := Aside0.mk (bb_ BK710.out hb)
  have n18_ := Aside0.mk (bb_ BK721.out hb)
  have n19_ := Aside0.mk (below_step (pb4_ HB.out GE675.out GE676.out GE710.out GE721.out) hb)
  clear HO681
  clear HO684
  clear HO687
  clear HO691
  clear HO694
  clear HO697
  clear HO702
  clear HO705
  clear HO708
  clear HO713
  clear HO716
  clear HO719
  clear HO725
  clear HO728
  clear HO731
  clear BK675
  clear BK676
  clear BK710
  clear BK721
  clear HB
  have HO681 := n0_
  have HO684 := n1_
  have HO687 := n2_
  have HO691 := n3_
  have HO694 := n4_
  have HO697 := n5_
  have HO702 := n6_
  have HO705 := n7_
  have HO708 := n8_
  have HO713 := n9_
  have HO716 := n10_
  have HO719 := n11_
  have HO725 := n12_
  have HO728 := n13_
  have HO731 := n14_
  have BK675 := n15_
  have BK676 := n16_
  have BK710 := n17_
  have BK721 := n18_
  have HB := n19_
  clear n0_ n1_ n2_ n3_ n4_ n5_ n6_ n7_ n8_ n9_ n10_ n11_ n12_ n13_ n14_ n15_ n16_ n17_ n18_ n19_
  (try clear hb)
  (try clear hb2)
  (try clear hk)
  (try clear hi)
  refine hK.out _ _ ⟨(blk_cell BK710.out 0).trans rfl, (blk_cell BK710.out 1).trans rfl, (blk_cell BK710.out 2).trans rfl, (blk_cell BK710.out 3).trans rfl, (blk_cell BK675.out 0).trans rfl, (blk_cell BK675.out 1).trans rfl, (blk_cell BK675.out 2).trans rfl, (blk_cell BK675.out 3).trans rfl⟩ (fun hHeld => ?_)
  clear hK K
  refine norm_ (a' := ?_) ?_ ?_
  rotate_left
  · show Act.put _ (some 38) _ = _
    simp only [Act.put, List.setIfInBounds_toArray, List.set_cons_zero, List.set_cons_succ, i64_w, i32_w]
    rfl
  refine pure_ (i := 4) (N := some 39) (v := ?_) (a' := ?_) #[true, true, true, true, true] rfl rfl (by kernel_rfl) (fun _ _ _ h => h) (Or.inl ⟨by rfl, ?_⟩) ?_ ?_
  rotate_left
  · intro w'
    go_simp
    (try (simp only [Instr.field]; simp only [underlying, hu53, hu58]; go_simp; simp only [asAgg]; go_simp))
    with_reducible rfl
  rotate_left
  · simp only [Act.put, List.setIfInBounds_toArray, List.set_cons_zero, List.set_cons_succ, i64_w, i32_w]
    rfl
  refine done_ (by kernel_rfl) ?_
  go_upto_if 39 with (fail)
  have H := HS_.out
  clear HS_
  by_cases c70 : t733 = true
  rotate_left
  · replace c70 := Bool.eq_false_iff.mpr c70
    subst c70
    rw [if_neg (show ¬ (false = true) by decide)] at H
    obtain rfl := Option.some.inj H
    go_wp2
    go_ret
    exact ⟨er_, pb4_ HB.out GE675.out GE676.out GE710.out GE721.out⟩
  subst c70
  rw [if_pos rfl] at H
  replace H := Option.bind_eq_some_iff.mp H
  obtain ⟨⟨t734, t737, t740, t743⟩, A710, H⟩ := H
  (try dsimp only at H)
  have A71 := Aside0.mk A710
  clear A710
  replace H := Option.bind_eq_some_iff.mp H
  obtain ⟨t744, A720, H⟩ := H
  replace H : (if t744 = true then (some true) else (some false)) = some r := H
  have A72 := Aside0.mk A720
  clear A720
  have HS_ := Aside0.mk H
  clear H
  try go_wp2
  have n0_ := Aside0.mk (Kd.R_drew HO681.out)
  have n1_ := Aside0.mk (Kd.R_drew HO684.out)
  have n2_ := Aside0.mk (Kd.S_drew HO687.out)
  have n3_ := Aside0.mk (Kd.R_drew HO691.out)
  have n4_ := Aside0.mk (Kd.R_drew HO694.out)
  have n5_ := Aside0.mk (Kd.S_drew HO697.out)
  have n6_ := Aside0.mk (Kd.R_drew HO702.out)
  have n7_ := Aside0.mk (Kd.R_drew HO705.out)
  have n8_ := Aside0.mk (Kd.S_drew HO708.out)
  have n9_ := Aside0.mk (Kd.R_drew HO713.out)
  have n10_ := Aside0.mk (Kd.R_drew HO716.out)
  have n11_ := Aside0.mk (Kd.S_drew HO719.out)
  have n12_ := Aside0.mk (Kd.R_drew HO725.out)
  have n13_ := Aside0.mk (Kd.R_drew HO728.out)
  have n14_ := Aside0.mk (Kd.S_drew HO731.out)
  have n15_ := Aside0.mk (blk_drew BK675.out)
  have n16_ := Aside0.mk (blk_drew BK676.out)
  have n17_ := Aside0.mk (blk_drew BK710.out)
  have n18_ := Aside0.mk (blk_drew BK721.out)
  have n19_ := Aside0.mk (below_drew1 HB.out)
  clear HO681
  clear HO684
  clear HO687
  clear HO691
  clear HO694
  clear HO697
  clear HO702
  clear HO705
  clear HO708
  clear HO713
  clear HO716
  clear HO719
  clear HO725
  clear HO728
  clear HO731
  clear BK675
  clear BK676
  clear BK710
  clear BK721
  clear HB
  have HO681 := n0_
  have HO684 := n1_
  have HO687 := n2_
  have HO691 := n3_
  have HO694 := n4_
  have HO697 := n5_
  have HO702 := n6_
  have HO705 := n7_
  have HO708 := n8_
  have HO713 := n9_
  have HO716 := n10_
  have HO719 := n11_
  have HO725 := n12_
  have HO728 := n13_
  have HO731 := n14_
  have BK675 := n15_
  have BK676 := n16_
  have BK710 := n17_
  have BK721 := n18_
  have HB := n19_
  clear n0_ n1_ n2_ n3_ n4_ n5_ n6_ n7_ n8_ n9_ n10_ n11_ n12_ n13_ n14_ n15_ n16_ n17_ n18_ n19_
  refine start_ (n := 5) (S := fun w' => w'.cell? ⟨gb721, 0, none⟩ = some (.slice Ao45 t711.length co45) ∧ w'.cell? ⟨gb721, 1, none⟩ = some (.slice Ao50 t714.length co50) ∧ w'.cell? ⟨gb721, 2, none⟩ = some (.slice Ao51 t717.length co51) ∧ w'.cell? ⟨gb721, 3, none⟩ = some (.int .i64 t720) ∧ w'.cell? ⟨gb676, 0, none⟩ = some (.slice A1_0 l1_0.length c1_0) ∧ w'.cell? ⟨gb676, 1, none⟩ = some (.slice A1_1 l1_1.length c1_1) ∧ w'.cell? ⟨gb676, 2, none⟩ = some (.slice A1_2 l1_2.length c1_2) ∧ w'.cell? ⟨gb676, 3, none⟩ = some (.int .i64 a1_3)) (ds := []) #[false, false, false, false, false] (by kernel_rfl) rfl rfl ⟨(blk_cell BK721.out 0).trans rfl, (blk_cell BK721.out 1).trans rfl, (blk_cell BK721.out 2).trans rfl, (blk_cell BK721.out 3).trans rfl, (blk_cell BK676.out 0).trans rfl, (blk_cell BK676.out 1).trans rfl, (blk_cell BK676.out 2).trans rfl, (blk_cell BK676.out 3).trans rfl⟩ (fun hHeld => ?_)
  generalize w69.drew = w73 at HO681 HO684 HO687 HO691 HO694 HO697 HO702 HO705 HO708 HO713 HO716 HO719 HO725 HO728 HO731 BK675 BK676 BK710 BK721 HB hHeld ⊢
  refine take_ (i := 0) (N := some 40) (v := ?_) (a' := ?_) #[true, false, false, false, false] rfl rfl (by kernel_rfl) (fun _ _ _ h => h) (Or.inl ⟨by rfl, ?_⟩) hHeld ?_ ?_
  rotate_left
  · rintro w' ⟨s0, s1, s2, s3, s4, s5, s6, s7⟩
    go_simp
    (try (simp only [Instr.field]; simp only [underlying, hu53, hu58]; go_simp; simp only [asAgg]; go_simp))
    with_reducible rfl
  rotate_left
  · simp only [Act.put, List.setIfInBounds_toArray, List.set_cons_zero, List.set_cons_succ, i64_w, i32_w]
    rfl
  refine take_ (i := 1) (N := some 41) (v := ?_) (a' := ?_) #[true, true, false, false, false] rfl rfl (by kernel_rfl) (fun _ _ _ h => h) (Or.inl ⟨by rfl, ?_⟩) hHeld ?_ ?_
  rotate_left
  · rintro w' ⟨s0, s1, s2, s3, s4, s5, s6, s7⟩
    go_simp
    (try (simp only [Instr.field]; simp only [underlying, hu53, hu58]; go_simp; simp only [asAgg]; go_simp))
    with_reducible rfl
  rotate_left
  · simp only [Act.put, List.setIfInBounds_toArray, List.set_cons_zero, List.set_cons_succ, i64_w, i32_w]
    rfl
  refine one_ (i := 2) (N := some 42) #[true, true, true, false, false] rfl rfl (by kernel_rfl) (by decide) (fun K hK => ?_)
  refine goes_ Try.func45 (by kernel_rfl) rfl #[.agg #[.slice A1_0 l1_0.length c1_0, .slice A1_1 l1_1.length c1_1, .slice A1_2 l1_2.length c1_2, .int .i64 a1_3]] (by rfl) rfl rfl mp_ ?_
  with_reducible refine (laws_toEndpoint.calls k _ _ l1_0 _ _ l1_1 _ _ l1_2 a1_3 t734 t737 t740 t743 _ ?side1 ?side2 ?side3 ?side4 ?side5 ?side6 A71.out).mono ?_
  (case side1 => exact pc_ (Kd.C_below HR1_0.out HB.out))
  (case side2 => exact HC1_0.out)
  (case side3 => exact pc_ (Kd.C_below HR1_1.out HB.out))
  (case side4 => exact HC1_1.out)
  (case side5 => exact pc_ (Kd.C_below HR1_2.out HB.out))
  (case side6 => exact HC1_2.out)
  rintro e w74 ⟨v735, v738, v741, rfl, ho0, ho1, ho2, hb⟩
  refine ⟨_, rfl, ?_⟩
  have n0_ := Aside0.mk (Kd.R_mono (Kd.R_told (Kd.R_told (Kd.R_old (pr_ HO681.out) hb) (Kd.R_base ho0)) (Kd.R_base ho1)) (fun _ h_ => h_.1))
  have n1_ := Aside0.mk (Kd.R_mono (Kd.R_told (Kd.R_told (Kd.R_old (pr_ HO684.out) hb) (Kd.R_base ho0)) (Kd.R_base ho1)) (fun _ h_ => h_.1))
  have n2_ := Aside0.mk (Kd.S_mono (Kd.S_told (Kd.S_told (Kd.S_told (Kd.S_old (ps_ HO687.out) hb) (Kd.R_base ho0)) (Kd.R_base ho1)) (Kd.S_base ho2)) (fun _ h_ => h_.1))
  have n3_ := Aside0.mk (Kd.R_mono (Kd.R_told (Kd.R_told (Kd.R_old (pr_ HO691.out) hb) (Kd.R_base ho0)) (Kd.R_base ho1)) (fun _ h_ => h_.1))
  have n4_ := Aside0.mk (Kd.R_mono (Kd.R_told (Kd.R_told (Kd.R_old (pr_ HO694.out) hb) (Kd.R_base ho0)) (Kd.R_base ho1)) (fun _ h_ => h_.1))
  have n5_ := Aside0.mk (Kd.S_mono (Kd.S_told (Kd.S_told (Kd.S_told (Kd.S_old (ps_ HO697.out) hb) (Kd.R_base ho0)) (Kd.R_base ho1)) (Kd.S_base ho2)) (fun _ h_ => h_.1))
  have n6_ := Aside0.mk (Kd.R_mono (Kd.R_told (Kd.R_told (Kd.R_old (pr_ HO702.out) hb) (Kd.R_base ho0)) (Kd.R_base ho1)) (fun _ h_ => h_.1))
  have n7_ := Aside0.mk (Kd.R_mono (Kd.R_told (Kd.R_told (Kd.R_old (pr_ HO705.out) hb) (Kd.R_base ho0)) (Kd.R_base ho1)) (fun _ h_ => h_.1))
  have n8_ := Aside0.mk (Kd.S_mono (Kd.S_told (Kd.S_told (Kd.S_told (Kd.S_old (ps_ HO708.out) hb) (Kd.R_base ho0)) (Kd.R_base ho1)) (Kd.S_base ho2)) (fun _ h_ => h_.1))
  have n9_ := Aside0.mk (Kd.R_mono (Kd.R_told (Kd.R_told (Kd.R_old (pr_ HO713.out) hb) (Kd.R_base ho0)) (Kd.R_base ho1)) (fun _ h_ => h_.1))
  have n10_ := Aside0.mk (Kd.R_mono (Kd.R_told (Kd.R_told (Kd.R_old (pr_ HO716.out) hb) (Kd.R_base ho0)) (Kd.R_base ho1)) (fun _ h_ => h_.1))
  have n11_ := Aside0.mk (Kd.S_mono (Kd.S_told (Kd.S_told (Kd.S_told (Kd.S_old (ps_ HO719.out) hb) (Kd.R_base ho0)) (Kd.R_base ho1)) (Kd.S_base ho2)) (fun _ h_ => h_.1))
  have n12_ := Aside0.mk (Kd.R_mono (Kd.R_told (Kd.R_told (Kd.R_old (pr_ HO725.out) hb) (Kd.R_base ho0)) (Kd.R_base ho1)) (fun _ h_ => h_.1))
  have n13_ := Aside0.mk (Kd.R_mono (Kd.R_told (Kd.R_told (Kd.R_old (pr_ HO728.out) hb) (Kd.R_base ho0)) (Kd.R_base ho1)) (fun _ h_ => h_.1))
  have n14_ := Aside0.mk (Kd.S_mono (Kd.S_told (Kd.S_told (Kd.S_told (Kd.S_old (ps_ HO731.out) hb) (Kd.R_base ho0)) (Kd.R_base ho1)) (Kd.S_base ho2)) (fun _ h_ => h_.1))
  have n15_ := Aside0.mk (Kd.R_lower (Kd.R_new' (Kd.R_new' (Kd.R_new' (Kd.R_new' (Kd.R_new' (Kd.R_new' (Kd.R_new' (Kd.R_new' (Kd.R_new' (Kd.R_new' ho0 (Kd.R_lt (pr_ HO681.out))) (Kd.R_lt (pr_ HO684.out))) (Kd.R_lt (pr_ HO691.out))) (Kd.R_lt (pr_ HO694.out))) (Kd.R_lt (pr_ HO702.out))) (Kd.R_lt (pr_ HO705.out))) (Kd.R_lt (pr_ HO713.out))) (Kd.R_lt (pr_ HO716.out))) (Kd.R_lt (pr_ HO725.out))) (Kd.R_lt (pr_ HO728.out))) (below_size (pb4_ HB.out GE675.out GE676.out GE710.out GE721.out)))
  have n16_ := Aside0.mk (Kd.R_lower (Kd.R_new' (Kd.R_new' (Kd.R_new' (Kd.R_new' (Kd.R_new' (Kd.R_new' (Kd.R_new' (Kd.R_new' (Kd.R_new' (Kd.R_new' ho1 (Kd.R_lt (pr_ HO681.out))) (Kd.R_lt (pr_ HO684.out))) (Kd.R_lt (pr_ HO691.out))) (Kd.R_lt (pr_ HO694.out))) (Kd.R_lt (pr_ HO702.out))) (Kd.R_lt (pr_ HO705.out))) (Kd.R_lt (pr_ HO713.out))) (Kd.R_lt (pr_ HO716.out))) (Kd.R_lt (pr_ HO725.out))) (Kd.R_lt (pr_ HO728.out))) (below_size (pb4_ HB.out GE675.out GE676.out GE710.out GE721.out)))
  have n17_ := Aside0.mk (Kd.S_lower (Kd.S_new' (Kd.S_new' (Kd.S_new' (Kd.S_new' (Kd.S_new' (Kd.S_new' (Kd.S_new' (Kd.S_new' (Kd.S_new' (Kd.S_new' (Kd.S_new' (Kd.S_new' (Kd.S_new' (Kd.S_new' (Kd.S_new' ho2 (Kd.R_lt (pr_ HO681.out))) (Kd.R_lt (pr_ HO684.out))) (Kd.S_lt (ps_ HO687.out))) (Kd.R_lt (pr_ HO691.out))) (Kd.R_lt (pr_ HO694.out))) (Kd.S_lt (ps_ HO697.out))) (Kd.R_lt (pr_ HO702.out))) (Kd.R_lt (pr_ HO705.out))) (Kd.S_lt (ps_ HO708.out))) (Kd.R_lt (pr_ HO713.out))) (Kd.R_lt (pr_ HO716.out))) (Kd.S_lt (ps_ HO719.out))) (Kd.R_lt (pr_ HO725.out))) (Kd.R_lt (pr_ HO728.out))) (Kd.S_lt (ps_ HO731.out))) (below_size (pb4_ HB.out GE675.out GE676.out GE710.out GE721.out)))
  have n18_ := Aside0.mk (bb_ BK675.out hb)
  have n19_ := Aside0.mk (bb_ BK676.out hb)
  have n20_ := Aside0.mk (bb_ BK710.out hb)
  have n21_ := Aside0.mk (bb_ BK721.out hb)
  have n22_ := Aside0.mk (below_step (pb4_ HB.out GE675.out GE676.out GE710.out GE721.out) hb)
  clear HO681
  clear HO684
  clear HO687
  clear HO691
  clear HO694
  clear HO697
  clear HO702
  clear HO705
  clear HO708
  clear HO713
  clear HO716
  clear HO719
  clear HO725
  clear HO728
  clear HO731
  clear BK675
  clear BK676
  clear BK710
  clear BK721
  clear HB
  have HO681 := n0_
  have HO684 := n1_
  have HO687 := n2_
  have HO691 := n3_
  have HO694 := n4_
  have HO697 := n5_
  have HO702 := n6_
  have HO705 := n7_
  have HO708 := n8_
  have HO713 := n9_
  have HO716 := n10_
  have HO719 := n11_
  have HO725 := n12_
  have HO728 := n13_
  have HO731 := n14_
  have HO736 := n15_
  have HO739 := n16_
  have HO742 := n17_
  have BK675 := n18_
  have BK676 := n19_
  have BK710 := n20_
  have BK721 := n21_
  have HB := n22_
  clear n0_ n1_ n2_ n3_ n4_ n5_ n6_ n7_ n8_ n9_ n10_ n11_ n12_ n13_ n14_ n15_ n16_ n17_ n18_ n19_ n20_ n21_ n22_
  (try clear hb)
  (try clear hb2)
  (try clear hk)
  (try clear hi)
  (try clear ho0)
  (try clear ho1)
  (try clear ho2)
  obtain ⟨Ao75, co75, eo75⟩ := Kd.R_slice HO736.out
  (first | subst eo75 | (injection eo75 with f1_ f2_ f3_; have f4_ := f1_.symm; have f5_ := f3_.symm; clear f1_ f2_ f3_; subst f4_; subst f5_))
  obtain ⟨Ao76, co76, eo76⟩ := Kd.R_slice HO739.out
  (first | subst eo76 | (injection eo76 with f1_ f2_ f3_; have f4_ := f1_.symm; have f5_ := f3_.symm; clear f1_ f2_ f3_; subst f4_; subst f5_))
  obtain ⟨Ao77, co77, eo77⟩ := Kd.S_slice HO742.out
  (first | subst eo77 | (injection eo77 with f1_ f2_ f3_; have f4_ := f1_.symm; have f5_ := f3_.symm; clear f1_ f2_ f3_; subst f4_; subst f5_))
  refine hK.out _ _ ⟨(blk_cell BK721.out 0).trans rfl, (blk_cell BK721.out 1).trans rfl, (blk_cell BK721.out 2).trans rfl, (blk_cell BK721.out 3).trans rfl, (blk_cell BK676.out 0).trans rfl, (blk_cell BK676.out 1).trans rfl, (blk_cell BK676.out 2).trans rfl, (blk_cell BK676.out 3).trans rfl⟩ (fun hHeld => ?_)
  clear hK K
  refine norm_ (a' := ?_) ?_ ?_
  rotate_left
  · show Act.put _ (some 42) _ = _
    simp only [Act.put, List.setIfInBounds_toArray, List.set_cons_zero, List.set_cons_succ, i64_w, i32_w]
    rfl
  refine one_ (i := 3) (N := some 43) #[true, true, true, true, false] rfl rfl (by kernel_rfl) (by decide) (fun K hK => ?_)
  refine goes_ Try.func47 (by kernel_rfl) rfl #[.agg #[.slice Ao45 t711.length co45, .slice Ao50 t714.length co50, .slice Ao51 t717.length co51, .int .i64 t720], .agg #[.slice Ao75 t734.length co75, .slice Ao76 t737.length co76, .slice Ao77 t740.length co77, .int .i64 t743]] (by rfl) rfl rfl mp_ ?_
  with_reducible refine (laws_eqEndpoint.calls k _ _ t711 _ _ t714 _ _ t717 t720 _ _ t734 _ _ t737 _ _ t740 t743 t744 _ ?side1 ?side2 ?side3 ?side4 ?side5 ?side6 ?side7 ?side8 ?side9 ?side10 ?side11 ?side12 A72.out).mono ?_
  (case side1 => exact pc_ ((Kd.R_reads' HO713.out).2.2))
  (case side2 => exact (Kd.R_reads' HO713.out).2.1)
  (case side3 => exact pc_ ((Kd.R_reads' HO716.out).2.2))
  (case side4 => exact (Kd.R_reads' HO716.out).2.1)
  (case side5 => exact pc_ ((Kd.S_reads' HO719.out).2.2))
  (case side6 => exact (Kd.S_reads' HO719.out).2.1)
  (case side7 => exact pc_ ((Kd.R_reads' HO736.out).2.2))
  (case side8 => exact (Kd.R_reads' HO736.out).2.1)
  (case side9 => exact pc_ ((Kd.R_reads' HO739.out).2.2))
  (case side10 => exact (Kd.R_reads' HO739.out).2.1)
  (case side11 => exact pc_ ((Kd.S_reads' HO742.out).2.2))
  (case side12 => exact (Kd.S_reads' HO742.out).2.1)
  rintro e w78 ⟨rfl, hb⟩
  refine ⟨_, rfl, ?_⟩
  have n0_ := Aside0.mk (Kd.R_below (pr_ HO681.out) hb)
  have n1_ := Aside0.mk (Kd.R_below (pr_ HO684.out) hb)
  have n2_ := Aside0.mk (Kd.S_below (ps_ HO687.out) hb)
  have n3_ := Aside0.mk (Kd.R_below (pr_ HO691.out) hb)
  have n4_ := Aside0.mk (Kd.R_below (pr_ HO694.out) hb)
  have n5_ := Aside0.mk (Kd.S_below (ps_ HO697.out) hb)
  have n6_ := Aside0.mk (Kd.R_below (pr_ HO702.out) hb)
  have n7_ := Aside0.mk (Kd.R_below (pr_ HO705.out) hb)
  have n8_ := Aside0.mk (Kd.S_below (ps_ HO708.out) hb)
  have n9_ := Aside0.mk (Kd.R_below (pr_ HO713.out) hb)
  have n10_ := Aside0.mk (Kd.R_below (pr_ HO716.out) hb)
  have n11_ := Aside0.mk (Kd.S_below (ps_ HO719.out) hb)
  have n12_ := Aside0.mk (Kd.R_below (pr_ HO725.out) hb)
  have n13_ := Aside0.mk (Kd.R_below (pr_ HO728.out) hb)
  have n14_ := Aside0.mk (Kd.S_below (ps_ HO731.out) hb)
  have n15_ := Aside0.mk (Kd.R_below (pr_ HO736.out) hb)
  have n16_ := Aside0.mk (Kd.R_below (pr_ HO739.out) hb)
  have n17_ := Aside0.mk (Kd.S_below (ps_ HO742.out) hb)
  have n18_ := Aside0.mk (bb_ BK675.out hb)
  have n19_ := Aside0.mk (bb_ BK676.out hb)
  have n20_ := Aside0.mk (bb_ BK710.out hb)
  have n21_ := Aside0.mk (bb_ BK721.out hb)
  have n22_ := Aside0.mk (below_step (pb4_ HB.out GE675.out GE676.out GE710.out GE721.out) hb)
  clear HO681
  clear HO684
  clear HO687
  clear HO691
  clear HO694
  clear HO697
  clear HO702
  clear HO705
  clear HO708
  clear HO713
  clear HO716
  clear HO719
  clear HO725
  clear HO728
  clear HO731
  clear HO736
  clear HO739
  clear HO742
  clear BK675
  clear BK676
  clear BK710
  clear BK721
  clear HB
  have HO681 := n0_
  have HO684 := n1_
  have HO687 := n2_
  have HO691 := n3_
  have HO694 := n4_
  have HO697 := n5_
  have HO702 := n6_
  have HO705 := n7_
  have HO708 := n8_
  have HO713 := n9_
  have HO716 := n10_
  have HO719 := n11_
  have HO725 := n12_
  have HO728 := n13_
  have HO731 := n14_
  have HO736 := n15_
  have HO739 := n16_
  have HO742 := n17_
  have BK675 := n18_
  have BK676 := n19_
  have BK710 := n20_
  have BK721 := n21_
  have HB := n22_
  clear n0_ n1_ n2_ n3_ n4_ n5_ n6_ n7_ n8_ n9_ n10_ n11_ n12_ n13_ n14_ n15_ n16_ n17_ n18_ n19_ n20_ n21_ n22_
  (try clear hb)
  (try clear hb2)
  (try clear hk)
  (try clear hi)
  refine hK.out _ _ ⟨(blk_cell BK721.out 0).trans rfl, (blk_cell BK721.out 1).trans rfl, (blk_cell BK721.out 2).trans rfl, (blk_cell BK721.out 3).trans rfl, (blk_cell BK676.out 0).trans rfl, (blk_cell BK676.out 1).trans rfl, (blk_cell BK676.out 2).trans rfl, (blk_cell BK676.out 3).trans rfl⟩ (fun hHeld => ?_)
  clear hK K
  refine norm_ (a' := ?_) ?_ ?_
  rotate_left
  · show Act.put _ (some 43) _ = _
    simp only [Act.put, List.setIfInBounds_toArray, List.set_cons_zero, List.set_cons_succ, i64_w, i32_w]
    rfl
  refine pure_ (i := 4) (N := some 44) (v := ?_) (a' := ?_) #[true, true, true, true, true] rfl rfl (by kernel_rfl) (fun _ _ _ h => h) (Or.inl ⟨by rfl, ?_⟩) ?_ ?_
  rotate_left
  · intro w'
    go_simp
    (try (simp only [Instr.field]; simp only [underlying, hu53, hu58]; go_simp; simp only [asAgg]; go_simp))
    with_reducible rfl
  rotate_left
  · simp only [Act.put, List.setIfInBounds_toArray, List.set_cons_zero, List.set_cons_succ, i64_w, i32_w]
    rfl
  refine done_ (by kernel_rfl) ?_
  go_upto_if 44 with (fail)
  have H := HS_.out
  clear HS_
  by_cases c79 : t744 = true
  rotate_left
  · replace c79 := Bool.eq_false_iff.mpr c79
    subst c79
    rw [if_neg (show ¬ (false = true) by decide)] at H
    obtain rfl := Option.some.inj H
    go_wp2
    go_ret
    exact ⟨er_, pb4_ HB.out GE675.out GE676.out GE710.out GE721.out⟩
  subst c79
  rw [if_pos rfl] at H
  obtain rfl := Option.some.inj H
  go_wp2
  go_ret
  exact ⟨er_, pb4_ HB.out GE675.out GE676.out GE710.out GE721.out⟩

/-- THE ONE PURE STATEMENT of laws_FnExactEqualEndpoints: yours. -/
def laws_FnExactEqualEndpoints.Pure : Prop := ∀ (x0 : S53) (x1 : S53), Q53 x0 → Q53 x1 → ∃ k, laws_FnExactEqualEndpoints.f k x0.f0 x0.f1 x0.f2 x0.f3 x1.f0 x1.f1 x1.f2 x1.f3 = some true

end Go.Proofs.Ytdoefkloanpliaa.Print
