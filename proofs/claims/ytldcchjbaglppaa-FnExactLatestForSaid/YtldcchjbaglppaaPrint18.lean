-- Written by a program of this session (printx.py) out of the translation; Lean checks it.
import Derived.Test.YtldcchjbaglppaaPrint0
import Derived.Test.YtldcchjbaglppaaPrint1
import Derived.Test.YtldcchjbaglppaaPrint7
import Derived.Test.YtldcchjbaglppaaPrint14
import Derived.Test.YtldcchjbaglppaaPrint15
namespace Go.Proofs.Ytldcchjbaglppaa.Print
open Go.RowKit Go.Proofs.YtldcchjbaglppaaW.PrintWords Go.Proofs.YtldcchjbaglppaaW.PrintLast Go.Proofs.YtldcchjbaglppaaW.PrintMore Go.Proofs.Ytldcchjbaglppaa.Short
attribute [local go_sem] max2_int min2_int max_two min_two max_three min_three max_four min_four   -- for this text's walks alone
set_option linter.unusedVariables false
set_option linter.unusedSimpArgs false

/-! ### laws_FnExactLatestFor: function 3 -/
def laws_FnExactLatestFor.f (k : Nat) (l0 : List (S26)) (a1_0 : Int) (l1_1 : List Bool) (l1_2 : List (S80)) : Option (Bool) := (laws_szMachineS.f k l0 1048576).bind fun t502 => (if t502 < 0 then (some true) else ((laws_szMachine.f a1_0 l1_1 l1_2 t502).bind fun t503 => (if t503 < 0 then (some true) else ((laws_toMachineS.f k l0).bind fun t504 => ((laws_toMachine.f k a1_0 l1_1 l1_2).bind fun bt507 => ((spec_LatestFor.f k t504 bt507.1 bt507.2.1 bt507.2.2).bind fun t514 => ((laws_toMachineS.f k l0).bind fun t515 => ((laws_toMachine.f k a1_0 l1_1 l1_2).bind fun bt518 => ((impl_LatestFor.f k t515 bt518.1 bt518.2.1 bt518.2.2).bind fun t526 => (if t526 = t514 then ((laws_toMachineS.f k l0).bind fun t527 => ((laws_eqMachineS.f k t515 t527).bind fun t530 => (if t530 = true then ((laws_toMachine.f k a1_0 l1_1 l1_2).bind fun bt531 => ((laws_eqMachine.f k bt518.1 bt518.2.1 bt518.2.2 bt531.1 bt531.2.1 bt531.2.2).bind fun t538 => (if t538 = true then (some true) else (some false)))) else (some false)))) else (some false)))))))))))
theorem laws_FnExactLatestFor.mono : ∀ a0 a1 a2 a3 k, LeO (laws_FnExactLatestFor.f k a0 a1 a2 a3) (laws_FnExactLatestFor.f (k + 1) a0 a1 a2 a3) := by
  intro a0 a1 a2 a3 k
  unfold laws_FnExactLatestFor.f
  repeat' first
      | (with_reducible exact impl_LatestFor.mono _ _ _ _ _)
      | (with_reducible exact laws_eqMachine.mono _ _ _ _ _ _ _)
      | (with_reducible exact laws_eqMachineS.mono _ _ _)
      | (with_reducible exact laws_szMachineS.mono _ _ _)
      | (with_reducible exact laws_toMachine.mono _ _ _ _)
      | (with_reducible exact laws_toMachineS.mono _ _)
      | (with_reducible exact spec_LatestFor.mono _ _ _ _ _)
      | (with_reducible exact LeO.refl _)
      | (with_reducible exact LeO.none _)
      | (with_reducible refine LeO.ite ?_ ?_)
      | (with_reducible refine LeO.bind ?_ (fun _ => ?_))
      | exact impl_LatestFor.mono _ _ _ _ _
      | exact laws_eqMachine.mono _ _ _ _ _ _ _
      | exact laws_eqMachineS.mono _ _ _
      | exact laws_szMachineS.mono _ _ _
      | exact laws_toMachine.mono _ _ _ _
      | exact laws_toMachineS.mono _ _
      | exact spec_LatestFor.mono _ _ _ _ _
      | exact LeO.none _
      | refine LeO.ite ?_ ?_
      | refine LeO.bind ?_ (fun _ => ?_)
set_option maxHeartbeats 8000000 in
set_option maxRecDepth 100000 in
theorem laws_FnExactLatestFor.calls (k : Nat) (A0 : Option Addr) (c0 : Nat) (l0 : List (S26)) (a1_0 : Int) (A1_1 : Option Addr) (c1_1 : Nat) (l1_1 : List Bool) (A1_2 : Option Addr) (c1_2 : Nat) (l1_2 : List (S80)) (r : Bool) (w : World) (hr0 : Kd.C k26 w A0 l0.length l0) (hc0 : l0.length ≤ c0) (hr1_1 : Kd.C Kd.bool w A1_1 l1_1.length l1_1) (hc1_1 : l1_1.length ≤ c1_1) (hr1_2 : Kd.C k80 w A1_2 l1_2.length l1_2) (hc1_2 : l1_2.length ≤ c1_2) (h : laws_FnExactLatestFor.f k l0 a1_0 l1_1 l1_2 = some r) :
    Calls Try.prog 3 #[.slice A0 l0.length c0, .agg #[.int .i64 a1_0, .slice A1_1 l1_1.length c1_1, .slice A1_2 l1_2.length c1_2]] w fun e w' => e = .returned (.bool r) ∧ Below w.heap.size w w' := by
  have hu26 := Try.underlying26
  have hu34 := Try.underlying34
  have HR0 := Q_ hr0
  have HC0 := Q_ hc0
  clear hr0 hc0
  have HR1_1 := Q_ hr1_1
  have HC1_1 := Q_ hc1_1
  clear hr1_1 hc1_1
  have HR1_2 := Q_ hr1_2
  have HC1_2 := Q_ hc1_2
  clear hr1_2 hc1_2
  have HB := Q_ (Below.refl w.heap.size w)
  have H : ((laws_szMachineS.f k l0 1048576).bind fun t502 => (if t502 < 0 then (some true) else ((laws_szMachine.f a1_0 l1_1 l1_2 t502).bind fun t503 => (if t503 < 0 then (some true) else ((laws_toMachineS.f k l0).bind fun t504 => ((laws_toMachine.f k a1_0 l1_1 l1_2).bind fun bt507 => ((spec_LatestFor.f k t504 bt507.1 bt507.2.1 bt507.2.2).bind fun t514 => ((laws_toMachineS.f k l0).bind fun t515 => ((laws_toMachine.f k a1_0 l1_1 l1_2).bind fun bt518 => ((impl_LatestFor.f k t515 bt518.1 bt518.2.1 bt518.2.2).bind fun t526 => (if t526 = t514 then ((laws_toMachineS.f k l0).bind fun t527 => ((laws_eqMachineS.f k t515 t527).bind fun t530 => (if t530 = true then ((laws_toMachine.f k a1_0 l1_1 l1_2).bind fun bt531 => ((laws_eqMachine.f k bt518.1 bt518.2.1 bt518.2.2 bt531.1 bt531.2.1 bt531.2.2).bind fun t538 => (if t538 = true then (some true) else (some false)))) else (some false)))) else (some false)))))))))))) = some r := h
  clear h
  have HS_ := Q_ H
  clear H
  go_enter Try.func3, Try.ntmps3
  go_upto_region 2 with (first | ((with_reducible refine gate_dst (N := 3) rfl ?_); refine box_event ?hg (N := 3) ?hd (cs := #[.int .i64 a1_0, .slice A1_1 l1_1.length c1_1, .slice A1_2 l1_2.length c1_2]) (t := 26) ?hr ?_; (case hd => rfl); (case hg => rfl); (case hr => first | (go_simp; done) | (go_simp; rfl)); intro gb501 hg w3 hbox hb; have n0_ := Q_ (below_step (pb_ HB.out) hb); have n1_ := Q_ (hbox); have n2_ := Q_ ((by rw [hg]; exact (below_size (pb_ HB.out)) : w.heap.size ≤ gb501)); have n3_ := n2_; clear HB; have HB := n0_; have BK501 := n1_; have GW501 := n2_; have GE501 := n3_; clear n0_ n1_ n2_ n3_; clear hb hbox hg))
  (try simp only [Act.put, List.setIfInBounds_toArray, List.set_cons_zero, List.set_cons_succ])
  have H := HS_.out
  clear HS_
  replace H := Option.bind_eq_some_iff.mp H
  obtain ⟨t502, A40, H⟩ := H
  (try dsimp only at H)
  have A4 := Q_ A40
  clear A40
  have HS_ := Q_ H
  clear H
  go_upto_if 14 with (first | ((with_reducible refine gate_callee (f := 9) rfl ?_); refine gl_ (some 12) Try.func9 #[.slice A0 l0.length c0, .int .i64 1048576] ?_; (with_reducible refine (laws_szMachineS.calls k _ _ l0 1048576 t502 _ ?side1 ?side2 A4.out).mono ?_); (case side1 => exact cb_ HR0 HB); (case side2 => exact HC0.out); rintro e w5 ⟨rfl, hb⟩; refine ⟨_, rfl, ?_⟩; have _ := Q_ (bb_ BK501.out hb); have _ := Q_ (below_step (pb1_ HB.out GE501.out) hb); clear BK501 HB; rename_i BK501 HB; (try clear hb); (try clear hb2); (try clear hk); (try clear hi)))
  (try simp only [Act.put, List.setIfInBounds_toArray, List.set_cons_zero, List.set_cons_succ])
  have H := HS_.out
  clear HS_
  by_cases c6 : t502 < 0
  · rw [if_pos c6] at H
    have c6b0 : decide (t502 < 0) = true := decide_eq_true c6
    clear c6
    (first | rw [c6b0] | (simp only [i64_w, i32_w]; rw [c6b0]) | skip)
    obtain rfl := Option.some.inj H
    go_wp2
    go_ret
    exact ⟨er_, pb1_ HB.out GE501.out⟩
  rw [if_neg c6] at H
  have c6b0 : decide (t502 < 0) = false := decide_eq_false c6
  clear c6
  (first | rw [c6b0] | (simp only [i64_w, i32_w]; rw [c6b0]) | skip)
  replace H := Option.bind_eq_some_iff.mp H
  obtain ⟨t503, A70, H⟩ := H
  (try dsimp only at H)
  have A7 := Q_ A70
  clear A70
  have HS_ := Q_ H
  clear H
  have hcz8 := bc3_ BK501.out
  go_upto_if 19 with (first | ((with_reducible refine gate_callee (f := 10) rfl ?_); refine gl_ (some 17) Try.func10 #[.agg #[.int .i64 a1_0, .slice A1_1 l1_1.length c1_1, .slice A1_2 l1_2.length c1_2], .int .i64 t502] ?_; (with_reducible refine (laws_szMachine.calls a1_0 _ _ l1_1 _ _ l1_2 t502 t503 _ ?side1 ?side2 ?side3 ?side4 A7.out).mono ?_); (case side1 => exact cb_ HR1_1 HB); (case side2 => exact HC1_1.out); (case side3 => exact cb_ HR1_2 HB); (case side4 => exact HC1_2.out); rintro e w9 ⟨rfl, hb⟩; refine ⟨_, rfl, ?_⟩; have _ := Q_ (bb_ BK501.out hb); have _ := Q_ (below_step (pb1_ HB.out GE501.out) hb); clear BK501 HB; rename_i BK501 HB; (try clear hb); (try clear hb2); (try clear hk); (try clear hi)))
  (try simp only [Act.put, List.setIfInBounds_toArray, List.set_cons_zero, List.set_cons_succ])
  have H := HS_.out
  clear HS_
  by_cases c10 : t503 < 0
  · rw [if_pos c10] at H
    have c10b0 : decide (t503 < 0) = true := decide_eq_true c10
    clear c10
    (first | rw [c10b0] | (simp only [i64_w, i32_w]; rw [c10b0]) | skip)
    obtain rfl := Option.some.inj H
    go_wp2
    go_ret
    exact ⟨er_, pb1_ HB.out GE501.out⟩
  rw [if_neg c10] at H
  have c10b0 : decide (t503 < 0) = false := decide_eq_false c10
  clear c10
  (first | rw [c10b0] | (simp only [i64_w, i32_w]; rw [c10b0]) | skip)
  replace H := Option.bind_eq_some_iff.mp H
  obtain ⟨t504, A110, H⟩ := H
  (try dsimp only at H)
  have A11 := Q_ A110
  clear A110
  replace H := Option.bind_eq_some_iff.mp H
  obtain ⟨⟨t507, t508, t511⟩, A120, H⟩ := H
  (try dsimp only at H)
  have A12 := Q_ A120
  clear A120
  replace H := Option.bind_eq_some_iff.mp H
  obtain ⟨t514, A130, H⟩ := H
  (try dsimp only at H)
  have A13 := Q_ A130
  clear A130
  have HS_ := Q_ H
  clear H
  try go_wp2
  have _ := Q_ (blk_drew BK501.out)
  have _ := Q_ (below_drew1 HB.out)
  clear BK501 HB
  rename_i BK501 HB
  refine start_ (n := 6) (S := fun w' => w'.cell? ⟨gb501, 0, none⟩ = some (.int .i64 a1_0) ∧ w'.cell? ⟨gb501, 1, none⟩ = some (.slice A1_1 l1_1.length c1_1) ∧ w'.cell? ⟨gb501, 2, none⟩ = some (.slice A1_2 l1_2.length c1_2)) (ds := []) (tf_ 0 6) (by kernel_rfl) rfl rfl (sb_ BK501.out) (fun hHeld => ?_)
  generalize w9.drew = w14 at BK501 HB hHeld ⊢
  refine pure_ (i := 0) (N := some 20) (v := ?_) (a' := ?_) #[true, false, false, false, false, false] rfl rfl (by kernel_rfl) (fun _ _ _ h => h) (Or.inl ⟨by rfl, ?_⟩) ?_ ?_
  rotate_left
  · intro w'
    go_simp
    (try (simp only [Instr.field]; simp only [underlying, hu26, hu34]; go_simp; simp only [asAgg]; go_simp))
    with_reducible rfl
  rotate_left
  · simp only [Act.put, List.setIfInBounds_toArray, List.set_cons_zero, List.set_cons_succ, i64_w, i32_w]
    rfl
  refine take_ (i := 2) (N := some 22) (v := ?_) (a' := ?_) #[true, false, true, false, false, false] rfl rfl (by kernel_rfl) (fun _ _ _ h => h) (Or.inl ⟨by rfl, ?_⟩) hHeld ?_ ?_
  rotate_left
  · rintro w' ⟨s0, s1, s2⟩
    go_simp
    (try (simp only [Instr.field]; simp only [underlying, hu26, hu34]; go_simp; simp only [asAgg]; go_simp))
    with_reducible rfl
  rotate_left
  · simp only [Act.put, List.setIfInBounds_toArray, List.set_cons_zero, List.set_cons_succ, i64_w, i32_w]
    rfl
  refine one_ (i := 1) (N := some 21) #[true, true, true, false, false, false] rfl rfl (by kernel_rfl) (by decide) (fun K hK => ?_)
  refine goes_ Try.func12 (by kernel_rfl) rfl #[.slice A0 l0.length c0] (by rfl) rfl rfl mp_ ?_
  with_reducible refine (laws_toMachineS.calls k _ _ l0 t504 _ ?side1 ?side2 A11.out).mono ?_
  (case side1 => exact cb_ HR0 HB)
  (case side2 => exact HC0.out)
  rintro e w15 ⟨v505, rfl, ho0, hb⟩
  refine ⟨_, rfl, ?_⟩
  have _ := Q_ (Kd.S_lower ho0 (below_size (pb1_ HB.out GE501.out)))
  have _ := Q_ (bb_ BK501.out hb)
  have _ := Q_ (below_step (pb1_ HB.out GE501.out) hb)
  clear BK501 HB
  rename_i HO506 BK501 HB
  (try clear hb)
  (try clear hb2)
  (try clear hk)
  (try clear hi)
  (try clear ho0)
  refine hK.out _ _ (sb_ BK501.out) (fun hHeld => ?_)
  clear hK K
  refine no_ (some 21) ?_
  refine one_ (i := 3) (N := some 23) #[true, true, true, true, false, false] rfl rfl (by kernel_rfl) (by decide) (fun K hK => ?_)
  refine goes_ Try.func13 (by kernel_rfl) rfl #[.agg #[.int .i64 a1_0, .slice A1_1 l1_1.length c1_1, .slice A1_2 l1_2.length c1_2]] (by rfl) rfl rfl mp_ ?_
  with_reducible refine (laws_toMachine.calls k a1_0 _ _ l1_1 _ _ l1_2 t507 t508 t511 _ ?side1 ?side2 ?side3 ?side4 A12.out).mono ?_
  (case side1 => exact cb_ HR1_1 HB)
  (case side2 => exact HC1_1.out)
  (case side3 => exact cb_ HR1_2 HB)
  (case side4 => exact HC1_2.out)
  rintro e w16 ⟨v509, v512, rfl, ho0, ho1, hb⟩
  refine ⟨_, rfl, ?_⟩
  have _ := Q_ (Kd.S_mono (Kd.S_told (Kd.S_told (Kd.S_old (ps_ HO506.out) hb) (Kd.R_base ho0)) (Kd.R_base ho1)) (fun _ h_ => h_.1))
  have _ := Q_ (Kd.R_lower ho0 (below_size (pb1_ HB.out GE501.out)))
  have _ := Q_ (Kd.R_lower ho1 (below_size (pb1_ HB.out GE501.out)))
  have _ := Q_ (bb_ BK501.out hb)
  have _ := Q_ (below_step (pb1_ HB.out GE501.out) hb)
  clear HO506 BK501 HB
  rename_i HO506 HO510 HO513 BK501 HB
  (try clear hb)
  (try clear hb2)
  (try clear hk)
  (try clear hi)
  (try clear ho0)
  (try clear ho1)
  obtain ⟨Ao17, co17, eo17⟩ := Kd.S_slice HO506.out
  (first | subst eo17 | (injection eo17 with f1_ f2_ f3_; have f4_ := f1_.symm; have f5_ := f3_.symm; clear f1_ f2_ f3_; subst f4_; subst f5_))
  obtain ⟨Ao18, co18, eo18⟩ := Kd.R_slice HO510.out
  (first | subst eo18 | (injection eo18 with f1_ f2_ f3_; have f4_ := f1_.symm; have f5_ := f3_.symm; clear f1_ f2_ f3_; subst f4_; subst f5_))
  obtain ⟨Ao19, co19, eo19⟩ := Kd.R_slice HO513.out
  (first | subst eo19 | (injection eo19 with f1_ f2_ f3_; have f4_ := f1_.symm; have f5_ := f3_.symm; clear f1_ f2_ f3_; subst f4_; subst f5_))
  (try (obtain ⟨Ao_, co_, eo_⟩ := Kd.R_slice HO506.out; subst eo_))
  (try (obtain ⟨Ao_, co_, eo_⟩ := Kd.R_slice HO510.out; subst eo_))
  refine hK.out _ _ (sb_ BK501.out) (fun hHeld => ?_)
  clear hK K
  refine no_ (some 23) ?_
  refine one_ (i := 4) (N := some 24) #[true, true, true, true, true, false] rfl rfl (by kernel_rfl) (by decide) (fun K hK => ?_)
  refine goes_ Try.func11 (by kernel_rfl) rfl #[.slice Ao17 t504.length co17, .agg #[.int .i64 t507, .slice Ao18 t508.length co18, .slice Ao19 t511.length co19]] (by rfl) rfl rfl mp_ ?_
  with_reducible refine (spec_LatestFor.calls k _ _ t504 t507 _ _ t508 _ _ t511 t514 _ ?side1 ?side2 ?side3 ?side4 ?side5 ?side6 A13.out).mono ?_
  (case side1 => exact pc_ ((Kd.S_reads' HO506.out).2.2))
  (case side2 => exact (Kd.S_reads' HO506.out).2.1)
  (case side3 => exact pc_ ((Kd.R_reads' HO510.out).2.2))
  (case side4 => exact (Kd.R_reads' HO510.out).2.1)
  (case side5 => exact pc_ ((Kd.R_reads' HO513.out).2.2))
  (case side6 => exact (Kd.R_reads' HO513.out).2.1)
  rintro e w20 ⟨rfl, hb⟩
  refine ⟨_, rfl, ?_⟩
  have _ := Q_ (Kd.S_below (ps_ HO506.out) hb)
  have _ := Q_ (Kd.R_below (pr_ HO510.out) hb)
  have _ := Q_ (Kd.R_below (pr_ HO513.out) hb)
  have _ := Q_ (bb_ BK501.out hb)
  have _ := Q_ (below_step (pb1_ HB.out GE501.out) hb)
  clear HO506 HO510 HO513 BK501 HB
  rename_i HO506 HO510 HO513 BK501 HB
  (try clear hb)
  (try clear hb2)
  (try clear hk)
  (try clear hi)
  refine hK.out _ _ (sb_ BK501.out) (fun hHeld => ?_)
  clear hK K
  refine no_ (some 24) ?_
  refine pure_ (i := 5) (N := some 6) (v := ?_) (a' := ?_) #[true, true, true, true, true, true] rfl rfl (by kernel_rfl) (fun _ _ _ h => h) (Or.inl ⟨by rfl, ?_⟩) ?_ ?_
  rotate_left
  · intro w'
    go_simp
    (try (simp only [Instr.field]; simp only [underlying, hu26, hu34]; go_simp; simp only [asAgg]; go_simp))
    with_reducible rfl
  rotate_left
  · simp only [Act.put, List.setIfInBounds_toArray, List.set_cons_zero, List.set_cons_succ, i64_w, i32_w]
    rfl
  refine done_ (by kernel_rfl) ?_
  go_upto_region 9 with (fail)
  have H := HS_.out
  clear HS_
  replace H := Option.bind_eq_some_iff.mp H
  obtain ⟨t515, A210, H⟩ := H
  (try dsimp only at H)
  have A21 := Q_ A210
  clear A210
  have HS_ := Q_ H
  clear H
  go_upto_region 10 with (first | ((with_reducible refine gate_callee (f := 12) rfl ?_); refine gl_ (some 26) Try.func12 #[.slice A0 l0.length c0] ?_; (with_reducible refine (laws_toMachineS.calls k _ _ l0 t515 _ ?side1 ?side2 A21.out).mono ?_); (case side1 => exact cb_ HR0 HB); (case side2 => exact HC0.out); rintro e w22 ⟨v516, rfl, ho0, hb⟩; refine ⟨_, rfl, ?_⟩; have _ := Q_ (Kd.S_elder' (ps_ HO506.out) (Kd.S_base ho0) hb); have _ := Q_ (Kd.R_below (pr_ HO510.out) hb); have _ := Q_ (Kd.R_below (pr_ HO513.out) hb); have _ := Q_ (Kd.S_lower (Kd.S_new' (Kd.S_new' (Kd.S_new' ho0 (Kd.S_lt (ps_ HO506.out))) (Kd.R_lt (pr_ HO510.out))) (Kd.R_lt (pr_ HO513.out))) (below_size (pb1_ HB.out GE501.out))); have _ := Q_ (bb_ BK501.out hb); have _ := Q_ (below_step (pb1_ HB.out GE501.out) hb); clear HO506 HO510 HO513 BK501 HB; rename_i HO506 HO510 HO513 HO517 BK501 HB; (try clear hb); (try clear hb2); (try clear hk); (try clear hi); (try clear ho0)))
  (try simp only [Act.put, List.setIfInBounds_toArray, List.set_cons_zero, List.set_cons_succ])
  have H := HS_.out
  clear HS_
  replace H := Option.bind_eq_some_iff.mp H
  obtain ⟨⟨t518, t519, t522⟩, A230, H⟩ := H
  (try dsimp only at H)
  have A23 := Q_ A230
  clear A230
  have HS_ := Q_ H
  clear H
  have hcz24 := bc3_ BK501.out
  go_upto_region 11 with (first | ((with_reducible refine gate_callee (f := 13) rfl ?_); refine gl_ (some 28) Try.func13 #[.agg #[.int .i64 a1_0, .slice A1_1 l1_1.length c1_1, .slice A1_2 l1_2.length c1_2]] ?_; (with_reducible refine (laws_toMachine.calls k a1_0 _ _ l1_1 _ _ l1_2 t518 t519 t522 _ ?side1 ?side2 ?side3 ?side4 A23.out).mono ?_); (case side1 => exact cb_ HR1_1 HB); (case side2 => exact HC1_1.out); (case side3 => exact cb_ HR1_2 HB); (case side4 => exact HC1_2.out); rintro e w25 ⟨v520, v523, rfl, ho0, ho1, hb⟩; refine ⟨_, rfl, ?_⟩; have _ := Q_ (Kd.S_mono (Kd.S_told (Kd.S_told (Kd.S_old (ps_ HO506.out) hb) (Kd.R_base ho0)) (Kd.R_base ho1)) (fun _ h_ => h_.1)); have _ := Q_ (Kd.R_elder' (pr_ HO510.out) (Kd.R_base ho0) hb); have _ := Q_ (Kd.R_elder' (pr_ HO513.out) (Kd.R_base ho1) hb); have _ := Q_ (Kd.S_mono (Kd.S_told (Kd.S_told (Kd.S_old (ps_ HO517.out) hb) (Kd.R_base ho0)) (Kd.R_base ho1)) (fun _ h_ => h_.1)); have _ := Q_ (Kd.R_lower (Kd.R_new' ho0 (Kd.R_lt (pr_ HO510.out))) (below_size (pb1_ HB.out GE501.out))); have _ := Q_ (Kd.R_lower (Kd.R_new' ho1 (Kd.R_lt (pr_ HO513.out))) (below_size (pb1_ HB.out GE501.out))); have _ := Q_ (bb_ BK501.out hb); have _ := Q_ (below_step (pb1_ HB.out GE501.out) hb); clear HO506 HO510 HO513 HO517 BK501 HB; rename_i HO506 HO510 HO513 HO517 HO521 HO524 BK501 HB; (try clear hb); (try clear hb2); (try clear hk); (try clear hi); (try clear ho0); (try clear ho1)) | ((with_reducible refine gate_dst (N := 8) rfl ?_); refine box_event ?hg (N := 8) ?hd (cs := #[.int .i64 0, .slice none 0 0, .slice none 0 0]) (t := 34) ?hr ?_; (case hd => rfl); (case hg => rfl); (case hr => first | (go_simp; done) | (go_simp; rfl)); intro gb525 hg w26 hbox hb; have n0_ := Q_ (Kd.S_below (Kd.S_elderB (ps_ HO506.out) gb525 (Nat.le_of_eq hg.symm)) hb); have n1_ := Q_ (Kd.R_below (pr_ HO510.out) hb); have n2_ := Q_ (Kd.R_below (pr_ HO513.out) hb); have n3_ := Q_ (Kd.S_below (Kd.S_elderB (ps_ HO517.out) gb525 (Nat.le_of_eq hg.symm)) hb); have n4_ := Q_ (Kd.R_below (pr_ HO521.out) hb); have n5_ := Q_ (Kd.R_below (pr_ HO524.out) hb); have n6_ := Q_ (bb_ BK501.out hb); have n7_ := Q_ (below_step (pb1_ HB.out GE501.out) hb); have n8_ := Q_ (hbox); have n9_ := Q_ ((by rw [hg]; exact (below_size (pb1_ HB.out GE501.out)) : w.heap.size ≤ gb525)); have n10_ := n9_; have n11_ := Q_ ((by rw [hg]; exact Nat.ne_of_lt (blk_lt (pk_ BK501.out)) : gb501 ≠ gb525)); have n12_ := Q_ ((by rw [hg]; exact Nat.ne_of_gt (blk_lt (pk_ BK501.out)) : gb525 ≠ gb501)); clear HO506; clear HO510; clear HO513; clear HO517; clear HO521; clear HO524; clear BK501; clear HB; have HO506 := n0_; have HO510 := n1_; have HO513 := n2_; have HO517 := n3_; have HO521 := n4_; have HO524 := n5_; have BK501 := n6_; have HB := n7_; have BK525 := n8_; have GW525 := n9_; have GE525 := n10_; have NB501_525 := n11_; have NB525_501 := n12_; clear n0_ n1_ n2_ n3_ n4_ n5_ n6_ n7_ n8_ n9_ n10_ n11_ n12_; clear hb hbox hg; have hnb27 := NB525_501.out; have hnc27 := NB501_525.out; have hcz28 := bc3_ BK525.out; obtain ⟨Ao29, co29, eo29⟩ := Kd.R_slice HO521.out; subst eo29; obtain ⟨Ao30, co30, eo30⟩ := Kd.R_slice HO524.out; subst eo30))
  (try simp only [Act.put, List.setIfInBounds_toArray, List.set_cons_zero, List.set_cons_succ])
  have H := HS_.out
  clear HS_
  replace H := Option.bind_eq_some_iff.mp H
  obtain ⟨t526, A310, H⟩ := H
  (try dsimp only at H)
  have A31 := Q_ A310
  clear A310
  have HS_ := Q_ H
  clear H
  have hnb32 := NB525_501.out
  have hnc32 := NB501_525.out
  have hcz33 := bc3_ BK525.out
  obtain ⟨Ao34, co34, eo34⟩ := Kd.S_slice HO517.out
  subst eo34
  go_upto_if 34 with (first | ((with_reducible refine gate_callee (f := 14) rfl ?_); refine gl_ (some 31) Try.func14 #[.slice Ao34 t515.length co34, .agg #[.int .i64 t518, .slice Ao29 t519.length co29, .slice Ao30 t522.length co30]] ?_; (with_reducible refine (impl_LatestFor.calls k _ _ t515 t518 _ _ t519 _ _ t522 t526 _ ?side1 ?side2 ?side3 ?side4 ?side5 ?side6 A31.out).mono ?_); (case side1 => refine (Kd.S_reads' (e := 34) (base := w.heap.size) (ok := fun k_ => ((((((True ∧ some k_ ≠ (.slice Ao17 t504.length co17 : Value).ownBlock) ∧ some k_ ≠ (.slice Ao18 t508.length co18 : Value).ownBlock) ∧ some k_ ≠ (.slice Ao19 t511.length co19 : Value).ownBlock) ∧ some k_ ≠ (.slice Ao29 t519.length co29 : Value).ownBlock) ∧ some k_ ≠ (.slice Ao30 t522.length co30 : Value).ownBlock) ∧ k_ ≠ gb525)) (n := t515.length) (c := co34) ?_).2.2; exact (by (with_reducible repeat (first | apply Kd.S_alloc | apply Kd.S_drewN | apply Kd.S_drew)); exact (Kd.S_mono (Kd.S_far (p := ⟨gb525, 2, none⟩) (Kd.S_far (p := ⟨gb525, 1, none⟩) (Kd.S_far (p := ⟨gb525, 0, none⟩) (Kd.S_mono HO517.out (fun k_ hk => (⟨hk, hk.2⟩ : _ ∧ k_ ≠ gb525))) (fun _ hk => hk.2) (.int .i64 t518)) (fun _ hk => hk.2) (.slice Ao29 t519.length co29)) (fun _ hk => hk.2) (.slice Ao30 t522.length co30)) (fun _ h_ => h_.1)))); (case side2 => exact (Kd.S_reads' HO517.out).2.1); (case side3 => refine (Kd.R_reads' (e := 4) (base := w.heap.size) (ok := fun k_ => (True ∧ some k_ ≠ (.slice Ao18 t508.length co18 : Value).ownBlock)) (n := t519.length) (c := co29) ?_).2.2; exact (pr_ (rf3_ HO521.out BK525.out))); (case side4 => exact (Kd.R_reads' HO521.out).2.1); (case side5 => refine (Kd.R_reads' (e := 78) (base := w.heap.size) (ok := fun k_ => (True ∧ some k_ ≠ (.slice Ao19 t511.length co19 : Value).ownBlock)) (n := t522.length) (c := co30) ?_).2.2; exact (pr_ (rf3_ HO524.out BK525.out))); (case side6 => exact (Kd.R_reads' HO524.out).2.1); rintro e w35 ⟨rfl, hb⟩; refine ⟨_, rfl, ?_⟩; have n0_ := Q_ (Kd.S_below (by (with_reducible repeat (first | apply Kd.S_alloc | apply Kd.S_drewN | apply Kd.S_drew)); exact (Kd.S_mono (Kd.S_far (p := ⟨gb525, 2, none⟩) (Kd.S_far (p := ⟨gb525, 1, none⟩) (Kd.S_far (p := ⟨gb525, 0, none⟩) (Kd.S_mono HO506.out (fun k_ hk => (⟨hk, hk.2⟩ : _ ∧ k_ ≠ gb525))) (fun _ hk => hk.2) (.int .i64 t518)) (fun _ hk => hk.2) (.slice Ao29 t519.length co29)) (fun _ hk => hk.2) (.slice Ao30 t522.length co30)) (fun _ h_ => h_.1))) hb); have n1_ := Q_ (Kd.R_below (pr_ (rf3_ HO510.out BK525.out)) hb); have n2_ := Q_ (Kd.R_below (pr_ (rf3_ HO513.out BK525.out)) hb); have n3_ := Q_ (Kd.S_below (by (with_reducible repeat (first | apply Kd.S_alloc | apply Kd.S_drewN | apply Kd.S_drew)); exact (Kd.S_mono (Kd.S_far (p := ⟨gb525, 2, none⟩) (Kd.S_far (p := ⟨gb525, 1, none⟩) (Kd.S_far (p := ⟨gb525, 0, none⟩) (Kd.S_mono HO517.out (fun k_ hk => (⟨hk, hk.2⟩ : _ ∧ k_ ≠ gb525))) (fun _ hk => hk.2) (.int .i64 t518)) (fun _ hk => hk.2) (.slice Ao29 t519.length co29)) (fun _ hk => hk.2) (.slice Ao30 t522.length co30)) (fun _ h_ => h_.1))) hb); have n4_ := Q_ (Kd.R_below (pr_ (rf3_ HO521.out BK525.out)) hb); have n5_ := Q_ (Kd.R_below (pr_ (rf3_ HO524.out BK525.out)) hb); have n6_ := Q_ (blk_below (g := gb501) (o := .cells #[.int .i64 a1_0, .slice A1_1 l1_1.length c1_1, .slice A1_2 l1_2.length c1_2] 26 (0, 0)) (pp_ BK501.out) hb); have n7_ := Q_ (blk_below (g := gb525) (o := .cells #[.int .i64 t518, .slice Ao29 t519.length co29, .slice Ao30 t522.length co30] 34 (0, 0)) (pp_ BK525.out) hb); have n8_ := Q_ (below_step (pb2_ HB.out GE501.out GE525.out) hb); clear HO506; clear HO510; clear HO513; clear HO517; clear HO521; clear HO524; clear BK501; clear BK525; clear HB; have HO506 := n0_; have HO510 := n1_; have HO513 := n2_; have HO517 := n3_; have HO521 := n4_; have HO524 := n5_; have BK501 := n6_; have BK525 := n7_; have HB := n8_; clear n0_ n1_ n2_ n3_ n4_ n5_ n6_ n7_ n8_; (try clear hb); (try clear hb2); (try clear hk); (try clear hi)))
  (try simp only [Act.put, List.setIfInBounds_toArray, List.set_cons_zero, List.set_cons_succ])
  have H := HS_.out
  clear HS_
  by_cases c36 : t526 = t514
  rotate_left
  · rw [if_neg c36] at H
    have c36b0 : (t526 == t514) = false := beq_eq_false_iff_ne.mpr c36
    have c36b1 : (t526 != t514) = true := bne_iff_ne.mpr c36
    (first | rw [c36b0] | (simp only [i64_w, i32_w]; rw [c36b0]) | rw [c36b1] | (have c_ := c36b1; rw [bne] at c_; rw [c_]; clear c_) | skip)
    obtain rfl := Option.some.inj H
    go_wp2
    go_ret
    exact ⟨er_, pb2_ HB.out GE501.out GE525.out⟩
  rw [if_pos c36] at H
  have c36b0 : (t526 == t514) = true := beq_iff_eq.mpr c36
  have c36b1 : (t526 != t514) = false := bne_eq_false_iff_eq.mpr c36
  clear c36
  (first | rw [c36b0] | (simp only [i64_w, i32_w]; rw [c36b0]) | rw [c36b1] | (have c_ := c36b1; rw [bne] at c_; rw [c_]; clear c_) | skip)
  replace H := Option.bind_eq_some_iff.mp H
  obtain ⟨t527, A370, H⟩ := H
  (try dsimp only at H)
  have A37 := Q_ A370
  clear A370
  replace H := Option.bind_eq_some_iff.mp H
  obtain ⟨t530, A380, H⟩ := H
  (try dsimp only at H)
  have A38 := Q_ A380
  clear A380
  have HS_ := Q_ H
  clear H
  go_upto_if 39 with (first | ((with_reducible refine gate_callee (f := 12) rfl ?_); refine gl_ (some 37) Try.func12 #[.slice A0 l0.length c0] ?_; (with_reducible refine (laws_toMachineS.calls k _ _ l0 t527 _ ?side1 ?side2 A37.out).mono ?_); (case side1 => exact cb_ HR0 HB); (case side2 => exact HC0.out); rintro e w39 ⟨v528, rfl, ho0, hb⟩; refine ⟨_, rfl, ?_⟩; have _ := Q_ (Kd.S_elder' (ps_ HO506.out) (Kd.S_base ho0) hb); have _ := Q_ (Kd.R_below (pr_ HO510.out) hb); have _ := Q_ (Kd.R_below (pr_ HO513.out) hb); have _ := Q_ (Kd.S_elder' (ps_ HO517.out) (Kd.S_base ho0) hb); have _ := Q_ (Kd.R_below (pr_ HO521.out) hb); have _ := Q_ (Kd.R_below (pr_ HO524.out) hb); have _ := Q_ (Kd.S_lower (Kd.S_newB (Kd.S_new' (Kd.S_new' (Kd.S_new' (Kd.S_new' (Kd.S_new' (Kd.S_new' ho0 (Kd.S_lt (ps_ HO506.out))) (Kd.R_lt (pr_ HO510.out))) (Kd.R_lt (pr_ HO513.out))) (Kd.S_lt (ps_ HO517.out))) (Kd.R_lt (pr_ HO521.out))) (Kd.R_lt (pr_ HO524.out))) (g := gb525) (o := .cells #[.int .i64 t518, .slice Ao29 t519.length co29, .slice Ao30 t522.length co30] 34 (0, 0)) (pk_ BK525.out)) (below_size (pb2_ HB.out GE501.out GE525.out))); have _ := Q_ (bb_ BK501.out hb); have _ := Q_ (bb_ BK525.out hb); have _ := Q_ (below_step (pb2_ HB.out GE501.out GE525.out) hb); clear HO506 HO510 HO513 HO517 HO521 HO524 BK501 BK525 HB; rename_i HO506 HO510 HO513 HO517 HO521 HO524 HO529 BK501 BK525 HB; (try clear hb); (try clear hb2); (try clear hk); (try clear hi); (try clear ho0); obtain ⟨Ao40, co40, eo40⟩ := Kd.S_slice HO529.out; subst eo40) | ((with_reducible refine gate_callee (f := 15) rfl ?_); refine gl_ (some 38) Try.func15 #[.slice Ao34 t515.length co34, .slice Ao40 t527.length co40] ?_; (with_reducible refine (laws_eqMachineS.calls k _ _ t515 _ _ t527 t530 _ ?side1 ?side2 ?side3 ?side4 A38.out).mono ?_); (case side1 => exact pc_ ((Kd.S_reads' HO517.out).2.2)); (case side2 => exact (Kd.S_reads' HO517.out).2.1); (case side3 => exact pc_ ((Kd.S_reads' HO529.out).2.2)); (case side4 => exact (Kd.S_reads' HO529.out).2.1); rintro e w41 ⟨rfl, hb⟩; refine ⟨_, rfl, ?_⟩; have _ := Q_ (Kd.S_below (ps_ HO506.out) hb); have _ := Q_ (Kd.R_below (pr_ HO510.out) hb); have _ := Q_ (Kd.R_below (pr_ HO513.out) hb); have _ := Q_ (Kd.S_below (ps_ HO517.out) hb); have _ := Q_ (Kd.R_below (pr_ HO521.out) hb); have _ := Q_ (Kd.R_below (pr_ HO524.out) hb); have _ := Q_ (Kd.S_below (ps_ HO529.out) hb); have _ := Q_ (bb_ BK501.out hb); have _ := Q_ (bb_ BK525.out hb); have _ := Q_ (below_step (pb2_ HB.out GE501.out GE525.out) hb); clear HO506 HO510 HO513 HO517 HO521 HO524 HO529 BK501 BK525 HB; rename_i HO506 HO510 HO513 HO517 HO521 HO524 HO529 BK501 BK525 HB; (try clear hb); (try clear hb2); (try clear hk); (try clear hi)))
  (try simp only [Act.put, List.setIfInBounds_toArray, List.set_cons_zero, List.set_cons_succ])
  have H := HS_.out
  clear HS_
  by_cases c42 : t530 = true
  rotate_left
  · replace c42 := Bool.eq_false_iff.mpr c42
    subst c42
    rw [if_neg (show ¬ (false = true) by decide)] at H
    obtain rfl := Option.some.inj H
    go_wp2
    go_ret
    exact ⟨er_, pb2_ HB.out GE501.out GE525.out⟩
  subst c42
  rw [if_pos rfl] at H
  replace H := Option.bind_eq_some_iff.mp H
  obtain ⟨⟨t531, t532, t535⟩, A430, H⟩ := H
  (try dsimp only at H)
  have A43 := Q_ A430
  clear A430
  replace H := Option.bind_eq_some_iff.mp H
  obtain ⟨t538, A440, H⟩ := H
  replace H : (if t538 = true then (some true) else (some false)) = some r := H
  have A44 := Q_ A440
  clear A440
  have HS_ := Q_ H
  clear H
  try go_wp2
  have _ := Q_ (Kd.S_drew HO506.out)
  have _ := Q_ (Kd.R_drew HO510.out)
  have _ := Q_ (Kd.R_drew HO513.out)
  have _ := Q_ (Kd.S_drew HO517.out)
  have _ := Q_ (Kd.R_drew HO521.out)
  have _ := Q_ (Kd.R_drew HO524.out)
  have _ := Q_ (Kd.S_drew HO529.out)
  have _ := Q_ (blk_drew BK501.out)
  have _ := Q_ (blk_drew BK525.out)
  have _ := Q_ (below_drew1 HB.out)
  clear HO506 HO510 HO513 HO517 HO521 HO524 HO529 BK501 BK525 HB
  rename_i HO506 HO510 HO513 HO517 HO521 HO524 HO529 BK501 BK525 HB
  refine start_ (n := 5) (S := fun w' => w'.cell? ⟨gb525, 0, none⟩ = some (.int .i64 t518) ∧ w'.cell? ⟨gb525, 1, none⟩ = some (.slice Ao29 t519.length co29) ∧ w'.cell? ⟨gb525, 2, none⟩ = some (.slice Ao30 t522.length co30) ∧ w'.cell? ⟨gb501, 0, none⟩ = some (.int .i64 a1_0) ∧ w'.cell? ⟨gb501, 1, none⟩ = some (.slice A1_1 l1_1.length c1_1) ∧ w'.cell? ⟨gb501, 2, none⟩ = some (.slice A1_2 l1_2.length c1_2)) (ds := []) (tf_ 0 5) (by kernel_rfl) rfl rfl ⟨(blk_cell BK525.out 0).trans rfl, (blk_cell BK525.out 1).trans rfl, (blk_cell BK525.out 2).trans rfl, (blk_cell BK501.out 0).trans rfl, (blk_cell BK501.out 1).trans rfl, (blk_cell BK501.out 2).trans rfl⟩ (fun hHeld => ?_)
  generalize w41.drew = w45 at HO506 HO510 HO513 HO517 HO521 HO524 HO529 BK501 BK525 HB hHeld ⊢
  refine take_ (i := 0) (N := some 40) (v := ?_) (a' := ?_) #[true, false, false, false, false] rfl rfl (by kernel_rfl) (fun _ _ _ h => h) (Or.inl ⟨by rfl, ?_⟩) hHeld ?_ ?_
  rotate_left
  · rintro w' ⟨s0, s1, s2, s3, s4, s5⟩
    go_simp
    (try (simp only [Instr.field]; simp only [underlying, hu26, hu34]; go_simp; simp only [asAgg]; go_simp))
    with_reducible rfl
  rotate_left
  · simp only [Act.put, List.setIfInBounds_toArray, List.set_cons_zero, List.set_cons_succ, i64_w, i32_w]
    rfl
  refine take_ (i := 1) (N := some 41) (v := ?_) (a' := ?_) #[true, true, false, false, false] rfl rfl (by kernel_rfl) (fun _ _ _ h => h) (Or.inl ⟨by rfl, ?_⟩) hHeld ?_ ?_
  rotate_left
  · rintro w' ⟨s0, s1, s2, s3, s4, s5⟩
    go_simp
    (try (simp only [Instr.field]; simp only [underlying, hu26, hu34]; go_simp; simp only [asAgg]; go_simp))
    with_reducible rfl
  rotate_left
  · simp only [Act.put, List.setIfInBounds_toArray, List.set_cons_zero, List.set_cons_succ, i64_w, i32_w]
    rfl
  refine one_ (i := 2) (N := some 42) #[true, true, true, false, false] rfl rfl (by kernel_rfl) (by decide) (fun K hK => ?_)
  refine goes_ Try.func13 (by kernel_rfl) rfl #[.agg #[.int .i64 a1_0, .slice A1_1 l1_1.length c1_1, .slice A1_2 l1_2.length c1_2]] (by rfl) rfl rfl mp_ ?_
  with_reducible refine (laws_toMachine.calls k a1_0 _ _ l1_1 _ _ l1_2 t531 t532 t535 _ ?side1 ?side2 ?side3 ?side4 A43.out).mono ?_
  (case side1 => exact cb_ HR1_1 HB)
  (case side2 => exact HC1_1.out)
  (case side3 => exact cb_ HR1_2 HB)
  (case side4 => exact HC1_2.out)
  rintro e w46 ⟨v533, v536, rfl, ho0, ho1, hb⟩
  refine ⟨_, rfl, ?_⟩
  have _ := Q_ (Kd.S_mono (Kd.S_told (Kd.S_told (Kd.S_old (ps_ HO506.out) hb) (Kd.R_base ho0)) (Kd.R_base ho1)) (fun _ h_ => h_.1))
  have _ := Q_ (Kd.R_elder' (pr_ HO510.out) (Kd.R_base ho0) hb)
  have _ := Q_ (Kd.R_elder' (pr_ HO513.out) (Kd.R_base ho1) hb)
  have _ := Q_ (Kd.S_mono (Kd.S_told (Kd.S_told (Kd.S_old (ps_ HO517.out) hb) (Kd.R_base ho0)) (Kd.R_base ho1)) (fun _ h_ => h_.1))
  have _ := Q_ (Kd.R_elder' (pr_ HO521.out) (Kd.R_base ho0) hb)
  have _ := Q_ (Kd.R_elder' (pr_ HO524.out) (Kd.R_base ho1) hb)
  have _ := Q_ (Kd.S_mono (Kd.S_told (Kd.S_told (Kd.S_old (ps_ HO529.out) hb) (Kd.R_base ho0)) (Kd.R_base ho1)) (fun _ h_ => h_.1))
  have _ := Q_ (Kd.R_lower (Kd.R_new' (Kd.R_new' ho0 (Kd.R_lt (pr_ HO510.out))) (Kd.R_lt (pr_ HO521.out))) (below_size (pb2_ HB.out GE501.out GE525.out)))
  have _ := Q_ (Kd.R_lower (Kd.R_new' (Kd.R_new' ho1 (Kd.R_lt (pr_ HO513.out))) (Kd.R_lt (pr_ HO524.out))) (below_size (pb2_ HB.out GE501.out GE525.out)))
  have _ := Q_ (bb_ BK501.out hb)
  have _ := Q_ (bb_ BK525.out hb)
  have _ := Q_ (below_step (pb2_ HB.out GE501.out GE525.out) hb)
  clear HO506 HO510 HO513 HO517 HO521 HO524 HO529 BK501 BK525 HB
  rename_i HO506 HO510 HO513 HO517 HO521 HO524 HO529 HO534 HO537 BK501 BK525 HB
  (try clear hb)
  (try clear hb2)
  (try clear hk)
  (try clear hi)
  (try clear ho0)
  (try clear ho1)
  obtain ⟨Ao47, co47, eo47⟩ := Kd.R_slice HO534.out
  (first | subst eo47 | (injection eo47 with f1_ f2_ f3_; have f4_ := f1_.symm; have f5_ := f3_.symm; clear f1_ f2_ f3_; subst f4_; subst f5_))
  obtain ⟨Ao48, co48, eo48⟩ := Kd.R_slice HO537.out
  (first | subst eo48 | (injection eo48 with f1_ f2_ f3_; have f4_ := f1_.symm; have f5_ := f3_.symm; clear f1_ f2_ f3_; subst f4_; subst f5_))
  refine hK.out _ _ ⟨(blk_cell BK525.out 0).trans rfl, (blk_cell BK525.out 1).trans rfl, (blk_cell BK525.out 2).trans rfl, (blk_cell BK501.out 0).trans rfl, (blk_cell BK501.out 1).trans rfl, (blk_cell BK501.out 2).trans rfl⟩ (fun hHeld => ?_)
  clear hK K
  refine no_ (some 42) ?_
  refine one_ (i := 3) (N := some 43) #[true, true, true, true, false] rfl rfl (by kernel_rfl) (by decide) (fun K hK => ?_)
  refine goes_ Try.func16 (by kernel_rfl) rfl #[.agg #[.int .i64 t518, .slice Ao29 t519.length co29, .slice Ao30 t522.length co30], .agg #[.int .i64 t531, .slice Ao47 t532.length co47, .slice Ao48 t535.length co48]] (by rfl) rfl rfl mp_ ?_
  with_reducible refine (laws_eqMachine.calls k t518 _ _ t519 _ _ t522 t531 _ _ t532 _ _ t535 t538 _ ?side1 ?side2 ?side3 ?side4 ?side5 ?side6 ?side7 ?side8 A44.out).mono ?_
  (case side1 => exact pc_ ((Kd.R_reads' HO521.out).2.2))
  (case side2 => exact (Kd.R_reads' HO521.out).2.1)
  (case side3 => exact pc_ ((Kd.R_reads' HO524.out).2.2))
  (case side4 => exact (Kd.R_reads' HO524.out).2.1)
  (case side5 => exact pc_ ((Kd.R_reads' HO534.out).2.2))
  (case side6 => exact (Kd.R_reads' HO534.out).2.1)
  (case side7 => exact pc_ ((Kd.R_reads' HO537.out).2.2))
  (case side8 => exact (Kd.R_reads' HO537.out).2.1)
  rintro e w49 ⟨rfl, hb⟩
  refine ⟨_, rfl, ?_⟩
  have _ := Q_ (Kd.S_below (ps_ HO506.out) hb)
  have _ := Q_ (Kd.R_below (pr_ HO510.out) hb)
  have _ := Q_ (Kd.R_below (pr_ HO513.out) hb)
  have _ := Q_ (Kd.S_below (ps_ HO517.out) hb)
  have _ := Q_ (Kd.R_below (pr_ HO521.out) hb)
  have _ := Q_ (Kd.R_below (pr_ HO524.out) hb)
  have _ := Q_ (Kd.S_below (ps_ HO529.out) hb)
  have _ := Q_ (Kd.R_below (pr_ HO534.out) hb)
  have _ := Q_ (Kd.R_below (pr_ HO537.out) hb)
  have _ := Q_ (bb_ BK501.out hb)
  have _ := Q_ (bb_ BK525.out hb)
  have _ := Q_ (below_step (pb2_ HB.out GE501.out GE525.out) hb)
  clear HO506 HO510 HO513 HO517 HO521 HO524 HO529 HO534 HO537 BK501 BK525 HB
  rename_i HO506 HO510 HO513 HO517 HO521 HO524 HO529 HO534 HO537 BK501 BK525 HB
  (try clear hb)
  (try clear hb2)
  (try clear hk)
  (try clear hi)
  refine hK.out _ _ ⟨(blk_cell BK525.out 0).trans rfl, (blk_cell BK525.out 1).trans rfl, (blk_cell BK525.out 2).trans rfl, (blk_cell BK501.out 0).trans rfl, (blk_cell BK501.out 1).trans rfl, (blk_cell BK501.out 2).trans rfl⟩ (fun hHeld => ?_)
  clear hK K
  refine no_ (some 43) ?_
  refine pure_ (i := 4) (N := some 44) (v := ?_) (a' := ?_) #[true, true, true, true, true] rfl rfl (by kernel_rfl) (fun _ _ _ h => h) (Or.inl ⟨by rfl, ?_⟩) ?_ ?_
  rotate_left
  · intro w'
    go_simp
    (try (simp only [Instr.field]; simp only [underlying, hu26, hu34]; go_simp; simp only [asAgg]; go_simp))
    with_reducible rfl
  rotate_left
  · simp only [Act.put, List.setIfInBounds_toArray, List.set_cons_zero, List.set_cons_succ, i64_w, i32_w]
    rfl
  refine done_ (by kernel_rfl) ?_
  go_upto_if 44 with (fail)
  have H := HS_.out
  clear HS_
  by_cases c50 : t538 = true
  rotate_left
  · replace c50 := Bool.eq_false_iff.mpr c50
    subst c50
    rw [if_neg (show ¬ (false = true) by decide)] at H
    obtain rfl := Option.some.inj H
    go_wp2
    go_ret
    exact ⟨er_, pb2_ HB.out GE501.out GE525.out⟩
  subst c50
  rw [if_pos rfl] at H
  obtain rfl := Option.some.inj H
  go_wp2
  go_ret
  exact ⟨er_, pb2_ HB.out GE501.out GE525.out⟩

/-- THE ONE PURE STATEMENT of laws_FnExactLatestFor: yours. -/
def laws_FnExactLatestFor.Pure : Prop := ∀ (x0 : List (S26)) (x1 : S26), (x0.length * 56 ≤ 140737488351232 ∧ ∀ y ∈ x0, Q26 y) → Q26 x1 → ∃ k, laws_FnExactLatestFor.f k x0 x1.f0 x1.f1 x1.f2 = some true

end Go.Proofs.Ytldcchjbaglppaa.Print
