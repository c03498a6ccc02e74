-- Written by a program of this session (printx.py) out of the translation; Lean checks it.
import Derived.Test.YtldcchjbaglppaaPrint0
import Derived.Test.YtldcchjbaglppaaPrint1
import Derived.Test.YtldcchjbaglppaaPrint2
import Derived.Test.YtldcchjbaglppaaPrint3
import Derived.Test.YtldcchjbaglppaaPrint8
import Derived.Test.YtldcchjbaglppaaPrint15
import Derived.Test.YtldcchjbaglppaaPrint16
namespace Go.Proofs.Ytldcchjbaglppaa.Print
open Go.RowKit Go.Proofs.YtldcchjbaglppaaW.PrintWords Go.Proofs.YtldcchjbaglppaaW.PrintLast Go.Proofs.YtldcchjbaglppaaW.PrintMore Go.Proofs.Ytldcchjbaglppaa.Short
attribute [local go_sem] max2_int min2_int max_two min_two max_three min_three max_four min_four   -- for this text's walks alone
set_option linter.unusedVariables false
set_option linter.unusedSimpArgs false

/-! ### laws_FnExactWorksWith: function 4 -/
def laws_FnExactWorksWith.j0 : Nat → List (S26) → List Int → List Int → Bool → Int → List Bool → List (S80) → Option (Bool)
  | 0, _, _, _, _, _, _, _ => none
  | k + 1, x0, x6, x9, x63, x506000, x506001, x506002 => if x63 = true then (some false) else ((laws_markIntS.f k x9 1).bind fun bt553 => ((laws_heldIntS.f k bt553.2 1).bind fun t555 => (if t555 < 0 then (some false) else (if t555 = bt553.1 then ((laws_toMachineS.f k x0).bind fun t556 => ((laws_toMachine.f k x506000 x506001 x506002).bind fun bt559 => ((impl_WorksWith.f k t556 bt559.1 bt559.2.1 bt559.2.2).bind fun t566 => ((laws_eqIntS.f k t566 x6).bind fun t569 => (if t569 = true then ((laws_heldIntS.f k bt553.2 1).bind fun t570 => (if t570 < 0 then (some false) else (if t570 = bt553.1 then (some true) else (some false)))) else (some false)))))) else (some false)))))
def laws_FnExactWorksWith.f (k : Nat) (l0 : List (S26)) (a1_0 : Int) (l1_1 : List Bool) (l1_2 : List (S80)) : Option (Bool) := (laws_szMachineS.f k l0 1048576).bind fun t506 => (if t506 < 0 then (some true) else ((laws_szMachine.f a1_0 l1_1 l1_2 t506).bind fun t507 => (if t507 < 0 then (some true) else ((laws_toMachineS.f k l0).bind fun t508 => ((laws_toMachine.f k a1_0 l1_1 l1_2).bind fun bt511 => ((spec_WorksWith.f k t508 bt511.1 bt511.2.1 bt511.2.2).bind fun t518 => ((laws_toMachineS.f k l0).bind fun t521 => ((laws_toMachine.f k a1_0 l1_1 l1_2).bind fun bt524 => ((impl_WorksWith.f k t521 bt524.1 bt524.2.1 bt524.2.2).bind fun t532 => ((laws_eqIntS.f k t532 t518).bind fun t535 => (if t535 = true then ((laws_toMachineS.f k l0).bind fun t536 => ((laws_eqMachineS.f k t521 t536).bind fun t539 => (if t539 = true then ((laws_toMachine.f k a1_0 l1_1 l1_2).bind fun bt540 => ((laws_eqMachine.f k bt524.1 bt524.2.1 bt524.2.2 bt540.1 bt540.2.1 bt540.2.2).bind fun t547 => (if t547 = true then ((laws_markMachineS.f k t521 1).bind fun t548 => ((laws_markMachine.f k bt524.1 bt524.2.1 bt524.2.2 t548).bind fun bt549 => (if bt549.1 < 0 then (laws_FnExactWorksWith.j0 k l0 t518 t532 true a1_0 l1_1 l1_2) else ((laws_eqIntS.f k t532 t518).bind fun t552 => (laws_FnExactWorksWith.j0 k l0 t518 t532 (!t552) a1_0 l1_1 l1_2))))) else (some false)))) else (some false)))) else (some false))))))))))))
theorem laws_FnExactWorksWith.mono_l : ∀ k, (∀ y0 y1 y2 y3 y4 y5 y6, LeO (laws_FnExactWorksWith.j0 k y0 y1 y2 y3 y4 y5 y6) (laws_FnExactWorksWith.j0 (k + 1) y0 y1 y2 y3 y4 y5 y6))
  | 0 => fun _ _ _ _ _ _ _ r h => by simp [laws_FnExactWorksWith.j0] at h
  | k + 1 => by
    have ih0 := laws_FnExactWorksWith.mono_l k
    · intro y0 y1 y2 y3 y4 y5 y6
      unfold laws_FnExactWorksWith.j0
      repeat' first
      | (with_reducible exact ih0 _ _ _ _ _ _ _)
      | (with_reducible exact impl_WorksWith.mono _ _ _ _ _)
      | (with_reducible exact laws_eqIntS.mono _ _ _)
      | (with_reducible exact laws_eqMachine.mono _ _ _ _ _ _ _)
      | (with_reducible exact laws_eqMachineS.mono _ _ _)
      | (with_reducible exact laws_heldIntS.mono _ _ _)
      | (with_reducible exact laws_markIntS.mono _ _ _)
      | (with_reducible exact laws_markMachine.mono _ _ _ _ _)
      | (with_reducible exact laws_markMachineS.mono _ _ _)
      | (with_reducible exact laws_szMachineS.mono _ _ _)
      | (with_reducible exact laws_toMachine.mono _ _ _ _)
      | (with_reducible exact laws_toMachineS.mono _ _)
      | (with_reducible exact spec_WorksWith.mono _ _ _ _ _)
      | (with_reducible exact LeO.refl _)
      | (with_reducible exact LeO.none _)
      | (with_reducible refine LeO.ite ?_ ?_)
      | (with_reducible refine LeO.bind ?_ (fun _ => ?_))
      | exact ih0 _ _ _ _ _ _ _
      | exact impl_WorksWith.mono _ _ _ _ _
      | exact laws_eqIntS.mono _ _ _
      | exact laws_eqMachine.mono _ _ _ _ _ _ _
      | exact laws_eqMachineS.mono _ _ _
      | exact laws_heldIntS.mono _ _ _
      | exact laws_markIntS.mono _ _ _
      | exact laws_markMachine.mono _ _ _ _ _
      | exact laws_markMachineS.mono _ _ _
      | exact laws_szMachineS.mono _ _ _
      | exact laws_toMachine.mono _ _ _ _
      | exact laws_toMachineS.mono _ _
      | exact spec_WorksWith.mono _ _ _ _ _
      | exact LeO.none _
      | refine LeO.ite ?_ ?_
      | refine LeO.bind ?_ (fun _ => ?_)
theorem laws_FnExactWorksWith.mono : ∀ a0 a1 a2 a3 k, LeO (laws_FnExactWorksWith.f k a0 a1 a2 a3) (laws_FnExactWorksWith.f (k + 1) a0 a1 a2 a3) := by
  intro a0 a1 a2 a3 k
  have ih0 := laws_FnExactWorksWith.mono_l k
  unfold laws_FnExactWorksWith.f
  repeat' first
      | (with_reducible exact ih0 _ _ _ _ _ _ _)
      | (with_reducible exact impl_WorksWith.mono _ _ _ _ _)
      | (with_reducible exact laws_eqIntS.mono _ _ _)
      | (with_reducible exact laws_eqMachine.mono _ _ _ _ _ _ _)
      | (with_reducible exact laws_eqMachineS.mono _ _ _)
      | (with_reducible exact laws_heldIntS.mono _ _ _)
      | (with_reducible exact laws_markIntS.mono _ _ _)
      | (with_reducible exact laws_markMachine.mono _ _ _ _ _)
      | (with_reducible exact laws_markMachineS.mono _ _ _)
      | (with_reducible exact laws_szMachineS.mono _ _ _)
      | (with_reducible exact laws_toMachine.mono _ _ _ _)
      | (with_reducible exact laws_toMachineS.mono _ _)
      | (with_reducible exact spec_WorksWith.mono _ _ _ _ _)
      | (with_reducible exact LeO.refl _)
      | (with_reducible exact LeO.none _)
      | (with_reducible refine LeO.ite ?_ ?_)
      | (with_reducible refine LeO.bind ?_ (fun _ => ?_))
      | exact ih0 _ _ _ _ _ _ _
      | exact impl_WorksWith.mono _ _ _ _ _
      | exact laws_eqIntS.mono _ _ _
      | exact laws_eqMachine.mono _ _ _ _ _ _ _
      | exact laws_eqMachineS.mono _ _ _
      | exact laws_heldIntS.mono _ _ _
      | exact laws_markIntS.mono _ _ _
      | exact laws_markMachine.mono _ _ _ _ _
      | exact laws_markMachineS.mono _ _ _
      | exact laws_szMachineS.mono _ _ _
      | exact laws_toMachine.mono _ _ _ _
      | exact laws_toMachineS.mono _ _
      | exact spec_WorksWith.mono _ _ _ _ _
      | exact LeO.none _
      | refine LeO.ite ?_ ?_
      | refine LeO.bind ?_ (fun _ => ?_)
set_option maxHeartbeats 8000000 in
set_option maxRecDepth 100000 in
theorem laws_FnExactWorksWith.calls (k : Nat) (A0 : Option Addr) (c0 : Nat) (l0 : List (S26)) (a1_0 : Int) (A1_1 : Option Addr) (c1_1 : Nat) (l1_1 : List Bool) (A1_2 : Option Addr) (c1_2 : Nat) (l1_2 : List (S80)) (r : Bool) (w : World) (hr0 : Kd.C k26 w A0 l0.length l0) (hc0 : l0.length ≤ c0) (hr1_1 : Kd.C Kd.bool w A1_1 l1_1.length l1_1) (hc1_1 : l1_1.length ≤ c1_1) (hr1_2 : Kd.C k80 w A1_2 l1_2.length l1_2) (hc1_2 : l1_2.length ≤ c1_2) (h : laws_FnExactWorksWith.f k l0 a1_0 l1_1 l1_2 = some r) :
    Calls Try.prog 4 #[.slice A0 l0.length c0, .agg #[.int .i64 a1_0, .slice A1_1 l1_1.length c1_1, .slice A1_2 l1_2.length c1_2]] w fun e w' => e = .returned (.bool r) ∧ Below w.heap.size w w' := by
  have hu26 := Try.underlying26
  have hu34 := Try.underlying34
  have HR0 := Q_ hr0
  have HC0 := Q_ hc0
  clear hr0 hc0
  have HR1_1 := Q_ hr1_1
  have HC1_1 := Q_ hc1_1
  clear hr1_1 hc1_1
  have HR1_2 := Q_ hr1_2
  have HC1_2 := Q_ hc1_2
  clear hr1_2 hc1_2
  have HB := Q_ (Below.refl w.heap.size w)
  have H : ((laws_szMachineS.f k l0 1048576).bind fun t506 => (if t506 < 0 then (some true) else ((laws_szMachine.f a1_0 l1_1 l1_2 t506).bind fun t507 => (if t507 < 0 then (some true) else ((laws_toMachineS.f k l0).bind fun t508 => ((laws_toMachine.f k a1_0 l1_1 l1_2).bind fun bt511 => ((spec_WorksWith.f k t508 bt511.1 bt511.2.1 bt511.2.2).bind fun t518 => ((laws_toMachineS.f k l0).bind fun t521 => ((laws_toMachine.f k a1_0 l1_1 l1_2).bind fun bt524 => ((impl_WorksWith.f k t521 bt524.1 bt524.2.1 bt524.2.2).bind fun t532 => ((laws_eqIntS.f k t532 t518).bind fun t535 => (if t535 = true then ((laws_toMachineS.f k l0).bind fun t536 => ((laws_eqMachineS.f k t521 t536).bind fun t539 => (if t539 = true then ((laws_toMachine.f k a1_0 l1_1 l1_2).bind fun bt540 => ((laws_eqMachine.f k bt524.1 bt524.2.1 bt524.2.2 bt540.1 bt540.2.1 bt540.2.2).bind fun t547 => (if t547 = true then ((laws_markMachineS.f k t521 1).bind fun t548 => ((laws_markMachine.f k bt524.1 bt524.2.1 bt524.2.2 t548).bind fun bt549 => (if bt549.1 < 0 then (laws_FnExactWorksWith.j0 k l0 t518 t532 true a1_0 l1_1 l1_2) else ((laws_eqIntS.f k t532 t518).bind fun t552 => (laws_FnExactWorksWith.j0 k l0 t518 t532 (!t552) a1_0 l1_1 l1_2))))) else (some false)))) else (some false)))) else (some false))))))))))))) = some r := h
  clear h
  have HS_ := Q_ H
  clear H
  go_enter Try.func4, Try.ntmps4
  go_upto_region 2 with (first | ((with_reducible refine gate_dst (N := 3) rfl ?_); refine box_event ?hg (N := 3) ?hd (cs := #[.int .i64 a1_0, .slice A1_1 l1_1.length c1_1, .slice A1_2 l1_2.length c1_2]) (t := 26) ?hr ?_; (case hd => rfl); (case hg => rfl); (case hr => first | (go_simp; done) | (go_simp; rfl)); intro gb505 hg w3 hbox hb; have n0_ := Q_ (below_step (pb_ HB.out) hb); have n1_ := Q_ (hbox); have n2_ := Q_ ((by rw [hg]; exact (below_size (pb_ HB.out)) : w.heap.size ≤ gb505)); have n3_ := n2_; clear HB; have HB := n0_; have BK505 := n1_; have GW505 := n2_; have GE505 := n3_; clear n0_ n1_ n2_ n3_; clear hb hbox hg))
  (try simp only [Act.put, List.setIfInBounds_toArray, List.set_cons_zero, List.set_cons_succ])
  have H := HS_.out
  clear HS_
  replace H := Option.bind_eq_some_iff.mp H
  obtain ⟨t506, A40, H⟩ := H
  (try dsimp only at H)
  have A4 := Q_ A40
  clear A40
  have HS_ := Q_ H
  clear H
  go_upto_if 18 with (first | ((with_reducible refine gate_callee (f := 9) rfl ?_); refine gl_ (some 16) Try.func9 #[.slice A0 l0.length c0, .int .i64 1048576] ?_; (with_reducible refine (laws_szMachineS.calls k _ _ l0 1048576 t506 _ ?side1 ?side2 A4.out).mono ?_); (case side1 => exact cb_ HR0 HB); (case side2 => exact HC0.out); rintro e w5 ⟨rfl, hb⟩; refine ⟨_, rfl, ?_⟩; have _ := Q_ (bb_ BK505.out hb); have _ := Q_ (below_step (pb1_ HB.out GE505.out) hb); clear BK505 HB; rename_i BK505 HB; (try clear hb); (try clear hb2); (try clear hk); (try clear hi)))
  (try simp only [Act.put, List.setIfInBounds_toArray, List.set_cons_zero, List.set_cons_succ])
  have H := HS_.out
  clear HS_
  by_cases c6 : t506 < 0
  · rw [if_pos c6] at H
    have c6b0 : decide (t506 < 0) = true := decide_eq_true c6
    clear c6
    (first | rw [c6b0] | (simp only [i64_w, i32_w]; rw [c6b0]) | skip)
    obtain rfl := Option.some.inj H
    go_wp2
    go_ret
    exact ⟨er_, pb1_ HB.out GE505.out⟩
  rw [if_neg c6] at H
  have c6b0 : decide (t506 < 0) = false := decide_eq_false c6
  clear c6
  (first | rw [c6b0] | (simp only [i64_w, i32_w]; rw [c6b0]) | skip)
  replace H := Option.bind_eq_some_iff.mp H
  obtain ⟨t507, A70, H⟩ := H
  (try dsimp only at H)
  have A7 := Q_ A70
  clear A70
  have HS_ := Q_ H
  clear H
  have hcz8 := bc3_ BK505.out
  go_upto_if 23 with (first | ((with_reducible refine gate_callee (f := 10) rfl ?_); refine gl_ (some 21) Try.func10 #[.agg #[.int .i64 a1_0, .slice A1_1 l1_1.length c1_1, .slice A1_2 l1_2.length c1_2], .int .i64 t506] ?_; (with_reducible refine (laws_szMachine.calls a1_0 _ _ l1_1 _ _ l1_2 t506 t507 _ ?side1 ?side2 ?side3 ?side4 A7.out).mono ?_); (case side1 => exact cb_ HR1_1 HB); (case side2 => exact HC1_1.out); (case side3 => exact cb_ HR1_2 HB); (case side4 => exact HC1_2.out); rintro e w9 ⟨rfl, hb⟩; refine ⟨_, rfl, ?_⟩; have _ := Q_ (bb_ BK505.out hb); have _ := Q_ (below_step (pb1_ HB.out GE505.out) hb); clear BK505 HB; rename_i BK505 HB; (try clear hb); (try clear hb2); (try clear hk); (try clear hi)))
  (try simp only [Act.put, List.setIfInBounds_toArray, List.set_cons_zero, List.set_cons_succ])
  have H := HS_.out
  clear HS_
  by_cases c10 : t507 < 0
  · rw [if_pos c10] at H
    have c10b0 : decide (t507 < 0) = true := decide_eq_true c10
    clear c10
    (first | rw [c10b0] | (simp only [i64_w, i32_w]; rw [c10b0]) | skip)
    obtain rfl := Option.some.inj H
    go_wp2
    go_ret
    exact ⟨er_, pb1_ HB.out GE505.out⟩
  rw [if_neg c10] at H
  have c10b0 : decide (t507 < 0) = false := decide_eq_false c10
  clear c10
  (first | rw [c10b0] | (simp only [i64_w, i32_w]; rw [c10b0]) | skip)
  replace H := Option.bind_eq_some_iff.mp H
  obtain ⟨t508, A110, H⟩ := H
  (try dsimp only at H)
  have A11 := Q_ A110
  clear A110
  replace H := Option.bind_eq_some_iff.mp H
  obtain ⟨⟨t511, t512, t515⟩, A120, H⟩ := H
  (try dsimp only at H)
  have A12 := Q_ A120
  clear A120
  replace H := Option.bind_eq_some_iff.mp H
  obtain ⟨t518, A130, H⟩ := H
  (try dsimp only at H)
  have A13 := Q_ A130
  clear A130
  have HS_ := Q_ H
  clear H
  try go_wp2
  have _ := Q_ (blk_drew BK505.out)
  have _ := Q_ (below_drew1 HB.out)
  clear BK505 HB
  rename_i BK505 HB
  refine start_ (n := 6) (S := fun w' => w'.cell? ⟨gb505, 0, none⟩ = some (.int .i64 a1_0) ∧ w'.cell? ⟨gb505, 1, none⟩ = some (.slice A1_1 l1_1.length c1_1) ∧ w'.cell? ⟨gb505, 2, none⟩ = some (.slice A1_2 l1_2.length c1_2)) (ds := []) (tf_ 0 6) (by kernel_rfl) rfl rfl (sb_ BK505.out) (fun hHeld => ?_)
  generalize w9.drew = w14 at BK505 HB hHeld ⊢
  refine pure_ (i := 0) (N := some 24) (v := ?_) (a' := ?_) #[true, false, false, false, false, false] rfl rfl (by kernel_rfl) (fun _ _ _ h => h) (Or.inl ⟨by rfl, ?_⟩) ?_ ?_
  rotate_left
  · intro w'
    go_simp
    (try (simp only [Instr.field]; simp only [underlying, hu26, hu34]; go_simp; simp only [asAgg]; go_simp))
    with_reducible rfl
  rotate_left
  · simp only [Act.put, List.setIfInBounds_toArray, List.set_cons_zero, List.set_cons_succ, i64_w, i32_w]
    rfl
  refine take_ (i := 2) (N := some 26) (v := ?_) (a' := ?_) #[true, false, true, false, false, false] rfl rfl (by kernel_rfl) (fun _ _ _ h => h) (Or.inl ⟨by rfl, ?_⟩) hHeld ?_ ?_
  rotate_left
  · rintro w' ⟨s0, s1, s2⟩
    go_simp
    (try (simp only [Instr.field]; simp only [underlying, hu26, hu34]; go_simp; simp only [asAgg]; go_simp))
    with_reducible rfl
  rotate_left
  · simp only [Act.put, List.setIfInBounds_toArray, List.set_cons_zero, List.set_cons_succ, i64_w, i32_w]
    rfl
  refine one_ (i := 1) (N := some 25) #[true, true, true, false, false, false] rfl rfl (by kernel_rfl) (by decide) (fun K hK => ?_)
  refine goes_ Try.func12 (by kernel_rfl) rfl #[.slice A0 l0.length c0] (by rfl) rfl rfl mp_ ?_
  with_reducible refine (laws_toMachineS.calls k _ _ l0 t508 _ ?side1 ?side2 A11.out).mono ?_
  (case side1 => exact cb_ HR0 HB)
  (case side2 => exact HC0.out)
  rintro e w15 ⟨v509, rfl, ho0, hb⟩
  refine ⟨_, rfl, ?_⟩
  have _ := Q_ (Kd.S_lower ho0 (below_size (pb1_ HB.out GE505.out)))
  have _ := Q_ (bb_ BK505.out hb)
  have _ := Q_ (below_step (pb1_ HB.out GE505.out) hb)
  clear BK505 HB
  rename_i HO510 BK505 HB
  (try clear hb)
  (try clear hb2)
  (try clear hk)
  (try clear hi)
  (try clear ho0)
  refine hK.out _ _ (sb_ BK505.out) (fun hHeld => ?_)
  clear hK K
  refine no_ (some 25) ?_
  refine one_ (i := 3) (N := some 27) #[true, true, true, true, false, false] rfl rfl (by kernel_rfl) (by decide) (fun K hK => ?_)
  refine goes_ Try.func13 (by kernel_rfl) rfl #[.agg #[.int .i64 a1_0, .slice A1_1 l1_1.length c1_1, .slice A1_2 l1_2.length c1_2]] (by rfl) rfl rfl mp_ ?_
  with_reducible refine (laws_toMachine.calls k a1_0 _ _ l1_1 _ _ l1_2 t511 t512 t515 _ ?side1 ?side2 ?side3 ?side4 A12.out).mono ?_
  (case side1 => exact cb_ HR1_1 HB)
  (case side2 => exact HC1_1.out)
  (case side3 => exact cb_ HR1_2 HB)
  (case side4 => exact HC1_2.out)
  rintro e w16 ⟨v513, v516, rfl, ho0, ho1, hb⟩
  refine ⟨_, rfl, ?_⟩
  have _ := Q_ (Kd.S_mono (Kd.S_told (Kd.S_told (Kd.S_old (ps_ HO510.out) hb) (Kd.R_base ho0)) (Kd.R_base ho1)) (fun _ h_ => h_.1))
  have _ := Q_ (Kd.R_lower ho0 (below_size (pb1_ HB.out GE505.out)))
  have _ := Q_ (Kd.R_lower ho1 (below_size (pb1_ HB.out GE505.out)))
  have _ := Q_ (bb_ BK505.out hb)
  have _ := Q_ (below_step (pb1_ HB.out GE505.out) hb)
  clear HO510 BK505 HB
  rename_i HO510 HO514 HO517 BK505 HB
  (try clear hb)
  (try clear hb2)
  (try clear hk)
  (try clear hi)
  (try clear ho0)
  (try clear ho1)
  obtain ⟨Ao17, co17, eo17⟩ := Kd.S_slice HO510.out
  (first | subst eo17 | (injection eo17 with f1_ f2_ f3_; have f4_ := f1_.symm; have f5_ := f3_.symm; clear f1_ f2_ f3_; subst f4_; subst f5_))
  obtain ⟨Ao18, co18, eo18⟩ := Kd.R_slice HO514.out
  (first | subst eo18 | (injection eo18 with f1_ f2_ f3_; have f4_ := f1_.symm; have f5_ := f3_.symm; clear f1_ f2_ f3_; subst f4_; subst f5_))
  obtain ⟨Ao19, co19, eo19⟩ := Kd.R_slice HO517.out
  (first | subst eo19 | (injection eo19 with f1_ f2_ f3_; have f4_ := f1_.symm; have f5_ := f3_.symm; clear f1_ f2_ f3_; subst f4_; subst f5_))
  (try (obtain ⟨Ao_, co_, eo_⟩ := Kd.R_slice HO510.out; subst eo_))
  (try (obtain ⟨Ao_, co_, eo_⟩ := Kd.R_slice HO514.out; subst eo_))
  refine hK.out _ _ (sb_ BK505.out) (fun hHeld => ?_)
  clear hK K
  refine no_ (some 27) ?_
  refine one_ (i := 4) (N := some 28) #[true, true, true, true, true, false] rfl rfl (by kernel_rfl) (by decide) (fun K hK => ?_)
  refine goes_ Try.func17 (by kernel_rfl) rfl #[.slice Ao17 t508.length co17, .agg #[.int .i64 t511, .slice Ao18 t512.length co18, .slice Ao19 t515.length co19]] (by rfl) rfl rfl mp_ ?_
  with_reducible refine (spec_WorksWith.calls k _ _ t508 t511 _ _ t512 _ _ t515 t518 _ ?side1 ?side2 ?side3 ?side4 ?side5 ?side6 A13.out).mono ?_
  (case side1 => exact pc_ ((Kd.S_reads' HO510.out).2.2))
  (case side2 => exact (Kd.S_reads' HO510.out).2.1)
  (case side3 => exact pc_ ((Kd.R_reads' HO514.out).2.2))
  (case side4 => exact (Kd.R_reads' HO514.out).2.1)
  (case side5 => exact pc_ ((Kd.R_reads' HO517.out).2.2))
  (case side6 => exact (Kd.R_reads' HO517.out).2.1)
  rintro e w20 ⟨v519, rfl, ho0, hb⟩
  refine ⟨_, rfl, ?_⟩
  have _ := Q_ (Kd.S_below (ps_ HO510.out) hb)
  have _ := Q_ (Kd.R_below (pr_ HO514.out) hb)
  have _ := Q_ (Kd.R_below (pr_ HO517.out) hb)
  have _ := Q_ (Kd.R_lower ho0 (below_size (pb1_ HB.out GE505.out)))
  have _ := Q_ (bb_ BK505.out hb)
  have _ := Q_ (below_step (pb1_ HB.out GE505.out) hb)
  clear HO510 HO514 HO517 BK505 HB
  rename_i HO510 HO514 HO517 HO520 BK505 HB
  (try clear hb)
  (try clear hb2)
  (try clear hk)
  (try clear hi)
  (try clear ho0)
  (try (obtain ⟨Ao_, co_, eo_⟩ := Kd.R_slice HO510.out; subst eo_))
  refine hK.out _ _ (sb_ BK505.out) (fun hHeld => ?_)
  clear hK K
  refine no_ (some 28) ?_
  refine pure_ (i := 5) (N := some 6) (v := ?_) (a' := ?_) #[true, true, true, true, true, true] rfl rfl (by kernel_rfl) (fun _ _ _ h => h) (Or.inl ⟨by rfl, ?_⟩) ?_ ?_
  rotate_left
  · intro w'
    go_simp
    (try (simp only [Instr.field]; simp only [underlying, hu26, hu34]; go_simp; simp only [asAgg]; go_simp))
    with_reducible rfl
  rotate_left
  · simp only [Act.put, List.setIfInBounds_toArray, List.set_cons_zero, List.set_cons_succ, i64_w, i32_w]
    rfl
  refine done_ (by kernel_rfl) ?_
  go_upto_region 9 with (fail)
  have H := HS_.out
  clear HS_
  replace H := Option.bind_eq_some_iff.mp H
  obtain ⟨t521, A210, H⟩ := H
  (try dsimp only at H)
  have A21 := Q_ A210
  clear A210
  have HS_ := Q_ H
  clear H
  go_upto_region 10 with (first | ((with_reducible refine gate_callee (f := 12) rfl ?_); refine gl_ (some 30) Try.func12 #[.slice A0 l0.length c0] ?_; (with_reducible refine (laws_toMachineS.calls k _ _ l0 t521 _ ?side1 ?side2 A21.out).mono ?_); (case side1 => exact cb_ HR0 HB); (case side2 => exact HC0.out); rintro e w22 ⟨v522, rfl, ho0, hb⟩; refine ⟨_, rfl, ?_⟩; have _ := Q_ (Kd.S_elder' (ps_ HO510.out) (Kd.S_base ho0) hb); have _ := Q_ (Kd.R_below (pr_ HO514.out) hb); have _ := Q_ (Kd.R_below (pr_ HO517.out) hb); have _ := Q_ (Kd.R_below (pr_ HO520.out) hb); have _ := Q_ (Kd.S_lower (Kd.S_new' (Kd.S_new' (Kd.S_new' ho0 (Kd.S_lt (ps_ HO510.out))) (Kd.R_lt (pr_ HO514.out))) (Kd.R_lt (pr_ HO517.out))) (below_size (pb1_ HB.out GE505.out))); have _ := Q_ (bb_ BK505.out hb); have _ := Q_ (below_step (pb1_ HB.out GE505.out) hb); clear HO510 HO514 HO517 HO520 BK505 HB; rename_i HO510 HO514 HO517 HO520 HO523 BK505 HB; (try clear hb); (try clear hb2); (try clear hk); (try clear hi); (try clear ho0)))
  (try simp only [Act.put, List.setIfInBounds_toArray, List.set_cons_zero, List.set_cons_succ])
  have H := HS_.out
  clear HS_
  replace H := Option.bind_eq_some_iff.mp H
  obtain ⟨⟨t524, t525, t528⟩, A230, H⟩ := H
  (try dsimp only at H)
  have A23 := Q_ A230
  clear A230
  have HS_ := Q_ H
  clear H
  have hcz24 := bc3_ BK505.out
  go_upto_region 11 with (first | ((with_reducible refine gate_callee (f := 13) rfl ?_); refine gl_ (some 32) Try.func13 #[.agg #[.int .i64 a1_0, .slice A1_1 l1_1.length c1_1, .slice A1_2 l1_2.length c1_2]] ?_; (with_reducible refine (laws_toMachine.calls k a1_0 _ _ l1_1 _ _ l1_2 t524 t525 t528 _ ?side1 ?side2 ?side3 ?side4 A23.out).mono ?_); (case side1 => exact cb_ HR1_1 HB); (case side2 => exact HC1_1.out); (case side3 => exact cb_ HR1_2 HB); (case side4 => exact HC1_2.out); rintro e w25 ⟨v526, v529, rfl, ho0, ho1, hb⟩; refine ⟨_, rfl, ?_⟩; have _ := Q_ (Kd.S_mono (Kd.S_told (Kd.S_told (Kd.S_old (ps_ HO510.out) hb) (Kd.R_base ho0)) (Kd.R_base ho1)) (fun _ h_ => h_.1)); have _ := Q_ (Kd.R_elder' (pr_ HO514.out) (Kd.R_base ho0) hb); have _ := Q_ (Kd.R_elder' (pr_ HO517.out) (Kd.R_base ho1) hb); have _ := Q_ (Kd.R_below (pr_ HO520.out) hb); have _ := Q_ (Kd.S_mono (Kd.S_told (Kd.S_told (Kd.S_old (ps_ HO523.out) hb) (Kd.R_base ho0)) (Kd.R_base ho1)) (fun _ h_ => h_.1)); have _ := Q_ (Kd.R_lower (Kd.R_new' ho0 (Kd.R_lt (pr_ HO514.out))) (below_size (pb1_ HB.out GE505.out))); have _ := Q_ (Kd.R_lower (Kd.R_new' ho1 (Kd.R_lt (pr_ HO517.out))) (below_size (pb1_ HB.out GE505.out))); have _ := Q_ (bb_ BK505.out hb); have _ := Q_ (below_step (pb1_ HB.out GE505.out) hb); clear HO510 HO514 HO517 HO520 HO523 BK505 HB; rename_i HO510 HO514 HO517 HO520 HO523 HO527 HO530 BK505 HB; (try clear hb); (try clear hb2); (try clear hk); (try clear hi); (try clear ho0); (try clear ho1)) | ((with_reducible refine gate_dst (N := 8) rfl ?_); refine box_event ?hg (N := 8) ?hd (cs := #[.int .i64 0, .slice none 0 0, .slice none 0 0]) (t := 34) ?hr ?_; (case hd => rfl); (case hg => rfl); (case hr => first | (go_simp; done) | (go_simp; rfl)); intro gb531 hg w26 hbox hb; have n0_ := Q_ (Kd.S_below (Kd.S_elderB (ps_ HO510.out) gb531 (Nat.le_of_eq hg.symm)) hb); have n1_ := Q_ (Kd.R_below (pr_ HO514.out) hb); have n2_ := Q_ (Kd.R_below (pr_ HO517.out) hb); have n3_ := Q_ (Kd.R_below (pr_ HO520.out) hb); have n4_ := Q_ (Kd.S_below (Kd.S_elderB (ps_ HO523.out) gb531 (Nat.le_of_eq hg.symm)) hb); have n5_ := Q_ (Kd.R_below (pr_ HO527.out) hb); have n6_ := Q_ (Kd.R_below (pr_ HO530.out) hb); have n7_ := Q_ (bb_ BK505.out hb); have n8_ := Q_ (below_step (pb1_ HB.out GE505.out) hb); have n9_ := Q_ (hbox); have n10_ := Q_ ((by rw [hg]; exact (below_size (pb1_ HB.out GE505.out)) : w.heap.size ≤ gb531)); have n11_ := n10_; have n12_ := Q_ ((by rw [hg]; exact Nat.ne_of_lt (blk_lt (pk_ BK505.out)) : gb505 ≠ gb531)); have n13_ := Q_ ((by rw [hg]; exact Nat.ne_of_gt (blk_lt (pk_ BK505.out)) : gb531 ≠ gb505)); clear HO510; clear HO514; clear HO517; clear HO520; clear HO523; clear HO527; clear HO530; clear BK505; clear HB; have HO510 := n0_; have HO514 := n1_; have HO517 := n2_; have HO520 := n3_; have HO523 := n4_; have HO527 := n5_; have HO530 := n6_; have BK505 := n7_; have HB := n8_; have BK531 := n9_; have GW531 := n10_; have GE531 := n11_; have NB505_531 := n12_; have NB531_505 := n13_; clear n0_ n1_ n2_ n3_ n4_ n5_ n6_ n7_ n8_ n9_ n10_ n11_ n12_ n13_; clear hb hbox hg; have hnb27 := NB531_505.out; have hnc27 := NB505_531.out; have hcz28 := bc3_ BK531.out; obtain ⟨Ao29, co29, eo29⟩ := Kd.R_slice HO527.out; subst eo29; obtain ⟨Ao30, co30, eo30⟩ := Kd.R_slice HO530.out; subst eo30))
  (try simp only [Act.put, List.setIfInBounds_toArray, List.set_cons_zero, List.set_cons_succ])
  have H := HS_.out
  clear HS_
  replace H := Option.bind_eq_some_iff.mp H
  obtain ⟨t532, A310, H⟩ := H
  (try dsimp only at H)
  have A31 := Q_ A310
  clear A310
  have HS_ := Q_ H
  clear H
  have hnb32 := NB531_505.out
  have hnc32 := NB505_531.out
  have hcz33 := bc3_ BK531.out
  obtain ⟨Ao34, co34, eo34⟩ := Kd.S_slice HO523.out
  subst eo34
  go_upto_region 12 with (first | ((with_reducible refine gate_callee (f := 18) rfl ?_); refine gl_ (some 35) Try.func18 #[.slice Ao34 t521.length co34, .agg #[.int .i64 t524, .slice Ao29 t525.length co29, .slice Ao30 t528.length co30]] ?_; (with_reducible refine (impl_WorksWith.calls k _ _ t521 t524 _ _ t525 _ _ t528 t532 _ ?side1 ?side2 ?side3 ?side4 ?side5 ?side6 A31.out).mono ?_); (case side1 => refine (Kd.S_reads' (e := 34) (base := w.heap.size) (ok := fun k_ => ((((((True ∧ some k_ ≠ (.slice Ao17 t508.length co17 : Value).ownBlock) ∧ some k_ ≠ (.slice Ao18 t512.length co18 : Value).ownBlock) ∧ some k_ ≠ (.slice Ao19 t515.length co19 : Value).ownBlock) ∧ some k_ ≠ (.slice Ao29 t525.length co29 : Value).ownBlock) ∧ some k_ ≠ (.slice Ao30 t528.length co30 : Value).ownBlock) ∧ k_ ≠ gb531)) (n := t521.length) (c := co34) ?_).2.2; exact (by (with_reducible repeat (first | apply Kd.S_alloc | apply Kd.S_drewN | apply Kd.S_drew)); exact (Kd.S_mono (Kd.S_far (p := ⟨gb531, 2, none⟩) (Kd.S_far (p := ⟨gb531, 1, none⟩) (Kd.S_far (p := ⟨gb531, 0, none⟩) (Kd.S_mono HO523.out (fun k_ hk => (⟨hk, hk.2⟩ : _ ∧ k_ ≠ gb531))) (fun _ hk => hk.2) (.int .i64 t524)) (fun _ hk => hk.2) (.slice Ao29 t525.length co29)) (fun _ hk => hk.2) (.slice Ao30 t528.length co30)) (fun _ h_ => h_.1)))); (case side2 => exact (Kd.S_reads' HO523.out).2.1); (case side3 => refine (Kd.R_reads' (e := 4) (base := w.heap.size) (ok := fun k_ => (True ∧ some k_ ≠ (.slice Ao18 t512.length co18 : Value).ownBlock)) (n := t525.length) (c := co29) ?_).2.2; exact (pr_ (rf3_ HO527.out BK531.out))); (case side4 => exact (Kd.R_reads' HO527.out).2.1); (case side5 => refine (Kd.R_reads' (e := 78) (base := w.heap.size) (ok := fun k_ => (True ∧ some k_ ≠ (.slice Ao19 t515.length co19 : Value).ownBlock)) (n := t528.length) (c := co30) ?_).2.2; exact (pr_ (rf3_ HO530.out BK531.out))); (case side6 => exact (Kd.R_reads' HO530.out).2.1); rintro e w35 ⟨v533, rfl, ho0, hb⟩; refine ⟨_, rfl, ?_⟩; have n0_ := Q_ (Kd.S_below (by (with_reducible repeat (first | apply Kd.S_alloc | apply Kd.S_drewN | apply Kd.S_drew)); exact (Kd.S_mono (Kd.S_far (p := ⟨gb531, 2, none⟩) (Kd.S_far (p := ⟨gb531, 1, none⟩) (Kd.S_far (p := ⟨gb531, 0, none⟩) (Kd.S_mono HO510.out (fun k_ hk => (⟨hk, hk.2⟩ : _ ∧ k_ ≠ gb531))) (fun _ hk => hk.2) (.int .i64 t524)) (fun _ hk => hk.2) (.slice Ao29 t525.length co29)) (fun _ hk => hk.2) (.slice Ao30 t528.length co30)) (fun _ h_ => h_.1))) hb); have n1_ := Q_ (Kd.R_below (pr_ (rf3_ HO514.out BK531.out)) hb); have n2_ := Q_ (Kd.R_below (pr_ (rf3_ HO517.out BK531.out)) hb); have n3_ := Q_ (Kd.R_elder' (pr_ (rf3_ HO520.out BK531.out)) (Kd.R_base ho0) hb); have n4_ := Q_ (Kd.S_below (by (with_reducible repeat (first | apply Kd.S_alloc | apply Kd.S_drewN | apply Kd.S_drew)); exact (Kd.S_mono (Kd.S_far (p := ⟨gb531, 2, none⟩) (Kd.S_far (p := ⟨gb531, 1, none⟩) (Kd.S_far (p := ⟨gb531, 0, none⟩) (Kd.S_mono HO523.out (fun k_ hk => (⟨hk, hk.2⟩ : _ ∧ k_ ≠ gb531))) (fun _ hk => hk.2) (.int .i64 t524)) (fun _ hk => hk.2) (.slice Ao29 t525.length co29)) (fun _ hk => hk.2) (.slice Ao30 t528.length co30)) (fun _ h_ => h_.1))) hb); have n5_ := Q_ (Kd.R_below (pr_ (rf3_ HO527.out BK531.out)) hb); have n6_ := Q_ (Kd.R_below (pr_ (rf3_ HO530.out BK531.out)) hb); have n7_ := Q_ (Kd.R_lower (Kd.R_new' ho0 (Kd.R_lt (pr_ (rf3_ HO520.out BK531.out)))) (below_size (pb2_ HB.out GE505.out GE531.out))); have n8_ := Q_ (blk_below (g := gb505) (o := .cells #[.int .i64 a1_0, .slice A1_1 l1_1.length c1_1, .slice A1_2 l1_2.length c1_2] 26 (0, 0)) (pp_ BK505.out) hb); have n9_ := Q_ (blk_below (g := gb531) (o := .cells #[.int .i64 t524, .slice Ao29 t525.length co29, .slice Ao30 t528.length co30] 34 (0, 0)) (pp_ BK531.out) hb); have n10_ := Q_ (below_step (pb2_ HB.out GE505.out GE531.out) hb); clear HO510; clear HO514; clear HO517; clear HO520; clear HO523; clear HO527; clear HO530; clear BK505; clear BK531; clear HB; have HO510 := n0_; have HO514 := n1_; have HO517 := n2_; have HO520 := n3_; have HO523 := n4_; have HO527 := n5_; have HO530 := n6_; have HO534 := n7_; have BK505 := n8_; have BK531 := n9_; have HB := n10_; clear n0_ n1_ n2_ n3_ n4_ n5_ n6_ n7_ n8_ n9_ n10_; (try clear hb); (try clear hb2); (try clear hk); (try clear hi); (try clear ho0)))
  (try simp only [Act.put, List.setIfInBounds_toArray, List.set_cons_zero, List.set_cons_succ])
  have H := HS_.out
  clear HS_
  replace H := Option.bind_eq_some_iff.mp H
  obtain ⟨t535, A360, H⟩ := H
  (try dsimp only at H)
  have A36 := Q_ A360
  clear A360
  have HS_ := Q_ H
  clear H
  obtain ⟨Ao37, co37, eo37⟩ := Kd.R_slice HO534.out
  subst eo37
  obtain ⟨Ao38, co38, eo38⟩ := Kd.R_slice HO520.out
  subst eo38
  go_upto_if 39 with (first | ((with_reducible refine gate_callee (f := 19) rfl ?_); refine gl_ (some 38) Try.func19 #[.slice Ao37 t532.length co37, .slice Ao38 t518.length co38] ?_; (with_reducible refine (laws_eqIntS.calls k _ _ t532 _ _ t518 t535 _ ?side1 ?side2 ?side3 ?side4 A36.out).mono ?_); (case side1 => exact pc_ ((Kd.R_reads' HO534.out).2.2)); (case side2 => exact (Kd.R_reads' HO534.out).2.1); (case side3 => exact pc_ ((Kd.R_reads' HO520.out).2.2)); (case side4 => exact (Kd.R_reads' HO520.out).2.1); rintro e w' ⟨rfl, ⟨nd, rfl⟩⟩; refine ⟨_, rfl, ?_⟩))
  (try simp only [Act.put, List.setIfInBounds_toArray, List.set_cons_zero, List.set_cons_succ])
  have H := HS_.out
  clear HS_
  by_cases c39 : t535 = true
  rotate_left
  · replace c39 := Bool.eq_false_iff.mpr c39
    subst c39
    rw [if_neg (show ¬ (false = true) by decide)] at H
    obtain rfl := Option.some.inj H
    go_wp2
    go_ret
    exact ⟨er_, pb2_ HB.out GE505.out GE531.out⟩
  subst c39
  rw [if_pos rfl] at H
  replace H := Option.bind_eq_some_iff.mp H
  obtain ⟨t536, A400, H⟩ := H
  (try dsimp only at H)
  have A40 := Q_ A400
  clear A400
  replace H := Option.bind_eq_some_iff.mp H
  obtain ⟨t539, A410, H⟩ := H
  (try dsimp only at H)
  have A41 := Q_ A410
  clear A410
  have HS_ := Q_ H
  clear H
  go_upto_if 44 with (first | ((with_reducible refine gate_callee (f := 12) rfl ?_); refine gl_ (some 42) Try.func12 #[.slice A0 l0.length c0] ?_; (with_reducible refine (laws_toMachineS.calls k _ _ l0 t536 _ ?side1 ?side2 A40.out).mono ?_); (case side1 => exact pc_ (Kd.C_below HR0.out (pb2_ HB.out GE505.out GE531.out))); (case side2 => exact HC0.out); rintro e w42 ⟨v537, rfl, ho0, hb⟩; refine ⟨_, rfl, ?_⟩; have _ := Q_ (Kd.S_elder' (ps_ HO510.out) (Kd.S_base ho0) hb); have _ := Q_ (Kd.R_below (pr_ HO514.out) hb); have _ := Q_ (Kd.R_below (pr_ HO517.out) hb); have _ := Q_ (Kd.R_below (pr_ HO520.out) hb); have _ := Q_ (Kd.S_elder' (ps_ HO523.out) (Kd.S_base ho0) hb); have _ := Q_ (Kd.R_below (pr_ HO527.out) hb); have _ := Q_ (Kd.R_below (pr_ HO530.out) hb); have _ := Q_ (Kd.R_below (pr_ HO534.out) hb); have _ := Q_ (Kd.S_lower (Kd.S_newB (Kd.S_new' (Kd.S_new' (Kd.S_new' (Kd.S_new' (Kd.S_new' (Kd.S_new' ho0 (Kd.S_lt (ps_ HO510.out))) (Kd.R_lt (pr_ HO514.out))) (Kd.R_lt (pr_ HO517.out))) (Kd.S_lt (ps_ HO523.out))) (Kd.R_lt (pr_ HO527.out))) (Kd.R_lt (pr_ HO530.out))) (g := gb531) (o := .cells #[.int .i64 t524, .slice Ao29 t525.length co29, .slice Ao30 t528.length co30] 34 (0, 0)) (pk_ BK531.out)) (below_size (pb2_ HB.out GE505.out GE531.out))); have _ := Q_ (bb_ BK505.out hb); have _ := Q_ (bb_ BK531.out hb); have _ := Q_ (below_step (pb2_ HB.out GE505.out GE531.out) hb); clear HO510 HO514 HO517 HO520 HO523 HO527 HO530 HO534 BK505 BK531 HB; rename_i HO510 HO514 HO517 HO520 HO523 HO527 HO530 HO534 HO538 BK505 BK531 HB; (try clear hb); (try clear hb2); (try clear hk); (try clear hi); (try clear ho0); obtain ⟨Ao43, co43, eo43⟩ := Kd.S_slice HO538.out; subst eo43) | ((with_reducible refine gate_callee (f := 15) rfl ?_); refine gl_ (some 43) Try.func15 #[.slice Ao34 t521.length co34, .slice Ao43 t536.length co43] ?_; (with_reducible refine (laws_eqMachineS.calls k _ _ t521 _ _ t536 t539 _ ?side1 ?side2 ?side3 ?side4 A41.out).mono ?_); (case side1 => exact pc_ ((Kd.S_reads' HO523.out).2.2)); (case side2 => exact (Kd.S_reads' HO523.out).2.1); (case side3 => exact pc_ ((Kd.S_reads' HO538.out).2.2)); (case side4 => exact (Kd.S_reads' HO538.out).2.1); rintro e w44 ⟨rfl, hb⟩; refine ⟨_, rfl, ?_⟩; have _ := Q_ (Kd.S_below (ps_ HO510.out) hb); have _ := Q_ (Kd.R_below (pr_ HO514.out) hb); have _ := Q_ (Kd.R_below (pr_ HO517.out) hb); have _ := Q_ (Kd.R_below (pr_ HO520.out) hb); have _ := Q_ (Kd.S_below (ps_ HO523.out) hb); have _ := Q_ (Kd.R_below (pr_ HO527.out) hb); have _ := Q_ (Kd.R_below (pr_ HO530.out) hb); have _ := Q_ (Kd.R_below (pr_ HO534.out) hb); have _ := Q_ (Kd.S_below (ps_ HO538.out) hb); have _ := Q_ (bb_ BK505.out hb); have _ := Q_ (bb_ BK531.out hb); have _ := Q_ (below_step (pb2_ HB.out GE505.out GE531.out) hb); clear HO510 HO514 HO517 HO520 HO523 HO527 HO530 HO534 HO538 BK505 BK531 HB; rename_i HO510 HO514 HO517 HO520 HO523 HO527 HO530 HO534 HO538 BK505 BK531 HB; (try clear hb); (try clear hb2); (try clear hk); (try clear hi)))
  (try simp only [Act.put, List.setIfInBounds_toArray, List.set_cons_zero, List.set_cons_succ])
  have H := HS_.out
  clear HS_
  by_cases c45 : t539 = true
  rotate_left
  · replace c45 := Bool.eq_false_iff.mpr c45
    subst c45
    rw [if_neg (show ¬ (false = true) by decide)] at H
    obtain rfl := Option.some.inj H
    go_wp2
    go_ret
    exact ⟨er_, pb2_ HB.out GE505.out GE531.out⟩
  subst c45
  rw [if_pos rfl] at H
  replace H := Option.bind_eq_some_iff.mp H
  obtain ⟨⟨t540, t541, t544⟩, A460, H⟩ := H
  (try dsimp only at H)
  have A46 := Q_ A460
  clear A460
  replace H := Option.bind_eq_some_iff.mp H
  obtain ⟨t547, A470, H⟩ := H
  (try dsimp only at H)
  have A47 := Q_ A470
  clear A470
  have HS_ := Q_ H
  clear H
  try go_wp2
  have _ := Q_ (Kd.S_drew HO510.out)
  have _ := Q_ (Kd.R_drew HO514.out)
  have _ := Q_ (Kd.R_drew HO517.out)
  have _ := Q_ (Kd.R_drew HO520.out)
  have _ := Q_ (Kd.S_drew HO523.out)
  have _ := Q_ (Kd.R_drew HO527.out)
  have _ := Q_ (Kd.R_drew HO530.out)
  have _ := Q_ (Kd.R_drew HO534.out)
  have _ := Q_ (Kd.S_drew HO538.out)
  have _ := Q_ (blk_drew BK505.out)
  have _ := Q_ (blk_drew BK531.out)
  have _ := Q_ (below_drew1 HB.out)
  clear HO510 HO514 HO517 HO520 HO523 HO527 HO530 HO534 HO538 BK505 BK531 HB
  rename_i HO510 HO514 HO517 HO520 HO523 HO527 HO530 HO534 HO538 BK505 BK531 HB
  refine start_ (n := 5) (S := fun w' => w'.cell? ⟨gb531, 0, none⟩ = some (.int .i64 t524) ∧ w'.cell? ⟨gb531, 1, none⟩ = some (.slice Ao29 t525.length co29) ∧ w'.cell? ⟨gb531, 2, none⟩ = some (.slice Ao30 t528.length co30) ∧ w'.cell? ⟨gb505, 0, none⟩ = some (.int .i64 a1_0) ∧ w'.cell? ⟨gb505, 1, none⟩ = some (.slice A1_1 l1_1.length c1_1) ∧ w'.cell? ⟨gb505, 2, none⟩ = some (.slice A1_2 l1_2.length c1_2)) (ds := []) (tf_ 0 5) (by kernel_rfl) rfl rfl ⟨(blk_cell BK531.out 0).trans rfl, (blk_cell BK531.out 1).trans rfl, (blk_cell BK531.out 2).trans rfl, (blk_cell BK505.out 0).trans rfl, (blk_cell BK505.out 1).trans rfl, (blk_cell BK505.out 2).trans rfl⟩ (fun hHeld => ?_)
  generalize w44.drew = w48 at HO510 HO514 HO517 HO520 HO523 HO527 HO530 HO534 HO538 BK505 BK531 HB hHeld ⊢
  refine take_ (i := 0) (N := some 45) (v := ?_) (a' := ?_) #[true, false, false, false, false] rfl rfl (by kernel_rfl) (fun _ _ _ h => h) (Or.inl ⟨by rfl, ?_⟩) hHeld ?_ ?_
  rotate_left
  · rintro w' ⟨s0, s1, s2, s3, s4, s5⟩
    go_simp
    (try (simp only [Instr.field]; simp only [underlying, hu26, hu34]; go_simp; simp only [asAgg]; go_simp))
    with_reducible rfl
  rotate_left
  · simp only [Act.put, List.setIfInBounds_toArray, List.set_cons_zero, List.set_cons_succ, i64_w, i32_w]
    rfl
  refine take_ (i := 1) (N := some 46) (v := ?_) (a' := ?_) #[true, true, false, false, false] rfl rfl (by kernel_rfl) (fun _ _ _ h => h) (Or.inl ⟨by rfl, ?_⟩) hHeld ?_ ?_
  rotate_left
  · rintro w' ⟨s0, s1, s2, s3, s4, s5⟩
    go_simp
    (try (simp only [Instr.field]; simp only [underlying, hu26, hu34]; go_simp; simp only [asAgg]; go_simp))
    with_reducible rfl
  rotate_left
  · simp only [Act.put, List.setIfInBounds_toArray, List.set_cons_zero, List.set_cons_succ, i64_w, i32_w]
    rfl
  refine one_ (i := 2) (N := some 47) #[true, true, true, false, false] rfl rfl (by kernel_rfl) (by decide) (fun K hK => ?_)
  refine goes_ Try.func13 (by kernel_rfl) rfl #[.agg #[.int .i64 a1_0, .slice A1_1 l1_1.length c1_1, .slice A1_2 l1_2.length c1_2]] (by rfl) rfl rfl mp_ ?_
  with_reducible refine (laws_toMachine.calls k a1_0 _ _ l1_1 _ _ l1_2 t540 t541 t544 _ ?side1 ?side2 ?side3 ?side4 A46.out).mono ?_
  (case side1 => exact cb_ HR1_1 HB)
  (case side2 => exact HC1_1.out)
  (case side3 => exact cb_ HR1_2 HB)
  (case side4 => exact HC1_2.out)
  rintro e w49 ⟨v542, v545, rfl, ho0, ho1, hb⟩
  refine ⟨_, rfl, ?_⟩
  have _ := Q_ (Kd.S_mono (Kd.S_told (Kd.S_told (Kd.S_old (ps_ HO510.out) hb) (Kd.R_base ho0)) (Kd.R_base ho1)) (fun _ h_ => h_.1))
  have _ := Q_ (Kd.R_elder' (pr_ HO514.out) (Kd.R_base ho0) hb)
  have _ := Q_ (Kd.R_elder' (pr_ HO517.out) (Kd.R_base ho1) hb)
  have _ := Q_ (Kd.R_below (pr_ HO520.out) hb)
  have _ := Q_ (Kd.S_mono (Kd.S_told (Kd.S_told (Kd.S_old (ps_ HO523.out) hb) (Kd.R_base ho0)) (Kd.R_base ho1)) (fun _ h_ => h_.1))
  have _ := Q_ (Kd.R_elder' (pr_ HO527.out) (Kd.R_base ho0) hb)
  have _ := Q_ (Kd.R_elder' (pr_ HO530.out) (Kd.R_base ho1) hb)
  have _ := Q_ (Kd.R_below (pr_ HO534.out) hb)
  have _ := Q_ (Kd.S_mono (Kd.S_told (Kd.S_told (Kd.S_old (ps_ HO538.out) hb) (Kd.R_base ho0)) (Kd.R_base ho1)) (fun _ h_ => h_.1))
  have _ := Q_ (Kd.R_lower (Kd.R_new' (Kd.R_new' ho0 (Kd.R_lt (pr_ HO514.out))) (Kd.R_lt (pr_ HO527.out))) (below_size (pb2_ HB.out GE505.out GE531.out)))
  have _ := Q_ (Kd.R_lower (Kd.R_new' (Kd.R_new' ho1 (Kd.R_lt (pr_ HO517.out))) (Kd.R_lt (pr_ HO530.out))) (below_size (pb2_ HB.out GE505.out GE531.out)))
  have _ := Q_ (bb_ BK505.out hb)
  have _ := Q_ (bb_ BK531.out hb)
  have _ := Q_ (below_step (pb2_ HB.out GE505.out GE531.out) hb)
  clear HO510 HO514 HO517 HO520 HO523 HO527 HO530 HO534 HO538 BK505 BK531 HB
  rename_i HO510 HO514 HO517 HO520 HO523 HO527 HO530 HO534 HO538 HO543 HO546 BK505 BK531 HB
  (try clear hb)
  (try clear hb2)
  (try clear hk)
  (try clear hi)
  (try clear ho0)
  (try clear ho1)
  obtain ⟨Ao50, co50, eo50⟩ := Kd.R_slice HO543.out
  (first | subst eo50 | (injection eo50 with f1_ f2_ f3_; have f4_ := f1_.symm; have f5_ := f3_.symm; clear f1_ f2_ f3_; subst f4_; subst f5_))
  obtain ⟨Ao51, co51, eo51⟩ := Kd.R_slice HO546.out
  (first | subst eo51 | (injection eo51 with f1_ f2_ f3_; have f4_ := f1_.symm; have f5_ := f3_.symm; clear f1_ f2_ f3_; subst f4_; subst f5_))
  refine hK.out _ _ ⟨(blk_cell BK531.out 0).trans rfl, (blk_cell BK531.out 1).trans rfl, (blk_cell BK531.out 2).trans rfl, (blk_cell BK505.out 0).trans rfl, (blk_cell BK505.out 1).trans rfl, (blk_cell BK505.out 2).trans rfl⟩ (fun hHeld => ?_)
  clear hK K
  refine no_ (some 47) ?_
  refine one_ (i := 3) (N := some 48) #[true, true, true, true, false] rfl rfl (by kernel_rfl) (by decide) (fun K hK => ?_)
  refine goes_ Try.func16 (by kernel_rfl) rfl #[.agg #[.int .i64 t524, .slice Ao29 t525.length co29, .slice Ao30 t528.length co30], .agg #[.int .i64 t540, .slice Ao50 t541.length co50, .slice Ao51 t544.length co51]] (by rfl) rfl rfl mp_ ?_
  with_reducible refine (laws_eqMachine.calls k t524 _ _ t525 _ _ t528 t540 _ _ t541 _ _ t544 t547 _ ?side1 ?side2 ?side3 ?side4 ?side5 ?side6 ?side7 ?side8 A47.out).mono ?_
  (case side1 => exact pc_ ((Kd.R_reads' HO527.out).2.2))
  (case side2 => exact (Kd.R_reads' HO527.out).2.1)
  (case side3 => exact pc_ ((Kd.R_reads' HO530.out).2.2))
  (case side4 => exact (Kd.R_reads' HO530.out).2.1)
  (case side5 => exact pc_ ((Kd.R_reads' HO543.out).2.2))
  (case side6 => exact (Kd.R_reads' HO543.out).2.1)
  (case side7 => exact pc_ ((Kd.R_reads' HO546.out).2.2))
  (case side8 => exact (Kd.R_reads' HO546.out).2.1)
  rintro e w52 ⟨rfl, hb⟩
  refine ⟨_, rfl, ?_⟩
  have _ := Q_ (Kd.S_below (ps_ HO510.out) hb)
  have _ := Q_ (Kd.R_below (pr_ HO514.out) hb)
  have _ := Q_ (Kd.R_below (pr_ HO517.out) hb)
  have _ := Q_ (Kd.R_below (pr_ HO520.out) hb)
  have _ := Q_ (Kd.S_below (ps_ HO523.out) hb)
  have _ := Q_ (Kd.R_below (pr_ HO527.out) hb)
  have _ := Q_ (Kd.R_below (pr_ HO530.out) hb)
  have _ := Q_ (Kd.R_below (pr_ HO534.out) hb)
  have _ := Q_ (Kd.S_below (ps_ HO538.out) hb)
  have _ := Q_ (Kd.R_below (pr_ HO543.out) hb)
  have _ := Q_ (Kd.R_below (pr_ HO546.out) hb)
  have _ := Q_ (bb_ BK505.out hb)
  have _ := Q_ (bb_ BK531.out hb)
  have _ := Q_ (below_step (pb2_ HB.out GE505.out GE531.out) hb)
  clear HO510 HO514 HO517 HO520 HO523 HO527 HO530 HO534 HO538 HO543 HO546 BK505 BK531 HB
  rename_i HO510 HO514 HO517 HO520 HO523 HO527 HO530 HO534 HO538 HO543 HO546 BK505 BK531 HB
  (try clear hb)
  (try clear hb2)
  (try clear hk)
  (try clear hi)
  refine hK.out _ _ ⟨(blk_cell BK531.out 0).trans rfl, (blk_cell BK531.out 1).trans rfl, (blk_cell BK531.out 2).trans rfl, (blk_cell BK505.out 0).trans rfl, (blk_cell BK505.out 1).trans rfl, (blk_cell BK505.out 2).trans rfl⟩ (fun hHeld => ?_)
  clear hK K
  refine no_ (some 48) ?_
  refine pure_ (i := 4) (N := some 49) (v := ?_) (a' := ?_) #[true, true, true, true, true] rfl rfl (by kernel_rfl) (fun _ _ _ h => h) (Or.inl ⟨by rfl, ?_⟩) ?_ ?_
  rotate_left
  · intro w'
    go_simp
    (try (simp only [Instr.field]; simp only [underlying, hu26, hu34]; go_simp; simp only [asAgg]; go_simp))
    with_reducible rfl
  rotate_left
  · simp only [Act.put, List.setIfInBounds_toArray, List.set_cons_zero, List.set_cons_succ, i64_w, i32_w]
    rfl
  refine done_ (by kernel_rfl) ?_
  go_upto_if 49 with (fail)
  have H := HS_.out
  clear HS_
  by_cases c53 : t547 = true
  rotate_left
  · replace c53 := Bool.eq_false_iff.mpr c53
    subst c53
    rw [if_neg (show ¬ (false = true) by decide)] at H
    obtain rfl := Option.some.inj H
    go_wp2
    go_ret
    exact ⟨er_, pb2_ HB.out GE505.out GE531.out⟩
  subst c53
  rw [if_pos rfl] at H
  replace H := Option.bind_eq_some_iff.mp H
  obtain ⟨t548, A540, H⟩ := H
  (try dsimp only at H)
  have A54 := Q_ A540
  clear A540
  replace H := Option.bind_eq_some_iff.mp H
  obtain ⟨⟨t549, t550, t551⟩, A550, H⟩ := H
  (try dsimp only at H)
  have A55 := Q_ A550
  clear A550
  have HC56 := Q_ H
  clear H
  go_upto_region 21 with (first | ((with_reducible refine gate_callee (f := 20) rfl ?_); refine gl_ (some 52) Try.func20 #[.slice Ao34 t521.length co34, .int .i64 1] ?_; (with_reducible refine (laws_markMachineS.calls k (fun k_ => ((((((((((((True ∧ some k_ ≠ (.slice Ao17 t508.length co17 : Value).ownBlock) ∧ some k_ ≠ (.slice Ao18 t512.length co18 : Value).ownBlock) ∧ some k_ ≠ (.slice Ao19 t515.length co19 : Value).ownBlock) ∧ some k_ ≠ (.slice Ao29 t525.length co29 : Value).ownBlock) ∧ some k_ ≠ (.slice Ao30 t528.length co30 : Value).ownBlock) ∧ k_ ≠ gb531) ∧ some k_ ≠ (.slice Ao43 t536.length co43 : Value).ownBlock) ∧ some k_ ≠ (.slice Ao50 t541.length co50 : Value).ownBlock) ∧ some k_ ≠ (.slice Ao51 t544.length co51 : Value).ownBlock) ∧ some k_ ≠ (.slice Ao38 t518.length co38 : Value).ownBlock) ∧ some k_ ≠ (.slice Ao37 t532.length co37 : Value).ownBlock) ∧ k_ ≠ gb505)) (.slice Ao34 t521.length co34) t521 1 t548 w _ ?side1 ?side2 A54.out).mono ?_); (case side1 => repeat (first | (with_reducible first | exact HB.out | apply below_alloc | apply pw_below_drewN | apply below_drew1 | refine below_set ?_ GE505.out | refine below_set ?_ GE531.out) | exact HB.out)); (case side2 => exact (Kd.S_types (Kd.S_apart' (Kd.S_apart' HO523.out (Kd.R_typed HO520.out) (by decide)) (Kd.R_typed HO534.out) (by decide)) BK505.out (by decide))); rintro e w57 ⟨rfl, hb, hkp⟩; refine ⟨_, rfl, ?_⟩; have _ := Q_ (blk_kept (pk_ BK505.out) hkp (fun hs_ => (fun e_ => (e_.2) rfl) hs_)); have _ := Q_ (Kd.R_mono (ok' := fun k_ => some k_ ≠ (.slice Ao29 t525.length co29 : Value).ownBlock ∧ some k_ ≠ (.slice Ao50 t541.length co50 : Value).ownBlock) (Kd.R_keptB ((Kd.R_mono (ok' := fun k_ => (((True ∧ some k_ ≠ (.slice Ao29 t525.length co29 : Value).ownBlock) ∧ some k_ ≠ (.slice Ao50 t541.length co50 : Value).ownBlock)) ∧ ¬ (((((((((((((True ∧ some k_ ≠ (.slice Ao17 t508.length co17 : Value).ownBlock) ∧ some k_ ≠ (.slice Ao18 t512.length co18 : Value).ownBlock) ∧ some k_ ≠ (.slice Ao19 t515.length co19 : Value).ownBlock) ∧ some k_ ≠ (.slice Ao29 t525.length co29 : Value).ownBlock) ∧ some k_ ≠ (.slice Ao30 t528.length co30 : Value).ownBlock) ∧ k_ ≠ gb531) ∧ some k_ ≠ (.slice Ao43 t536.length co43 : Value).ownBlock) ∧ some k_ ≠ (.slice Ao50 t541.length co50 : Value).ownBlock) ∧ some k_ ≠ (.slice Ao51 t544.length co51 : Value).ownBlock) ∧ some k_ ≠ (.slice Ao38 t518.length co38 : Value).ownBlock) ∧ some k_ ≠ (.slice Ao37 t532.length co37 : Value).ownBlock) ∧ k_ ≠ gb505))) (Kd.R_tight2 rfl HO514.out) (fun k_ hk => ⟨hk.2, fun e_ => (e_.1.1.1.1.1.1.1.1.1.1.2) hk.1⟩))) hkp (fun k_ hk_ hs_ => (hk_.2) hs_)) (fun k_ hk_ => ⟨hk_.1.1.1.2, hk_.1.1.2⟩)); have _ := Q_ (Kd.R_mono (ok' := fun k_ => some k_ ≠ (.slice Ao30 t528.length co30 : Value).ownBlock ∧ some k_ ≠ (.slice Ao51 t544.length co51 : Value).ownBlock) (Kd.R_keptB ((Kd.R_mono (ok' := fun k_ => (((True ∧ some k_ ≠ (.slice Ao30 t528.length co30 : Value).ownBlock) ∧ some k_ ≠ (.slice Ao51 t544.length co51 : Value).ownBlock)) ∧ ¬ (((((((((((((True ∧ some k_ ≠ (.slice Ao17 t508.length co17 : Value).ownBlock) ∧ some k_ ≠ (.slice Ao18 t512.length co18 : Value).ownBlock) ∧ some k_ ≠ (.slice Ao19 t515.length co19 : Value).ownBlock) ∧ some k_ ≠ (.slice Ao29 t525.length co29 : Value).ownBlock) ∧ some k_ ≠ (.slice Ao30 t528.length co30 : Value).ownBlock) ∧ k_ ≠ gb531) ∧ some k_ ≠ (.slice Ao43 t536.length co43 : Value).ownBlock) ∧ some k_ ≠ (.slice Ao50 t541.length co50 : Value).ownBlock) ∧ some k_ ≠ (.slice Ao51 t544.length co51 : Value).ownBlock) ∧ some k_ ≠ (.slice Ao38 t518.length co38 : Value).ownBlock) ∧ some k_ ≠ (.slice Ao37 t532.length co37 : Value).ownBlock) ∧ k_ ≠ gb505))) (Kd.R_tight2 rfl HO517.out) (fun k_ hk => ⟨hk.2, fun e_ => (e_.1.1.1.1.1.1.1.1.1.2) hk.1⟩))) hkp (fun k_ hk_ hs_ => (hk_.2) hs_)) (fun k_ hk_ => ⟨hk_.1.1.1.2, hk_.1.1.2⟩)); have _ := Q_ (Kd.R_mono (ok' := fun k_ => some k_ ≠ (.slice Ao37 t532.length co37 : Value).ownBlock) (Kd.R_keptB ((Kd.R_mono (ok' := fun k_ => ((True ∧ some k_ ≠ (.slice Ao37 t532.length co37 : Value).ownBlock)) ∧ ¬ (((((((((((((True ∧ some k_ ≠ (.slice Ao17 t508.length co17 : Value).ownBlock) ∧ some k_ ≠ (.slice Ao18 t512.length co18 : Value).ownBlock) ∧ some k_ ≠ (.slice Ao19 t515.length co19 : Value).ownBlock) ∧ some k_ ≠ (.slice Ao29 t525.length co29 : Value).ownBlock) ∧ some k_ ≠ (.slice Ao30 t528.length co30 : Value).ownBlock) ∧ k_ ≠ gb531) ∧ some k_ ≠ (.slice Ao43 t536.length co43 : Value).ownBlock) ∧ some k_ ≠ (.slice Ao50 t541.length co50 : Value).ownBlock) ∧ some k_ ≠ (.slice Ao51 t544.length co51 : Value).ownBlock) ∧ some k_ ≠ (.slice Ao38 t518.length co38 : Value).ownBlock) ∧ some k_ ≠ (.slice Ao37 t532.length co37 : Value).ownBlock) ∧ k_ ≠ gb505))) (Kd.R_tight2 rfl HO520.out) (fun k_ hk => ⟨hk.2, fun e_ => (e_.1.1.2) hk.1⟩))) hkp (fun k_ hk_ hs_ => (hk_.2) hs_)) (fun k_ hk_ => hk_.1.1.2)); have _ := Q_ (Kd.R_mono (ok' := fun k_ => some k_ ≠ (.slice Ao18 t512.length co18 : Value).ownBlock ∧ some k_ ≠ (.slice Ao50 t541.length co50 : Value).ownBlock) (Kd.R_keptB ((Kd.R_mono (ok' := fun k_ => (((True ∧ some k_ ≠ (.slice Ao18 t512.length co18 : Value).ownBlock) ∧ some k_ ≠ (.slice Ao50 t541.length co50 : Value).ownBlock)) ∧ ¬ (((((((((((((True ∧ some k_ ≠ (.slice Ao17 t508.length co17 : Value).ownBlock) ∧ some k_ ≠ (.slice Ao18 t512.length co18 : Value).ownBlock) ∧ some k_ ≠ (.slice Ao19 t515.length co19 : Value).ownBlock) ∧ some k_ ≠ (.slice Ao29 t525.length co29 : Value).ownBlock) ∧ some k_ ≠ (.slice Ao30 t528.length co30 : Value).ownBlock) ∧ k_ ≠ gb531) ∧ some k_ ≠ (.slice Ao43 t536.length co43 : Value).ownBlock) ∧ some k_ ≠ (.slice Ao50 t541.length co50 : Value).ownBlock) ∧ some k_ ≠ (.slice Ao51 t544.length co51 : Value).ownBlock) ∧ some k_ ≠ (.slice Ao38 t518.length co38 : Value).ownBlock) ∧ some k_ ≠ (.slice Ao37 t532.length co37 : Value).ownBlock) ∧ k_ ≠ gb505))) (Kd.R_tight2 rfl HO527.out) (fun k_ hk => ⟨hk.2, fun e_ => (e_.1.1.1.1.1.1.1.1.2) hk.1⟩))) hkp (fun k_ hk_ hs_ => (hk_.2) hs_)) (fun k_ hk_ => ⟨hk_.1.1.1.2, hk_.1.1.2⟩)); have _ := Q_ (Kd.R_mono (ok' := fun k_ => some k_ ≠ (.slice Ao19 t515.length co19 : Value).ownBlock ∧ some k_ ≠ (.slice Ao51 t544.length co51 : Value).ownBlock) (Kd.R_keptB ((Kd.R_mono (ok' := fun k_ => (((True ∧ some k_ ≠ (.slice Ao19 t515.length co19 : Value).ownBlock) ∧ some k_ ≠ (.slice Ao51 t544.length co51 : Value).ownBlock)) ∧ ¬ (((((((((((((True ∧ some k_ ≠ (.slice Ao17 t508.length co17 : Value).ownBlock) ∧ some k_ ≠ (.slice Ao18 t512.length co18 : Value).ownBlock) ∧ some k_ ≠ (.slice Ao19 t515.length co19 : Value).ownBlock) ∧ some k_ ≠ (.slice Ao29 t525.length co29 : Value).ownBlock) ∧ some k_ ≠ (.slice Ao30 t528.length co30 : Value).ownBlock) ∧ k_ ≠ gb531) ∧ some k_ ≠ (.slice Ao43 t536.length co43 : Value).ownBlock) ∧ some k_ ≠ (.slice Ao50 t541.length co50 : Value).ownBlock) ∧ some k_ ≠ (.slice Ao51 t544.length co51 : Value).ownBlock) ∧ some k_ ≠ (.slice Ao38 t518.length co38 : Value).ownBlock) ∧ some k_ ≠ (.slice Ao37 t532.length co37 : Value).ownBlock) ∧ k_ ≠ gb505))) (Kd.R_tight2 rfl HO530.out) (fun k_ hk => ⟨hk.2, fun e_ => (e_.1.1.1.1.1.1.1.2) hk.1⟩))) hkp (fun k_ hk_ hs_ => (hk_.2) hs_)) (fun k_ hk_ => ⟨hk_.1.1.1.2, hk_.1.1.2⟩)); have _ := Q_ (blk_kept (pk_ BK531.out) hkp (fun hs_ => (fun e_ => (e_.1.1.1.1.1.1.2) rfl) hs_)); have _ := Q_ (Kd.R_mono (ok' := fun k_ => some k_ ≠ (.slice Ao38 t518.length co38 : Value).ownBlock) (Kd.R_keptB ((Kd.R_mono (ok' := fun k_ => ((True ∧ some k_ ≠ (.slice Ao38 t518.length co38 : Value).ownBlock)) ∧ ¬ (((((((((((((True ∧ some k_ ≠ (.slice Ao17 t508.length co17 : Value).ownBlock) ∧ some k_ ≠ (.slice Ao18 t512.length co18 : Value).ownBlock) ∧ some k_ ≠ (.slice Ao19 t515.length co19 : Value).ownBlock) ∧ some k_ ≠ (.slice Ao29 t525.length co29 : Value).ownBlock) ∧ some k_ ≠ (.slice Ao30 t528.length co30 : Value).ownBlock) ∧ k_ ≠ gb531) ∧ some k_ ≠ (.slice Ao43 t536.length co43 : Value).ownBlock) ∧ some k_ ≠ (.slice Ao50 t541.length co50 : Value).ownBlock) ∧ some k_ ≠ (.slice Ao51 t544.length co51 : Value).ownBlock) ∧ some k_ ≠ (.slice Ao38 t518.length co38 : Value).ownBlock) ∧ some k_ ≠ (.slice Ao37 t532.length co37 : Value).ownBlock) ∧ k_ ≠ gb505))) (Kd.R_tight2 rfl HO534.out) (fun k_ hk => ⟨hk.2, fun e_ => (e_.1.2) hk.1⟩))) hkp (fun k_ hk_ hs_ => (hk_.2) hs_)) (fun k_ hk_ => hk_.1.1.2)); have _ := Q_ (Kd.R_mono (ok' := fun k_ => some k_ ≠ (.slice Ao18 t512.length co18 : Value).ownBlock ∧ some k_ ≠ (.slice Ao29 t525.length co29 : Value).ownBlock) (Kd.R_keptB ((Kd.R_mono (ok' := fun k_ => (((True ∧ some k_ ≠ (.slice Ao18 t512.length co18 : Value).ownBlock) ∧ some k_ ≠ (.slice Ao29 t525.length co29 : Value).ownBlock)) ∧ ¬ (((((((((((((True ∧ some k_ ≠ (.slice Ao17 t508.length co17 : Value).ownBlock) ∧ some k_ ≠ (.slice Ao18 t512.length co18 : Value).ownBlock) ∧ some k_ ≠ (.slice Ao19 t515.length co19 : Value).ownBlock) ∧ some k_ ≠ (.slice Ao29 t525.length co29 : Value).ownBlock) ∧ some k_ ≠ (.slice Ao30 t528.length co30 : Value).ownBlock) ∧ k_ ≠ gb531) ∧ some k_ ≠ (.slice Ao43 t536.length co43 : Value).ownBlock) ∧ some k_ ≠ (.slice Ao50 t541.length co50 : Value).ownBlock) ∧ some k_ ≠ (.slice Ao51 t544.length co51 : Value).ownBlock) ∧ some k_ ≠ (.slice Ao38 t518.length co38 : Value).ownBlock) ∧ some k_ ≠ (.slice Ao37 t532.length co37 : Value).ownBlock) ∧ k_ ≠ gb505))) (Kd.R_tight2 rfl HO543.out) (fun k_ hk => ⟨hk.2, fun e_ => (e_.1.1.1.1.2) hk.1⟩))) hkp (fun k_ hk_ hs_ => (hk_.2) hs_)) (fun k_ hk_ => ⟨hk_.1.1.1.2, hk_.1.1.2⟩)); have _ := Q_ (Kd.R_mono (ok' := fun k_ => some k_ ≠ (.slice Ao19 t515.length co19 : Value).ownBlock ∧ some k_ ≠ (.slice Ao30 t528.length co30 : Value).ownBlock) (Kd.R_keptB ((Kd.R_mono (ok' := fun k_ => (((True ∧ some k_ ≠ (.slice Ao19 t515.length co19 : Value).ownBlock) ∧ some k_ ≠ (.slice Ao30 t528.length co30 : Value).ownBlock)) ∧ ¬ (((((((((((((True ∧ some k_ ≠ (.slice Ao17 t508.length co17 : Value).ownBlock) ∧ some k_ ≠ (.slice Ao18 t512.length co18 : Value).ownBlock) ∧ some k_ ≠ (.slice Ao19 t515.length co19 : Value).ownBlock) ∧ some k_ ≠ (.slice Ao29 t525.length co29 : Value).ownBlock) ∧ some k_ ≠ (.slice Ao30 t528.length co30 : Value).ownBlock) ∧ k_ ≠ gb531) ∧ some k_ ≠ (.slice Ao43 t536.length co43 : Value).ownBlock) ∧ some k_ ≠ (.slice Ao50 t541.length co50 : Value).ownBlock) ∧ some k_ ≠ (.slice Ao51 t544.length co51 : Value).ownBlock) ∧ some k_ ≠ (.slice Ao38 t518.length co38 : Value).ownBlock) ∧ some k_ ≠ (.slice Ao37 t532.length co37 : Value).ownBlock) ∧ k_ ≠ gb505))) (Kd.R_tight2 rfl HO546.out) (fun k_ hk => ⟨hk.2, fun e_ => (e_.1.1.1.2) hk.1⟩))) hkp (fun k_ hk_ hs_ => (hk_.2) hs_)) (fun k_ hk_ => ⟨hk_.1.1.1.2, hk_.1.1.2⟩)); have _ := Q_ (hb); clear BK505 HO514 HO517 HO520 HO527 HO530 BK531 HO534 HO543 HO546 HB HO510 HO538 HO523; rename_i BK505 HO514 HO517 HO520 HO527 HO530 BK531 HO534 HO543 HO546 HB; (try clear hb); (try clear hkp); have hnb58 := NB531_505.out; have hnc58 := NB505_531.out; have hcz59 := bc3_ BK531.out) | ((with_reducible refine gate_callee (f := 21) rfl ?_); refine gl_ (some 55) Try.func21 #[.agg #[.int .i64 t524, .slice Ao29 t525.length co29, .slice Ao30 t528.length co30], .int .i64 t548] ?_; (with_reducible refine (laws_markMachine.calls k t524 (fun k_ => some k_ = (.slice Ao29 t525.length co29 : Value).ownBlock) (.slice Ao29 t525.length co29) t525 (fun k_ => some k_ = (.slice Ao30 t528.length co30 : Value).ownBlock) (.slice Ao30 t528.length co30) t528 t548 t549 t550 t551 w _ ?side1 ?side2 ?side3 A55.out).mono ?_); (case side1 => repeat (first | (with_reducible first | exact HB.out | apply below_alloc | apply pw_below_drewN | apply below_drew1 | refine below_set ?_ GE505.out | refine below_set ?_ GE531.out) | exact HB.out)); (case side2 => exact Kd.R_tight rfl HO527.out); (case side3 => exact Kd.R_tight rfl HO530.out); rintro e w60 ⟨rfl, hy0, hy1, hb, hkp⟩; refine ⟨_, rfl, ?_⟩; have _ := Q_ (blk_kept (pk_ BK505.out) hkp (fun hs_ => Or.elim hs_ (fun e_ => (fun e_ => (Kd.R_ne HO527.out BK505.out (by decide)) e_) e_) (fun e_ => (fun e_ => (Kd.R_ne HO530.out BK505.out (by decide)) e_) e_))); have _ := Q_ (Kd.R_mono (ok' := fun k_ => some k_ ≠ (.slice Ao29 t525.length co29 : Value).ownBlock ∧ some k_ ≠ (.slice Ao50 t541.length co50 : Value).ownBlock) (Kd.R_keptB ((Kd.R_apart' HO514.out (Kd.R_typed HO530.out) (by decide))) hkp (fun k_ hk_ hs_ => Or.elim hs_ (fun e_ => (hk_.1.1) e_) (fun e_ => (hk_.2) e_))) (fun k_ hk_ => ⟨hk_.1.1.1, hk_.1.1.2⟩)); have _ := Q_ (Kd.R_mono (ok' := fun k_ => some k_ ≠ (.slice Ao30 t528.length co30 : Value).ownBlock ∧ some k_ ≠ (.slice Ao51 t544.length co51 : Value).ownBlock) (Kd.R_keptB ((Kd.R_apart' HO517.out (Kd.R_typed HO527.out) (by decide))) hkp (fun k_ hk_ hs_ => Or.elim hs_ (fun e_ => (hk_.2) e_) (fun e_ => (hk_.1.1) e_))) (fun k_ hk_ => ⟨hk_.1.1.1, hk_.1.1.2⟩)); have _ := Q_ (Kd.R_mono (ok' := fun k_ => some k_ ≠ (.slice Ao37 t532.length co37 : Value).ownBlock) (Kd.R_keptB ((Kd.R_apart' (Kd.R_apart' HO520.out (Kd.R_typed HO527.out) (by decide)) (Kd.R_typed HO530.out) (by decide))) hkp (fun k_ hk_ hs_ => Or.elim hs_ (fun e_ => (hk_.1.2) e_) (fun e_ => (hk_.2) e_))) (fun k_ hk_ => hk_.1.1.1)); have _ := Q_ (Kd.R_reok rfl hy0 (fun k_ e_ => HO527.out.1 k_ e_)); have _ := Q_ (Kd.R_reok rfl hy1 (fun k_ e_ => HO530.out.1 k_ e_)); have _ := Q_ (blk_kept (pk_ BK531.out) hkp (fun hs_ => Or.elim hs_ (fun e_ => (fun e_ => (Kd.R_ne HO527.out BK531.out (by decide)) e_) e_) (fun e_ => (fun e_ => (Kd.R_ne HO530.out BK531.out (by decide)) e_) e_))); have _ := Q_ (Kd.R_mono (ok' := fun k_ => some k_ ≠ (.slice Ao38 t518.length co38 : Value).ownBlock) (Kd.R_keptB ((Kd.R_apart' (Kd.R_apart' HO534.out (Kd.R_typed HO527.out) (by decide)) (Kd.R_typed HO530.out) (by decide))) hkp (fun k_ hk_ hs_ => Or.elim hs_ (fun e_ => (hk_.1.2) e_) (fun e_ => (hk_.2) e_))) (fun k_ hk_ => hk_.1.1.1)); have _ := Q_ (Kd.R_mono (ok' := fun k_ => some k_ ≠ (.slice Ao18 t512.length co18 : Value).ownBlock ∧ some k_ ≠ (.slice Ao29 t525.length co29 : Value).ownBlock) (Kd.R_keptB ((Kd.R_apart' HO543.out (Kd.R_typed HO530.out) (by decide))) hkp (fun k_ hk_ hs_ => Or.elim hs_ (fun e_ => (hk_.1.2) e_) (fun e_ => (hk_.2) e_))) (fun k_ hk_ => ⟨hk_.1.1.1, hk_.1.1.2⟩)); have _ := Q_ (Kd.R_mono (ok' := fun k_ => some k_ ≠ (.slice Ao19 t515.length co19 : Value).ownBlock ∧ some k_ ≠ (.slice Ao30 t528.length co30 : Value).ownBlock) (Kd.R_keptB ((Kd.R_apart' HO546.out (Kd.R_typed HO527.out) (by decide))) hkp (fun k_ hk_ hs_ => Or.elim hs_ (fun e_ => (hk_.2) e_) (fun e_ => (hk_.1.2) e_))) (fun k_ hk_ => ⟨hk_.1.1.1, hk_.1.1.2⟩)); have _ := Q_ (hb); clear BK505 HO514 HO517 HO520 HO527 HO530 BK531 HO534 HO543 HO546 HB; rename_i BK505 HO514 HO517 HO520 HO527 HO530 BK531 HO534 HO543 HO546 HB; (try clear hb); (try clear hkp); (try clear hy0); (try clear hy1)))
  (try simp only [Act.put, List.setIfInBounds_toArray, List.set_cons_zero, List.set_cons_succ])
  go_cut [63] (fun v63 wc => ∃ (kq : Nat) (x63_55 : Bool), v63 = .bool x63_55 ∧ Aside0 (laws_FnExactWorksWith.j0 kq l0 t518 t532 x63_55 a1_0 l1_1 l1_2 = some r) ∧ Aside0 (kq ≤ k) ∧ Aside0 (Kd.R (Kd.int .i64) 3 wc w.heap.size (fun k_ => some k_ ≠ ((.slice Ao37 t532.length co37) : Value).ownBlock) (.slice Ao38 t518.length co38) t518) ∧ Aside0 (Kd.R (Kd.int .i64) 3 wc w.heap.size (fun k_ => some k_ ≠ ((.slice Ao38 t518.length co38) : Value).ownBlock) (.slice Ao37 t532.length co37) t532) ∧ Aside0 (Kd.R Kd.bool 4 wc w.heap.size (fun _ => True) (.slice Ao29 t525.length co29) t550) ∧ Aside0 (Kd.R k78 78 wc w.heap.size (fun _ => True) (.slice Ao30 t528.length co30) t551) ∧ Aside0 (wc.heap[gb505]? = some (.cells #[.int .i64 a1_0, (.slice A1_1 l1_1.length c1_1), (.slice A1_2 l1_2.length c1_2)] 26 (0, 0))) ∧ Aside0 (wc.heap[gb531]? = some (.cells #[.int .i64 t524, (.slice Ao29 t525.length co29), (.slice Ao30 t528.length co30)] 34 (0, 0))) ∧ Aside0 (Below w.heap.size w wc))
  case first =>
    have H := HC56.out
    clear HC56
    by_cases c61 : t549 < 0
    · rw [if_pos c61] at H
      have c61b0 : decide (t549 < 0) = true := decide_eq_true c61
      clear c61
      (first | rw [c61b0] | (simp only [i64_w, i32_w]; rw [c61b0]) | skip)
      have H' := Q_ H
      clear H
      go_wp2
      go_meet
      case rel => exact ⟨_, (true), el_, H', ⟨by first | omega | exact Nat.le_refl _⟩, ⟨pr_ HO520.out⟩, ⟨pr_ HO534.out⟩, ⟨pr_ (Kd.R_mono HO527.out (fun _ hk => trivial))⟩, ⟨pr_ (Kd.R_mono HO530.out (fun _ hk => trivial))⟩, ⟨pk_ BK505.out⟩, ⟨pk_ BK531.out⟩, ⟨pb2_ HB.out GE505.out GE531.out⟩⟩
    rw [if_neg c61] at H
    have c61b0 : decide (t549 < 0) = false := decide_eq_false c61
    clear c61
    (first | rw [c61b0] | (simp only [i64_w, i32_w]; rw [c61b0]) | skip)
    replace H := Option.bind_eq_some_iff.mp H
    obtain ⟨t552, A620, H⟩ := H
    replace H : (laws_FnExactWorksWith.j0 k l0 t518 t532 (!t552) a1_0 l1_1 l1_2) = some r := H
    have A62 := Q_ A620
    clear A620
    have H' := Q_ H
    clear H
    go_wp2_with (first | (go_at_call 19; (with_reducible refine (laws_eqIntS.calls k _ _ t532 _ _ t518 t552 _ ?side1 ?side2 ?side3 ?side4 A62.out).mono ?_); (case side1 => exact pc_ ((Kd.R_reads' HO534.out).2.2)); (case side2 => exact (Kd.R_reads' HO534.out).2.1); (case side3 => exact pc_ ((Kd.R_reads' HO520.out).2.2)); (case side4 => exact (Kd.R_reads' HO520.out).2.1); rintro e w' ⟨rfl, ⟨nd, rfl⟩⟩))
    go_meet
    case rel => exact ⟨_, (!t552), el_, H', ⟨by first | omega | exact Nat.le_refl _⟩, ⟨pr_ HO520.out⟩, ⟨pr_ HO534.out⟩, ⟨pr_ (Kd.R_mono HO527.out (fun _ hk => trivial))⟩, ⟨pr_ (Kd.R_mono HO530.out (fun _ hk => trivial))⟩, ⟨pk_ BK505.out⟩, ⟨pk_ BK531.out⟩, ⟨pb2_ HB.out GE505.out GE531.out⟩⟩
  clear HC56
  try clear c1
  try clear c2
  try clear p2
  try clear c3
  try clear c4
  try clear c5
  try clear c6
  try clear c6b0
  try clear c10
  try clear c10b0
  try clear c12
  try clear c13
  try clear c15
  try clear c16
  try clear c17
  try clear c18
  try clear c19
  try clear c20
  try clear c21
  try clear c27
  try clear c32
  try clear c39
  try clear c45
  try clear c53
  try clear c58
  try clear c61
  try clear c61b0
  try clear hcz24
  try clear hcz28
  try clear hcz33
  try clear hcz59
  try clear hcz8
  obtain ⟨kq, x63_55, rfl, HA, HJ55, HO_6, HO_9, HO_532001, HO_532002, BK505, BK531, HB⟩ := hcut
  have hl532001_55 := (Kd.R_reads' HO_532001.out).1
  rw [hl532001_55] at HO_532001
  (try simp only [hl532001_55])
  (try simp only [hl532001_55] at BK505)
  (try simp only [hl532001_55] at BK531)
  (try simp only [hl532001_55] at HO_6)
  (try simp only [hl532001_55] at HO_9)
  (try simp only [hl532001_55] at HO_532002)
  have hl532002_55 := (Kd.R_reads' HO_532002.out).1
  rw [hl532002_55] at HO_532002
  (try simp only [hl532002_55])
  (try simp only [hl532002_55] at BK505)
  (try simp only [hl532002_55] at BK531)
  (try simp only [hl532002_55] at HO_6)
  (try simp only [hl532002_55] at HO_9)
  (try simp only [hl532002_55] at HO_532001)
  rcases kq with _ | kj55
  · exact absurd HA.out (by simp [laws_FnExactWorksWith.j0])
  have H := HA.out
  clear HA
  simp only [laws_FnExactWorksWith.j0] at H
  by_cases c63 : x63_55 = true
  · subst c63
    rw [if_pos rfl] at H
    obtain rfl := Option.some.inj H
    go_wp2
    go_ret
    exact ⟨er_, pb2_ HB.out GE505.out GE531.out⟩
  replace c63 := Bool.eq_false_iff.mpr c63
  subst c63
  rw [if_neg (show ¬ (false = true) by decide)] at H
  replace H := Option.bind_eq_some_iff.mp H
  obtain ⟨⟨t553, t554⟩, A640, H⟩ := H
  (try dsimp only at H)
  have A64 := Q_ A640
  clear A640
  have HS_ := Q_ H
  clear H
  go_upto_region 26 with (first | ((with_reducible refine gate_callee (f := 22) rfl ?_); refine gl_ (some 66) Try.func22 #[.slice Ao37 t532.length co37, .int .i64 1] ?_; (with_reducible refine (laws_markIntS.calls kj55 (fun k_ => some k_ = (.slice Ao37 t532.length co37 : Value).ownBlock) (.slice Ao37 t532.length co37) t532 1 t553 t554 w _ ?side1 ?side2 A64.out).mono ?_); (case side1 => repeat (first | (with_reducible first | exact HB.out | apply below_alloc | apply pw_below_drewN | apply below_drew1 | refine below_set ?_ GE505.out | refine below_set ?_ GE531.out) | exact HB.out)); (case side2 => exact Kd.R_tight rfl HO_9.out); rintro e w65 ⟨rfl, hy0, hb, hkp⟩; refine ⟨_, rfl, ?_⟩; have _ := Q_ (Kd.R_mono (ok' := fun k_ => some k_ ≠ (.slice Ao37 t532.length co37 : Value).ownBlock) (Kd.R_keptB (HO_6.out) hkp (fun k_ hk_ hs_ => (hk_) hs_)) (fun k_ hk_ => hk_.1)); have _ := Q_ (Kd.R_reok rfl hy0 (fun k_ e_ => HO_9.out.1 k_ e_)); have _ := Q_ (Kd.R_mono (ok' := fun k_ => True) (Kd.R_keptB ((Kd.R_apart' HO_532001.out (Kd.R_typed HO_9.out) (by decide))) hkp (fun k_ hk_ hs_ => (hk_.2) hs_)) (fun k_ hk_ => trivial)); have _ := Q_ (Kd.R_mono (ok' := fun k_ => True) (Kd.R_keptB ((Kd.R_apart' HO_532002.out (Kd.R_typed HO_9.out) (by decide))) hkp (fun k_ hk_ hs_ => (hk_.2) hs_)) (fun k_ hk_ => trivial)); have _ := Q_ (blk_kept (pk_ BK505.out) hkp (fun hs_ => (fun e_ => (Kd.R_ne HO_9.out BK505.out (by decide)) e_) hs_)); have _ := Q_ (blk_kept (pk_ BK531.out) hkp (fun hs_ => (fun e_ => (Kd.R_ne HO_9.out BK531.out (by decide)) e_) hs_)); have _ := Q_ (hb); clear HO_6 HO_9 HO_532001 HO_532002 BK505 BK531 HB; rename_i HO_6 HO_9 HO_532001 HO_532002 BK505 BK531 HB; (try clear hb); (try clear hkp); (try clear hy0)))
  (try simp only [Act.put, List.setIfInBounds_toArray, List.set_cons_zero, List.set_cons_succ])
  have H := HS_.out
  clear HS_
  replace H := Option.bind_eq_some_iff.mp H
  obtain ⟨t555, A660, H⟩ := H
  (try dsimp only at H)
  have A66 := Q_ A660
  clear A660
  have HS_ := Q_ H
  clear H
  go_upto_if 71 with (first | ((with_reducible refine gate_callee (f := 23) rfl ?_); refine goesL_ (some 69) rfl rfl Try.func23 (by kernel_rfl) rfl #[.slice Ao37 t554.length co37, .int .i64 1] rfl (by (try simp only [List.map_toArray, List.map_cons, List.map_nil]); first | done | (rw [show t554.length = t532.length from (Kd.R_reads' HO_9.out).1.symm] <;> rfl) | rfl | (simp only [List.length_drop, List.length_take]; rfl)) ?_; (with_reducible refine (laws_heldIntS.calls kj55 _ _ t554 1 t555 _ ?side1 ?side2 A66.out).mono ?_); (case side1 => exact pc_ ((Kd.R_reads' HO_9.out).2.2)); (case side2 => rw [show t554.length = t532.length from (Kd.R_reads' HO_9.out).1.symm]; exact (Kd.R_reads' HO_9.out).2.1); rintro e w' ⟨rfl, ⟨nd, rfl⟩⟩; refine ⟨_, rfl, ?_⟩))
  (try simp only [Act.put, List.setIfInBounds_toArray, List.set_cons_zero, List.set_cons_succ])
  have H := HS_.out
  clear HS_
  by_cases c67 : t555 < 0
  · rw [if_pos c67] at H
    have c67b0 : decide (t555 < 0) = true := decide_eq_true c67
    clear c67
    (first | rw [c67b0] | (simp only [i64_w, i32_w]; rw [c67b0]) | skip)
    obtain rfl := Option.some.inj H
    go_wp2
    go_ret
    exact ⟨er_, pb2_ HB.out GE505.out GE531.out⟩
  rw [if_neg c67] at H
  have c67b0 : decide (t555 < 0) = false := decide_eq_false c67
  clear c67
  (first | rw [c67b0] | (simp only [i64_w, i32_w]; rw [c67b0]) | skip)
  by_cases c68 : t555 = t553
  rotate_left
  · rw [if_neg c68] at H
    have c68b0 : (t555 == t553) = false := beq_eq_false_iff_ne.mpr c68
    have c68b1 : (t555 != t553) = true := bne_iff_ne.mpr c68
    obtain rfl := Option.some.inj H
    go_wp2
    go_ret
    exact ⟨er_, pb2_ HB.out GE505.out GE531.out⟩
  rw [if_pos c68] at H
  have c68b0 : (t555 == t553) = true := beq_iff_eq.mpr c68
  have c68b1 : (t555 != t553) = false := bne_eq_false_iff_eq.mpr c68
  clear c68
  replace H := Option.bind_eq_some_iff.mp H
  obtain ⟨t556, A690, H⟩ := H
  (try dsimp only at H)
  have A69 := Q_ A690
  clear A690
  replace H := Option.bind_eq_some_iff.mp H
  obtain ⟨⟨t559, t560, t563⟩, A700, H⟩ := H
  (try dsimp only at H)
  have A70 := Q_ A700
  clear A700
  replace H := Option.bind_eq_some_iff.mp H
  obtain ⟨t566, A710, H⟩ := H
  (try dsimp only at H)
  have A71 := Q_ A710
  clear A710
  have HS_ := Q_ H
  clear H
  try go_wp2
  (try (rw [drewN_self w65]; generalize hq_ : World.drewN w65 _ = w65; have n0_ : Aside0 (Kd.R Kd.bool 4 w65 w.heap.size (fun _ => True) (.slice Ao29 t550.length co29) t550) := ⟨by rw [← hq_]; exact (pr_ HO_532001.out)⟩; have n1_ : Aside0 (Kd.R k78 78 w65 w.heap.size (fun _ => True) (.slice Ao30 t551.length co30) t551) := ⟨by rw [← hq_]; exact (pr_ HO_532002.out)⟩; have n2_ : Aside0 (Kd.R (Kd.int .i64) 3 w65 w.heap.size (fun k_ => some k_ ≠ (.slice Ao37 t532.length co37 : Value).ownBlock) (.slice Ao38 t518.length co38) t518) := ⟨by rw [← hq_]; exact (pr_ HO_6.out)⟩; have n3_ : Aside0 (Kd.R (Kd.int .i64) 3 w65 w.heap.size (fun k_ => some k_ ≠ (.slice Ao38 t518.length co38 : Value).ownBlock) (.slice Ao37 t532.length co37) t554) := ⟨by rw [← hq_]; exact (pr_ HO_9.out)⟩; have n4_ : Aside0 (w65.heap[gb505]? = some (.cells #[.int .i64 a1_0, .slice A1_1 l1_1.length c1_1, .slice A1_2 l1_2.length c1_2] 26 (0, 0))) := ⟨by rw [← hq_]; exact (pk_ BK505.out)⟩; have n5_ : Aside0 (w65.heap[gb531]? = some (.cells #[.int .i64 t524, .slice Ao29 t550.length co29, .slice Ao30 t551.length co30] 34 (0, 0))) := ⟨by rw [← hq_]; exact (pk_ BK531.out)⟩; have n6_ : Aside0 (Below w.heap.size w w65) := ⟨by rw [← hq_]; exact (pb2_ HB.out GE505.out GE531.out)⟩; clear HO_532001 HO_532002 HO_6 HO_9 BK505 BK531 HB hq_; have HO_532001 := n0_; have HO_532002 := n1_; have HO_6 := n2_; have HO_9 := n3_; have BK505 := n4_; have BK531 := n5_; have HB := n6_; clear n0_ n1_ n2_ n3_ n4_ n5_ n6_))
  have _ := Q_ (Kd.R_drew HO_6.out)
  have _ := Q_ (Kd.R_drew HO_9.out)
  have _ := Q_ (Kd.R_drew HO_532001.out)
  have _ := Q_ (Kd.R_drew HO_532002.out)
  have _ := Q_ (blk_drew BK505.out)
  have _ := Q_ (blk_drew BK531.out)
  have _ := Q_ (below_drew1 HB.out)
  clear HO_6 HO_9 HO_532001 HO_532002 BK505 BK531 HB
  rename_i HO_6 HO_9 HO_532001 HO_532002 BK505 BK531 HB
  refine start_ (n := 6) (S := fun w' => w'.cell? ⟨gb505, 0, none⟩ = some (.int .i64 a1_0) ∧ w'.cell? ⟨gb505, 1, none⟩ = some (.slice A1_1 l1_1.length c1_1) ∧ w'.cell? ⟨gb505, 2, none⟩ = some (.slice A1_2 l1_2.length c1_2)) (ds := []) (tf_ 0 6) (by kernel_rfl) rfl rfl (sb_ BK505.out) (fun hHeld => ?_)
  generalize w65.drew = w72 at HO_6 HO_9 HO_532001 HO_532002 BK505 BK531 HB hHeld ⊢
  refine pure_ (i := 0) (N := some 75) (v := ?_) (a' := ?_) #[true, false, false, false, false, false] rfl rfl (by kernel_rfl) (fun _ _ _ h => h) (Or.inl ⟨by rfl, ?_⟩) ?_ ?_
  rotate_left
  · intro w'
    go_simp
    (try (simp only [Instr.field]; simp only [underlying, hu26, hu34]; go_simp; simp only [asAgg]; go_simp))
    with_reducible rfl
  rotate_left
  · simp only [Act.put, List.setIfInBounds_toArray, List.set_cons_zero, List.set_cons_succ, i64_w, i32_w]
    rfl
  refine take_ (i := 2) (N := some 77) (v := ?_) (a' := ?_) #[true, false, true, false, false, false] rfl rfl (by kernel_rfl) (fun _ _ _ h => h) (Or.inl ⟨by rfl, ?_⟩) hHeld ?_ ?_
  rotate_left
  · rintro w' ⟨s0, s1, s2⟩
    go_simp
    (try (simp only [Instr.field]; simp only [underlying, hu26, hu34]; go_simp; simp only [asAgg]; go_simp))
    with_reducible rfl
  rotate_left
  · simp only [Act.put, List.setIfInBounds_toArray, List.set_cons_zero, List.set_cons_succ, i64_w, i32_w]
    rfl
  refine one_ (i := 1) (N := some 76) #[true, true, true, false, false, false] rfl rfl (by kernel_rfl) (by decide) (fun K hK => ?_)
  refine goes_ Try.func12 (by kernel_rfl) rfl #[.slice A0 l0.length c0] (by rfl) rfl rfl mp_ ?_
  with_reducible refine (laws_toMachineS.calls kj55 _ _ l0 t556 _ ?side1 ?side2 A69.out).mono ?_
  (case side1 => exact cb_ HR0 HB)
  (case side2 => exact HC0.out)
  rintro e w73 ⟨v557, rfl, ho0, hb⟩
  refine ⟨_, rfl, ?_⟩
  have _ := Q_ (Kd.R_below (pr_ HO_6.out) hb)
  have _ := Q_ (Kd.R_below (pr_ HO_9.out) hb)
  have _ := Q_ (Kd.R_below (pr_ HO_532001.out) hb)
  have _ := Q_ (Kd.R_below (pr_ HO_532002.out) hb)
  have _ := Q_ (Kd.S_lower (Kd.S_newB (Kd.S_new' (Kd.S_new' ho0 (Kd.R_lt (pr_ HO_532001.out))) (Kd.R_lt (pr_ HO_532002.out))) (g := gb531) (o := .cells #[.int .i64 t524, .slice Ao29 t550.length co29, .slice Ao30 t551.length co30] 34 (0, 0)) (pk_ BK531.out)) (below_size (pb2_ HB.out GE505.out GE531.out)))
  have _ := Q_ (bb_ BK505.out hb)
  have _ := Q_ (bb_ BK531.out hb)
  have _ := Q_ (below_step (pb2_ HB.out GE505.out GE531.out) hb)
  clear HO_6 HO_9 HO_532001 HO_532002 BK505 BK531 HB
  rename_i HO_6 HO_9 HO_532001 HO_532002 HO558 BK505 BK531 HB
  (try clear hb)
  (try clear hb2)
  (try clear hk)
  (try clear hi)
  (try clear ho0)
  refine hK.out _ _ (sb_ BK505.out) (fun hHeld => ?_)
  clear hK K
  refine no_ (some 76) ?_
  refine one_ (i := 3) (N := some 78) #[true, true, true, true, false, false] rfl rfl (by kernel_rfl) (by decide) (fun K hK => ?_)
  refine goes_ Try.func13 (by kernel_rfl) rfl #[.agg #[.int .i64 a1_0, .slice A1_1 l1_1.length c1_1, .slice A1_2 l1_2.length c1_2]] (by rfl) rfl rfl mp_ ?_
  with_reducible refine (laws_toMachine.calls kj55 a1_0 _ _ l1_1 _ _ l1_2 t559 t560 t563 _ ?side1 ?side2 ?side3 ?side4 A70.out).mono ?_
  (case side1 => exact cb_ HR1_1 HB)
  (case side2 => exact HC1_1.out)
  (case side3 => exact cb_ HR1_2 HB)
  (case side4 => exact HC1_2.out)
  rintro e w74 ⟨v561, v564, rfl, ho0, ho1, hb⟩
  refine ⟨_, rfl, ?_⟩
  have _ := Q_ (Kd.R_below (pr_ HO_6.out) hb)
  have _ := Q_ (Kd.R_below (pr_ HO_9.out) hb)
  have _ := Q_ (Kd.R_elder' (pr_ HO_532001.out) (Kd.R_base ho0) hb)
  have _ := Q_ (Kd.R_elder' (pr_ HO_532002.out) (Kd.R_base ho1) hb)
  have _ := Q_ (Kd.S_mono (Kd.S_told (Kd.S_told (Kd.S_old (ps_ HO558.out) hb) (Kd.R_base ho0)) (Kd.R_base ho1)) (fun _ h_ => h_.1))
  have _ := Q_ (Kd.R_lower (Kd.R_new' ho0 (Kd.R_lt (pr_ HO_532001.out))) (below_size (pb2_ HB.out GE505.out GE531.out)))
  have _ := Q_ (Kd.R_lower (Kd.R_new' ho1 (Kd.R_lt (pr_ HO_532002.out))) (below_size (pb2_ HB.out GE505.out GE531.out)))
  have _ := Q_ (bb_ BK505.out hb)
  have _ := Q_ (bb_ BK531.out hb)
  have _ := Q_ (below_step (pb2_ HB.out GE505.out GE531.out) hb)
  clear HO_6 HO_9 HO_532001 HO_532002 HO558 BK505 BK531 HB
  rename_i HO_6 HO_9 HO_532001 HO_532002 HO558 HO562 HO565 BK505 BK531 HB
  (try clear hb)
  (try clear hb2)
  (try clear hk)
  (try clear hi)
  (try clear ho0)
  (try clear ho1)
  obtain ⟨Ao75, co75, eo75⟩ := Kd.S_slice HO558.out
  (first | subst eo75 | (injection eo75 with f1_ f2_ f3_; have f4_ := f1_.symm; have f5_ := f3_.symm; clear f1_ f2_ f3_; subst f4_; subst f5_))
  obtain ⟨Ao76, co76, eo76⟩ := Kd.R_slice HO562.out
  (first | subst eo76 | (injection eo76 with f1_ f2_ f3_; have f4_ := f1_.symm; have f5_ := f3_.symm; clear f1_ f2_ f3_; subst f4_; subst f5_))
  obtain ⟨Ao77, co77, eo77⟩ := Kd.R_slice HO565.out
  (first | subst eo77 | (injection eo77 with f1_ f2_ f3_; have f4_ := f1_.symm; have f5_ := f3_.symm; clear f1_ f2_ f3_; subst f4_; subst f5_))
  refine hK.out _ _ (sb_ BK505.out) (fun hHeld => ?_)
  clear hK K
  refine no_ (some 78) ?_
  refine one_ (i := 4) (N := some 79) #[true, true, true, true, true, false] rfl rfl (by kernel_rfl) (by decide) (fun K hK => ?_)
  refine goes_ Try.func18 (by kernel_rfl) rfl #[.slice Ao75 t556.length co75, .agg #[.int .i64 t559, .slice Ao76 t560.length co76, .slice Ao77 t563.length co77]] (by rfl) rfl rfl mp_ ?_
  with_reducible refine (impl_WorksWith.calls kj55 _ _ t556 t559 _ _ t560 _ _ t563 t566 _ ?side1 ?side2 ?side3 ?side4 ?side5 ?side6 A71.out).mono ?_
  (case side1 => exact pc_ ((Kd.S_reads' HO558.out).2.2))
  (case side2 => exact (Kd.S_reads' HO558.out).2.1)
  (case side3 => exact pc_ ((Kd.R_reads' HO562.out).2.2))
  (case side4 => exact (Kd.R_reads' HO562.out).2.1)
  (case side5 => exact pc_ ((Kd.R_reads' HO565.out).2.2))
  (case side6 => exact (Kd.R_reads' HO565.out).2.1)
  rintro e w78 ⟨v567, rfl, ho0, hb⟩
  refine ⟨_, rfl, ?_⟩
  have _ := Q_ (Kd.R_elder' (pr_ HO_6.out) (Kd.R_base ho0) hb)
  have _ := Q_ (Kd.R_elder' (pr_ HO_9.out) (Kd.R_base ho0) hb)
  have _ := Q_ (Kd.R_below (pr_ HO_532001.out) hb)
  have _ := Q_ (Kd.R_below (pr_ HO_532002.out) hb)
  have _ := Q_ (Kd.S_below (ps_ HO558.out) hb)
  have _ := Q_ (Kd.R_below (pr_ HO562.out) hb)
  have _ := Q_ (Kd.R_below (pr_ HO565.out) hb)
  have _ := Q_ (Kd.R_lower (Kd.R_new' (Kd.R_new' ho0 (Kd.R_lt (pr_ HO_6.out))) (Kd.R_lt (pr_ HO_9.out))) (below_size (pb2_ HB.out GE505.out GE531.out)))
  have _ := Q_ (bb_ BK505.out hb)
  have _ := Q_ (bb_ BK531.out hb)
  have _ := Q_ (below_step (pb2_ HB.out GE505.out GE531.out) hb)
  clear HO_6 HO_9 HO_532001 HO_532002 HO558 HO562 HO565 BK505 BK531 HB
  rename_i HO_6 HO_9 HO_532001 HO_532002 HO558 HO562 HO565 HO568 BK505 BK531 HB
  (try clear hb)
  (try clear hb2)
  (try clear hk)
  (try clear hi)
  (try clear ho0)
  refine hK.out _ _ (sb_ BK505.out) (fun hHeld => ?_)
  clear hK K
  refine no_ (some 79) ?_
  refine pure_ (i := 5) (N := some 13) (v := ?_) (a' := ?_) #[true, true, true, true, true, true] rfl rfl (by kernel_rfl) (fun _ _ _ h => h) (Or.inl ⟨by rfl, ?_⟩) ?_ ?_
  rotate_left
  · intro w'
    go_simp
    (try (simp only [Instr.field]; simp only [underlying, hu26, hu34]; go_simp; simp only [asAgg]; go_simp))
    with_reducible rfl
  rotate_left
  · simp only [Act.put, List.setIfInBounds_toArray, List.set_cons_zero, List.set_cons_succ, i64_w, i32_w]
    rfl
  refine done_ (by kernel_rfl) ?_
  go_upto_region 32 with (fail)
  have H := HS_.out
  clear HS_
  replace H := Option.bind_eq_some_iff.mp H
  obtain ⟨t569, A790, H⟩ := H
  (try dsimp only at H)
  have A79 := Q_ A790
  clear A790
  have HS_ := Q_ H
  clear H
  obtain ⟨Ao80, co80, eo80⟩ := Kd.R_slice HO568.out
  subst eo80
  go_upto_if 83 with (first | ((with_reducible refine gate_callee (f := 19) rfl ?_); refine gl_ (some 82) Try.func19 #[.slice Ao80 t566.length co80, .slice Ao38 t518.length co38] ?_; (with_reducible refine (laws_eqIntS.calls kj55 _ _ t566 _ _ t518 t569 _ ?side1 ?side2 ?side3 ?side4 A79.out).mono ?_); (case side1 => exact pc_ ((Kd.R_reads' HO568.out).2.2)); (case side2 => exact (Kd.R_reads' HO568.out).2.1); (case side3 => exact pc_ ((Kd.R_reads' HO_6.out).2.2)); (case side4 => exact (Kd.R_reads' HO_6.out).2.1); rintro e w' ⟨rfl, ⟨nd, rfl⟩⟩; refine ⟨_, rfl, ?_⟩))
  (try simp only [Act.put, List.setIfInBounds_toArray, List.set_cons_zero, List.set_cons_succ])
  have H := HS_.out
  clear HS_
  by_cases c81 : t569 = true
  rotate_left
  · replace c81 := Bool.eq_false_iff.mpr c81
    subst c81
    rw [if_neg (show ¬ (false = true) by decide)] at H
    obtain rfl := Option.some.inj H
    go_wp2
    go_ret
    exact ⟨er_, pb2_ HB.out GE505.out GE531.out⟩
  subst c81
  rw [if_pos rfl] at H
  replace H := Option.bind_eq_some_iff.mp H
  obtain ⟨t570, A820, H⟩ := H
  (try dsimp only at H)
  have A82 := Q_ A820
  clear A820
  have HS_ := Q_ H
  clear H
  go_upto_if 88 with (first | ((with_reducible refine gate_callee (f := 23) rfl ?_); refine goesL_ (some 86) rfl rfl Try.func23 (by kernel_rfl) rfl #[.slice Ao37 t554.length co37, .int .i64 1] rfl (by (try simp only [List.map_toArray, List.map_cons, List.map_nil]); first | done | (rw [show t554.length = t532.length from (Kd.R_reads' HO_9.out).1.symm] <;> rfl) | rfl | (simp only [List.length_drop, List.length_take]; rfl)) ?_; (with_reducible refine (laws_heldIntS.calls kj55 _ _ t554 1 t570 _ ?side1 ?side2 A82.out).mono ?_); (case side1 => exact pc_ ((Kd.R_reads' HO_9.out).2.2)); (case side2 => rw [show t554.length = t532.length from (Kd.R_reads' HO_9.out).1.symm]; exact (Kd.R_reads' HO_9.out).2.1); rintro e w' ⟨rfl, ⟨nd, rfl⟩⟩; refine ⟨_, rfl, ?_⟩))
  (try simp only [Act.put, List.setIfInBounds_toArray, List.set_cons_zero, List.set_cons_succ])
  have H := HS_.out
  clear HS_
  by_cases c83 : t570 < 0
  · rw [if_pos c83] at H
    have c83b0 : decide (t570 < 0) = true := decide_eq_true c83
    clear c83
    (first | rw [c83b0] | (simp only [i64_w, i32_w]; rw [c83b0]) | skip)
    obtain rfl := Option.some.inj H
    go_wp2
    go_ret
    exact ⟨er_, pb2_ HB.out GE505.out GE531.out⟩
  rw [if_neg c83] at H
  have c83b0 : decide (t570 < 0) = false := decide_eq_false c83
  clear c83
  (first | rw [c83b0] | (simp only [i64_w, i32_w]; rw [c83b0]) | skip)
  by_cases c84 : t570 = t553
  rotate_left
  · rw [if_neg c84] at H
    have c84b0 : (t570 == t553) = false := beq_eq_false_iff_ne.mpr c84
    have c84b1 : (t570 != t553) = true := bne_iff_ne.mpr c84
    obtain rfl := Option.some.inj H
    go_wp2
    go_ret
    exact ⟨er_, pb2_ HB.out GE505.out GE531.out⟩
  rw [if_pos c84] at H
  have c84b0 : (t570 == t553) = true := beq_iff_eq.mpr c84
  have c84b1 : (t570 != t553) = false := bne_eq_false_iff_eq.mpr c84
  clear c84
  obtain rfl := Option.some.inj H
  go_wp2
  go_ret
  exact ⟨er_, pb2_ HB.out GE505.out GE531.out⟩

/-- THE ONE PURE STATEMENT of laws_FnExactWorksWith: yours. -/
def laws_FnExactWorksWith.Pure : Prop := ∀ (x0 : List (S26)) (x1 : S26), (x0.length * 56 ≤ 140737488351232 ∧ ∀ y ∈ x0, Q26 y) → Q26 x1 → ∃ k, laws_FnExactWorksWith.f k x0 x1.f0 x1.f1 x1.f2 = some true

end Go.Proofs.Ytldcchjbaglppaa.Print
