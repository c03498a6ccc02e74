-- Written by a program of this session (printx.py) out of the translation; Lean checks it.
import Derived.Test.YtdoefkloanpliaaPrint0
import Derived.Test.YtdoefkloanpliaaPrint1
import Derived.Test.YtdoefkloanpliaaPrint2
import Derived.Test.YtdoefkloanpliaaPrint4
namespace Go.Proofs.Ytdoefkloanpliaa.Print
open Go.RowKit Go.Proofs.YtdoefkloanpliaaW.PrintWords Go.Proofs.YtdoefkloanpliaaW.PrintLast Go.Proofs.YtdoefkloanpliaaW.PrintMore Go.Proofs.Ytdoefkloanpliaa.Short
attribute [local go_sem] max2_int min2_int max_two min_two max_three min_three max_four min_four   -- for this text's walks alone
set_option linter.unusedVariables false
set_option linter.unusedSimpArgs false

/-! ### laws_FnExactStranded: function 5 -/
def laws_FnExactStranded.j0 : Nat → List Int → List (List Int) → Int → List Int → List Int → Bool → Option (Bool)
  | 0, _, _, _, _, _, _ => none
  | k + 1, x0, x1, x2, x8, x11, x65 => if x65 = true then (some false) else ((laws_markIntS.f k x11 1).bind fun bt238 => ((laws_heldIntS.f k bt238.2 1).bind fun t240 => (if t240 < 0 then (some false) else (if t240 = bt238.1 then ((laws_toIntS.f k x0).bind fun t241 => ((laws_toIntSS.f k x1).bind fun t244 => ((impl_Stranded.f k t241 t244 x2).bind fun t247 => ((laws_eqIntS.f k t247 x8).bind fun t250 => (if t250 = true then ((laws_heldIntS.f k bt238.2 1).bind fun t251 => (if t251 < 0 then (some false) else (if t251 = bt238.1 then (some true) else (some false)))) else (some false)))))) else (some false)))))
def laws_FnExactStranded.f (k : Nat) (l0 : List Int) (l1 : List (List Int)) (a2 : Int) : Option (Bool) := if (l0.length : Int) > 1048576 then (some true) else ((laws_szIntSS.f k l1 1048576).bind fun t206 => (if t206 < 0 then (some true) else ((laws_toIntS.f k l0).bind fun t207 => ((laws_toIntSS.f k l1).bind fun t210 => ((spec_Stranded.f k t207 t210 a2).bind fun t213 => ((laws_toIntS.f k l0).bind fun t216 => ((laws_toIntSS.f k l1).bind fun t219 => ((impl_Stranded.f k t216 t219 a2).bind fun t222 => ((laws_eqIntS.f k t222 t213).bind fun t225 => (if t225 = true then ((laws_toIntS.f k l0).bind fun t226 => ((laws_eqIntS.f k t216 t226).bind fun t229 => (if t229 = true then ((laws_toIntSS.f k l1).bind fun t230 => ((laws_eqIntSS.f k t219 t230).bind fun t233 => (if t233 = true then ((laws_markIntS.f k t216 1).bind fun bt234 => ((laws_markIntSS.f k t219 bt234.1).bind fun t236 => (if t236 < 0 then (laws_FnExactStranded.j0 k l0 l1 a2 t213 t222 true) else ((laws_eqIntS.f k t222 t213).bind fun t237 => (laws_FnExactStranded.j0 k l0 l1 a2 t213 t222 (!t237)))))) else (some false)))) else (some false)))) else (some false)))))))))))
theorem laws_FnExactStranded.mono_l : ∀ k, (∀ y0 y1 y2 y3 y4 y5, LeO (laws_FnExactStranded.j0 k y0 y1 y2 y3 y4 y5) (laws_FnExactStranded.j0 (k + 1) y0 y1 y2 y3 y4 y5))
  | 0 => fun _ _ _ _ _ _ r h => by simp [laws_FnExactStranded.j0] at h
  | k + 1 => by
    have ih0 := laws_FnExactStranded.mono_l k
    · intro y0 y1 y2 y3 y4 y5
      unfold laws_FnExactStranded.j0
      repeat' first
      | (with_reducible exact ih0 _ _ _ _ _ _)
      | (with_reducible exact impl_Stranded.mono _ _ _ _)
      | (with_reducible exact laws_eqIntS.mono _ _ _)
      | (with_reducible exact laws_eqIntSS.mono _ _ _)
      | (with_reducible exact laws_heldIntS.mono _ _ _)
      | (with_reducible exact laws_markIntS.mono _ _ _)
      | (with_reducible exact laws_markIntSS.mono _ _ _)
      | (with_reducible exact laws_szIntSS.mono _ _ _)
      | (with_reducible exact laws_toIntS.mono _ _)
      | (with_reducible exact laws_toIntSS.mono _ _)
      | (with_reducible exact spec_Stranded.mono _ _ _ _)
      | (with_reducible exact LeO.refl _)
      | (with_reducible exact LeO.none _)
      | (with_reducible refine LeO.ite ?_ ?_)
      | (with_reducible refine LeO.bind ?_ (fun _ => ?_))
      | exact ih0 _ _ _ _ _ _
      | exact impl_Stranded.mono _ _ _ _
      | exact laws_eqIntS.mono _ _ _
      | exact laws_eqIntSS.mono _ _ _
      | exact laws_heldIntS.mono _ _ _
      | exact laws_markIntS.mono _ _ _
      | exact laws_markIntSS.mono _ _ _
      | exact laws_szIntSS.mono _ _ _
      | exact laws_toIntS.mono _ _
      | exact laws_toIntSS.mono _ _
      | exact spec_Stranded.mono _ _ _ _
      | exact LeO.none _
      | refine LeO.ite ?_ ?_
      | refine LeO.bind ?_ (fun _ => ?_)
theorem laws_FnExactStranded.mono : ∀ a0 a1 a2 k, LeO (laws_FnExactStranded.f k a0 a1 a2) (laws_FnExactStranded.f (k + 1) a0 a1 a2) := by
  intro a0 a1 a2 k
  have ih0 := laws_FnExactStranded.mono_l k
  unfold laws_FnExactStranded.f
  repeat' first
      | (with_reducible exact ih0 _ _ _ _ _ _)
      | (with_reducible exact impl_Stranded.mono _ _ _ _)
      | (with_reducible exact laws_eqIntS.mono _ _ _)
      | (with_reducible exact laws_eqIntSS.mono _ _ _)
      | (with_reducible exact laws_heldIntS.mono _ _ _)
      | (with_reducible exact laws_markIntS.mono _ _ _)
      | (with_reducible exact laws_markIntSS.mono _ _ _)
      | (with_reducible exact laws_szIntSS.mono _ _ _)
      | (with_reducible exact laws_toIntS.mono _ _)
      | (with_reducible exact laws_toIntSS.mono _ _)
      | (with_reducible exact spec_Stranded.mono _ _ _ _)
      | (with_reducible exact LeO.refl _)
      | (with_reducible exact LeO.none _)
      | (with_reducible refine LeO.ite ?_ ?_)
      | (with_reducible refine LeO.bind ?_ (fun _ => ?_))
      | exact ih0 _ _ _ _ _ _
      | exact impl_Stranded.mono _ _ _ _
      | exact laws_eqIntS.mono _ _ _
      | exact laws_eqIntSS.mono _ _ _
      | exact laws_heldIntS.mono _ _ _
      | exact laws_markIntS.mono _ _ _
      | exact laws_markIntSS.mono _ _ _
      | exact laws_szIntSS.mono _ _ _
      | exact laws_toIntS.mono _ _
      | exact laws_toIntSS.mono _ _
      | exact spec_Stranded.mono _ _ _ _
      | exact LeO.none _
      | refine LeO.ite ?_ ?_
      | refine LeO.bind ?_ (fun _ => ?_)
set_option maxHeartbeats 8000000 in
set_option maxRecDepth 100000 in
theorem laws_FnExactStranded.calls (k : Nat) (A0 : Option Addr) (c0 : Nat) (l0 : List Int) (A1 : Option Addr) (c1 : Nat) (l1 : List (List Int)) (a2 : Int) (r : Bool) (w : World) (hr0 : Kd.C (Kd.int .i64) w A0 l0.length l0) (hc0 : l0.length ≤ c0) (hr1 : Kd.C (Kd.slice 3 (Kd.int .i64)) w A1 l1.length l1) (hc1 : l1.length ≤ c1) (h : laws_FnExactStranded.f k l0 l1 a2 = some r) :
    Calls Try.prog 5 #[.slice A0 l0.length c0, .slice A1 l1.length c1, .int .i64 a2] w fun e w' => e = .returned (.bool r) ∧ Below w.heap.size w w' := by
  have HR0 := Aside0.mk hr0
  have HC0 := Aside0.mk hc0
  clear hr0 hc0
  have HR1 := Aside0.mk hr1
  have HC1 := Aside0.mk hc1
  clear hr1 hc1
  have HB := Aside0.mk (Below.refl w.heap.size w)
  have H : (if (l0.length : Int) > 1048576 then (some true) else ((laws_szIntSS.f k l1 1048576).bind fun t206 => (if t206 < 0 then (some true) else ((laws_toIntS.f k l0).bind fun t207 => ((laws_toIntSS.f k l1).bind fun t210 => ((spec_Stranded.f k t207 t210 a2).bind fun t213 => ((laws_toIntS.f k l0).bind fun t216 => ((laws_toIntSS.f k l1).bind fun t219 => ((impl_Stranded.f k t216 t219 a2).bind fun t222 => ((laws_eqIntS.f k t222 t213).bind fun t225 => (if t225 = true then ((laws_toIntS.f k l0).bind fun t226 => ((laws_eqIntS.f k t216 t226).bind fun t229 => (if t229 = true then ((laws_toIntSS.f k l1).bind fun t230 => ((laws_eqIntSS.f k t219 t230).bind fun t233 => (if t233 = true then ((laws_markIntS.f k t216 1).bind fun bt234 => ((laws_markIntSS.f k t219 bt234.1).bind fun t236 => (if t236 < 0 then (laws_FnExactStranded.j0 k l0 l1 a2 t213 t222 true) else ((laws_eqIntS.f k t222 t213).bind fun t237 => (laws_FnExactStranded.j0 k l0 l1 a2 t213 t222 (!t237)))))) else (some false)))) else (some false)))) else (some false)))))))))))) = some r := h
  clear h
  by_cases c4 : (l0.length : Int) > 1048576
  · rw [if_pos c4] at H
    have c4b0 : decide (1048576 < (l0.length : Int)) = true := decide_eq_true c4
    have c4b1 : decide (1048576 < l0.length) = true := decide_eq_true (by omega)
    clear c4
    obtain rfl := Option.some.inj H
    go_enter Try.func5, Try.ntmps5
    go_wp2
    go_ret
    exact ⟨er_, pb_ HB.out⟩
  rw [if_neg c4] at H
  have c4b0 : decide (1048576 < (l0.length : Int)) = false := decide_eq_false c4
  have c4b1 : decide (1048576 < l0.length) = false := decide_eq_false (by omega)
  clear c4
  replace H := Option.bind_eq_some_iff.mp H
  obtain ⟨t206, A50, H⟩ := H
  (try dsimp only at H)
  have A5 := Aside0.mk A50
  clear A50
  have HS_ := Aside0.mk H
  clear H
  go_enter Try.func5, Try.ntmps5
  go_upto_if 23 with (first | ((with_reducible refine gate_callee (f := 15) rfl ?_); refine goesL_ (some 21) rfl rfl Try.func15 (by kernel_rfl) rfl #[.slice A1 l1.length c1, .int .i64 1048576] rfl mp_ ?_; (with_reducible refine (laws_szIntSS.calls k _ _ l1 1048576 t206 _ ?side1 ?side2 A5.out).mono ?_); (case side1 => exact pc_ HR1.out); (case side2 => exact HC1.out); rintro e w' ⟨rfl, ⟨nd, rfl⟩⟩; refine ⟨_, rfl, ?_⟩))
  (try simp only [Act.put, List.setIfInBounds_toArray, List.set_cons_zero, List.set_cons_succ])
  have H := HS_.out
  clear HS_
  by_cases c6 : t206 < 0
  · rw [if_pos c6] at H
    have c6b0 : decide (t206 < 0) = true := decide_eq_true c6
    clear c6
    (first | rw [c6b0] | (simp only [i64_w, i32_w]; rw [c6b0]) | skip)
    obtain rfl := Option.some.inj H
    go_wp2
    go_ret
    exact ⟨er_, pb_ HB.out⟩
  rw [if_neg c6] at H
  have c6b0 : decide (t206 < 0) = false := decide_eq_false c6
  clear c6
  (first | rw [c6b0] | (simp only [i64_w, i32_w]; rw [c6b0]) | skip)
  replace H := Option.bind_eq_some_iff.mp H
  obtain ⟨t207, A70, H⟩ := H
  (try dsimp only at H)
  have A7 := Aside0.mk A70
  clear A70
  replace H := Option.bind_eq_some_iff.mp H
  obtain ⟨t210, A80, H⟩ := H
  (try dsimp only at H)
  have A8 := Aside0.mk A80
  clear A80
  replace H := Option.bind_eq_some_iff.mp H
  obtain ⟨t213, A90, H⟩ := H
  (try dsimp only at H)
  have A9 := Aside0.mk A90
  clear A90
  have HS_ := Aside0.mk H
  clear H
  go_upto_region 8 with (first | ((with_reducible refine gate_callee (f := 17) rfl ?_); refine goesL_ (some 25) rfl rfl Try.func17 (by kernel_rfl) rfl #[.slice A0 l0.length c0] rfl mp_ ?_; (with_reducible refine (laws_toIntS.calls k _ _ l0 t207 _ ?side1 ?side2 A7.out).mono ?_); (case side1 => exact pc_ (Kd.C_below HR0.out HB.out)); (case side2 => exact HC0.out); rintro e w10 ⟨v208, rfl, ho0, hb⟩; refine ⟨_, rfl, ?_⟩; have n0_ := Aside0.mk (Kd.R_lower ho0 (below_size (pb_ HB.out))); have n1_ := Aside0.mk (below_step (pb_ HB.out) hb); clear HB; have HO209 := n0_; have HB := n1_; clear n0_ n1_; (try clear hb); (try clear hb2); (try clear hk); (try clear hi); (try clear ho0)) | ((with_reducible refine gate_callee (f := 18) rfl ?_); refine goesL_ (some 27) rfl rfl Try.func18 (by kernel_rfl) rfl #[.slice A1 l1.length c1] rfl mp_ ?_; (with_reducible refine (laws_toIntSS.calls k _ _ l1 t210 _ ?side1 ?side2 A8.out).mono ?_); (case side1 => exact pc_ (Kd.C_below HR1.out HB.out)); (case side2 => exact HC1.out); rintro e w11 ⟨v211, rfl, ho0, hb⟩; refine ⟨_, rfl, ?_⟩; have n0_ := Aside0.mk (Kd.R_below (pr_ HO209.out) hb); have n1_ := Aside0.mk (Kd.S_lower (Kd.S_new' ho0 (Kd.R_lt (pr_ HO209.out))) (below_size (pb_ HB.out))); have n2_ := Aside0.mk (below_step (pb_ HB.out) hb); clear HO209; clear HB; have HO209 := n0_; have HO212 := n1_; have HB := n2_; clear n0_ n1_ n2_; (try clear hb); (try clear hb2); (try clear hk); (try clear hi); (try clear ho0); obtain ⟨Ao12, co12, eo12⟩ := Kd.R_slice HO209.out; subst eo12; obtain ⟨Ao13, co13, eo13⟩ := Kd.S_slice HO212.out; subst eo13) | ((with_reducible refine gate_callee (f := 24) rfl ?_); refine goesL_ (some 29) rfl rfl Try.func24 (by kernel_rfl) rfl #[.slice Ao12 t207.length co12, .slice Ao13 t210.length co13, .int .i64 a2] rfl mp_ ?_; (with_reducible refine (spec_Stranded.calls k _ _ t207 _ _ t210 a2 t213 _ ?side1 ?side2 ?side3 ?side4 A9.out).mono ?_); (case side1 => exact pc_ ((Kd.R_reads' HO209.out).2.2)); (case side2 => exact (Kd.R_reads' HO209.out).2.1); (case side3 => exact pc_ ((Kd.S_reads' HO212.out).2.2)); (case side4 => exact (Kd.S_reads' HO212.out).2.1); rintro e w14 ⟨v214, rfl, ho0, hb⟩; refine ⟨_, rfl, ?_⟩; have n0_ := Aside0.mk (Kd.R_elder' (pr_ HO209.out) (Kd.R_base ho0) hb); have n1_ := Aside0.mk (Kd.S_elder' (ps_ HO212.out) (Kd.R_base ho0) hb); have n2_ := Aside0.mk (Kd.R_lower (Kd.R_new' ho0 (Kd.R_lt (pr_ HO209.out))) (below_size (pb_ HB.out))); have n3_ := Aside0.mk (below_step (pb_ HB.out) hb); clear HO209; clear HO212; clear HB; have HO209 := n0_; have HO212 := n1_; have HO215 := n2_; have HB := n3_; clear n0_ n1_ n2_ n3_; (try clear hb); (try clear hb2); (try clear hk); (try clear hi); (try clear ho0)))
  (try simp only [Act.put, List.setIfInBounds_toArray, List.set_cons_zero, List.set_cons_succ])
  have H := HS_.out
  clear HS_
  replace H := Option.bind_eq_some_iff.mp H
  obtain ⟨t216, A150, H⟩ := H
  (try dsimp only at H)
  have A15 := Aside0.mk A150
  clear A150
  have HS_ := Aside0.mk H
  clear H
  go_upto_region 9 with (first | ((with_reducible refine gate_callee (f := 17) rfl ?_); refine goesL_ (some 31) rfl rfl Try.func17 (by kernel_rfl) rfl #[.slice A0 l0.length c0] rfl mp_ ?_; (with_reducible refine (laws_toIntS.calls k _ _ l0 t216 _ ?side1 ?side2 A15.out).mono ?_); (case side1 => exact pc_ (Kd.C_below HR0.out HB.out)); (case side2 => exact HC0.out); rintro e w16 ⟨v217, rfl, ho0, hb⟩; refine ⟨_, rfl, ?_⟩; have n0_ := Aside0.mk (Kd.R_elder' (pr_ HO209.out) (Kd.R_base ho0) hb); have n1_ := Aside0.mk (Kd.S_elder' (ps_ HO212.out) (Kd.R_base ho0) hb); have n2_ := Aside0.mk (Kd.R_elder' (pr_ HO215.out) (Kd.R_base ho0) hb); have n3_ := Aside0.mk (Kd.R_lower (Kd.R_new' (Kd.R_new' ho0 (Kd.R_lt (pr_ HO209.out))) (Kd.R_lt (pr_ HO215.out))) (below_size (pb_ HB.out))); have n4_ := Aside0.mk (below_step (pb_ HB.out) hb); clear HO209; clear HO212; clear HO215; clear HB; have HO209 := n0_; have HO212 := n1_; have HO215 := n2_; have HO218 := n3_; have HB := n4_; clear n0_ n1_ n2_ n3_ n4_; (try clear hb); (try clear hb2); (try clear hk); (try clear hi); (try clear ho0)))
  (try simp only [Act.put, List.setIfInBounds_toArray, List.set_cons_zero, List.set_cons_succ])
  have H := HS_.out
  clear HS_
  replace H := Option.bind_eq_some_iff.mp H
  obtain ⟨t219, A170, H⟩ := H
  (try dsimp only at H)
  have A17 := Aside0.mk A170
  clear A170
  have HS_ := Aside0.mk H
  clear H
  go_upto_region 10 with (first | ((with_reducible refine gate_callee (f := 18) rfl ?_); refine goesL_ (some 33) rfl rfl Try.func18 (by kernel_rfl) rfl #[.slice A1 l1.length c1] rfl mp_ ?_; (with_reducible refine (laws_toIntSS.calls k _ _ l1 t219 _ ?side1 ?side2 A17.out).mono ?_); (case side1 => exact pc_ (Kd.C_below HR1.out HB.out)); (case side2 => exact HC1.out); rintro e w18 ⟨v220, rfl, ho0, hb⟩; refine ⟨_, rfl, ?_⟩; have n0_ := Aside0.mk (Kd.R_below (pr_ HO209.out) hb); have n1_ := Aside0.mk (Kd.S_elder' (ps_ HO212.out) (Kd.S_base ho0) hb); have n2_ := Aside0.mk (Kd.R_below (pr_ HO215.out) hb); have n3_ := Aside0.mk (Kd.R_below (pr_ HO218.out) hb); have n4_ := Aside0.mk (Kd.S_lower (Kd.S_new' (Kd.S_new' (Kd.S_new' (Kd.S_new' ho0 (Kd.R_lt (pr_ HO209.out))) (Kd.S_lt (ps_ HO212.out))) (Kd.R_lt (pr_ HO215.out))) (Kd.R_lt (pr_ HO218.out))) (below_size (pb_ HB.out))); have n5_ := Aside0.mk (below_step (pb_ HB.out) hb); clear HO209; clear HO212; clear HO215; clear HO218; clear HB; have HO209 := n0_; have HO212 := n1_; have HO215 := n2_; have HO218 := n3_; have HO221 := n4_; have HB := n5_; clear n0_ n1_ n2_ n3_ n4_ n5_; (try clear hb); (try clear hb2); (try clear hk); (try clear hi); (try clear ho0)))
  (try simp only [Act.put, List.setIfInBounds_toArray, List.set_cons_zero, List.set_cons_succ])
  have H := HS_.out
  clear HS_
  replace H := Option.bind_eq_some_iff.mp H
  obtain ⟨t222, A190, H⟩ := H
  (try dsimp only at H)
  have A19 := Aside0.mk A190
  clear A190
  have HS_ := Aside0.mk H
  clear H
  obtain ⟨Ao20, co20, eo20⟩ := Kd.R_slice HO218.out
  subst eo20
  obtain ⟨Ao21, co21, eo21⟩ := Kd.S_slice HO221.out
  subst eo21
  go_upto_region 11 with (first | ((with_reducible refine gate_callee (f := 25) rfl ?_); refine goesL_ (some 37) rfl rfl Try.func25 (by kernel_rfl) rfl #[.slice Ao20 t216.length co20, .slice Ao21 t219.length co21, .int .i64 a2] rfl mp_ ?_; (with_reducible refine (impl_Stranded.calls k _ _ t216 _ _ t219 a2 t222 _ ?side1 ?side2 ?side3 ?side4 A19.out).mono ?_); (case side1 => exact pc_ ((Kd.R_reads' HO218.out).2.2)); (case side2 => exact (Kd.R_reads' HO218.out).2.1); (case side3 => exact pc_ ((Kd.S_reads' HO221.out).2.2)); (case side4 => exact (Kd.S_reads' HO221.out).2.1); rintro e w22 ⟨v223, rfl, ho0, hb⟩; refine ⟨_, rfl, ?_⟩; have n0_ := Aside0.mk (Kd.R_elder' (pr_ HO209.out) (Kd.R_base ho0) hb); have n1_ := Aside0.mk (Kd.S_elder' (ps_ HO212.out) (Kd.R_base ho0) hb); have n2_ := Aside0.mk (Kd.R_elder' (pr_ HO215.out) (Kd.R_base ho0) hb); have n3_ := Aside0.mk (Kd.R_elder' (pr_ HO218.out) (Kd.R_base ho0) hb); have n4_ := Aside0.mk (Kd.S_elder' (ps_ HO221.out) (Kd.R_base ho0) hb); have n5_ := Aside0.mk (Kd.R_lower (Kd.R_new' (Kd.R_new' (Kd.R_new' ho0 (Kd.R_lt (pr_ HO209.out))) (Kd.R_lt (pr_ HO215.out))) (Kd.R_lt (pr_ HO218.out))) (below_size (pb_ HB.out))); have n6_ := Aside0.mk (below_step (pb_ HB.out) hb); clear HO209; clear HO212; clear HO215; clear HO218; clear HO221; clear HB; have HO209 := n0_; have HO212 := n1_; have HO215 := n2_; have HO218 := n3_; have HO221 := n4_; have HO224 := n5_; have HB := n6_; clear n0_ n1_ n2_ n3_ n4_ n5_ n6_; (try clear hb); (try clear hb2); (try clear hk); (try clear hi); (try clear ho0)))
  (try simp only [Act.put, List.setIfInBounds_toArray, List.set_cons_zero, List.set_cons_succ])
  have H := HS_.out
  clear HS_
  replace H := Option.bind_eq_some_iff.mp H
  obtain ⟨t225, A230, H⟩ := H
  (try dsimp only at H)
  have A23 := Aside0.mk A230
  clear A230
  have HS_ := Aside0.mk H
  clear H
  obtain ⟨Ao24, co24, eo24⟩ := Kd.R_slice HO224.out
  subst eo24
  obtain ⟨Ao25, co25, eo25⟩ := Kd.R_slice HO215.out
  subst eo25
  go_upto_if 41 with (first | ((with_reducible refine gate_callee (f := 20) rfl ?_); refine goesL_ (some 40) rfl rfl Try.func20 (by kernel_rfl) rfl #[.slice Ao24 t222.length co24, .slice Ao25 t213.length co25] rfl mp_ ?_; (with_reducible refine (laws_eqIntS.calls k _ _ t222 _ _ t213 t225 _ ?side1 ?side2 ?side3 ?side4 A23.out).mono ?_); (case side1 => exact pc_ ((Kd.R_reads' HO224.out).2.2)); (case side2 => exact (Kd.R_reads' HO224.out).2.1); (case side3 => exact pc_ ((Kd.R_reads' HO215.out).2.2)); (case side4 => exact (Kd.R_reads' HO215.out).2.1); rintro e w' ⟨rfl, ⟨nd, rfl⟩⟩; refine ⟨_, rfl, ?_⟩))
  (try simp only [Act.put, List.setIfInBounds_toArray, List.set_cons_zero, List.set_cons_succ])
  have H := HS_.out
  clear HS_
  by_cases c26 : t225 = true
  rotate_left
  · replace c26 := Bool.eq_false_iff.mpr c26
    subst c26
    rw [if_neg (show ¬ (false = true) by decide)] at H
    obtain rfl := Option.some.inj H
    go_wp2
    go_ret
    exact ⟨er_, pb_ HB.out⟩
  subst c26
  rw [if_pos rfl] at H
  replace H := Option.bind_eq_some_iff.mp H
  obtain ⟨t226, A270, H⟩ := H
  (try dsimp only at H)
  have A27 := Aside0.mk A270
  clear A270
  replace H := Option.bind_eq_some_iff.mp H
  obtain ⟨t229, A280, H⟩ := H
  (try dsimp only at H)
  have A28 := Aside0.mk A280
  clear A280
  have HS_ := Aside0.mk H
  clear H
  go_upto_if 46 with (first | ((with_reducible refine gate_callee (f := 17) rfl ?_); refine goesL_ (some 44) rfl rfl Try.func17 (by kernel_rfl) rfl #[.slice A0 l0.length c0] rfl mp_ ?_; (with_reducible refine (laws_toIntS.calls k _ _ l0 t226 _ ?side1 ?side2 A27.out).mono ?_); (case side1 => exact pc_ (Kd.C_below HR0.out HB.out)); (case side2 => exact HC0.out); rintro e w29 ⟨v227, rfl, ho0, hb⟩; refine ⟨_, rfl, ?_⟩; have n0_ := Aside0.mk (Kd.R_elder' (pr_ HO209.out) (Kd.R_base ho0) hb); have n1_ := Aside0.mk (Kd.S_elder' (ps_ HO212.out) (Kd.R_base ho0) hb); have n2_ := Aside0.mk (Kd.R_elder' (pr_ HO215.out) (Kd.R_base ho0) hb); have n3_ := Aside0.mk (Kd.R_elder' (pr_ HO218.out) (Kd.R_base ho0) hb); have n4_ := Aside0.mk (Kd.S_elder' (ps_ HO221.out) (Kd.R_base ho0) hb); have n5_ := Aside0.mk (Kd.R_elder' (pr_ HO224.out) (Kd.R_base ho0) hb); have n6_ := Aside0.mk (Kd.R_lower (Kd.R_new' (Kd.R_new' (Kd.R_new' (Kd.R_new' ho0 (Kd.R_lt (pr_ HO209.out))) (Kd.R_lt (pr_ HO215.out))) (Kd.R_lt (pr_ HO218.out))) (Kd.R_lt (pr_ HO224.out))) (below_size (pb_ HB.out))); have n7_ := Aside0.mk (below_step (pb_ HB.out) hb); clear HO209; clear HO212; clear HO215; clear HO218; clear HO221; clear HO224; clear HB; have HO209 := n0_; have HO212 := n1_; have HO215 := n2_; have HO218 := n3_; have HO221 := n4_; have HO224 := n5_; have HO228 := n6_; have HB := n7_; clear n0_ n1_ n2_ n3_ n4_ n5_ n6_ n7_; (try clear hb); (try clear hb2); (try clear hk); (try clear hi); (try clear ho0); obtain ⟨Ao30, co30, eo30⟩ := Kd.R_slice HO228.out; subst eo30) | ((with_reducible refine gate_callee (f := 20) rfl ?_); refine goesL_ (some 45) rfl rfl Try.func20 (by kernel_rfl) rfl #[.slice Ao20 t216.length co20, .slice Ao30 t226.length co30] rfl mp_ ?_; (with_reducible refine (laws_eqIntS.calls k _ _ t216 _ _ t226 t229 _ ?side1 ?side2 ?side3 ?side4 A28.out).mono ?_); (case side1 => exact pc_ ((Kd.R_reads' HO218.out).2.2)); (case side2 => exact (Kd.R_reads' HO218.out).2.1); (case side3 => exact pc_ ((Kd.R_reads' HO228.out).2.2)); (case side4 => exact (Kd.R_reads' HO228.out).2.1); rintro e w' ⟨rfl, ⟨nd, rfl⟩⟩; refine ⟨_, rfl, ?_⟩))
  (try simp only [Act.put, List.setIfInBounds_toArray, List.set_cons_zero, List.set_cons_succ])
  have H := HS_.out
  clear HS_
  by_cases c31 : t229 = true
  rotate_left
  · replace c31 := Bool.eq_false_iff.mpr c31
    subst c31
    rw [if_neg (show ¬ (false = true) by decide)] at H
    obtain rfl := Option.some.inj H
    go_wp2
    go_ret
    exact ⟨er_, pb_ HB.out⟩
  subst c31
  rw [if_pos rfl] at H
  replace H := Option.bind_eq_some_iff.mp H
  obtain ⟨t230, A320, H⟩ := H
  (try dsimp only at H)
  have A32 := Aside0.mk A320
  clear A320
  replace H := Option.bind_eq_some_iff.mp H
  obtain ⟨t233, A330, H⟩ := H
  (try dsimp only at H)
  have A33 := Aside0.mk A330
  clear A330
  have HS_ := Aside0.mk H
  clear H
  go_upto_if 51 with (first | ((with_reducible refine gate_callee (f := 18) rfl ?_); refine goesL_ (some 49) rfl rfl Try.func18 (by kernel_rfl) rfl #[.slice A1 l1.length c1] rfl mp_ ?_; (with_reducible refine (laws_toIntSS.calls k _ _ l1 t230 _ ?side1 ?side2 A32.out).mono ?_); (case side1 => exact pc_ (Kd.C_below HR1.out HB.out)); (case side2 => exact HC1.out); rintro e w34 ⟨v231, rfl, ho0, hb⟩; refine ⟨_, rfl, ?_⟩; have n0_ := Aside0.mk (Kd.R_below (pr_ HO209.out) hb); have n1_ := Aside0.mk (Kd.S_elder' (ps_ HO212.out) (Kd.S_base ho0) hb); have n2_ := Aside0.mk (Kd.R_below (pr_ HO215.out) hb); have n3_ := Aside0.mk (Kd.R_below (pr_ HO218.out) hb); have n4_ := Aside0.mk (Kd.S_elder' (ps_ HO221.out) (Kd.S_base ho0) hb); have n5_ := Aside0.mk (Kd.R_below (pr_ HO224.out) hb); have n6_ := Aside0.mk (Kd.R_below (pr_ HO228.out) hb); have n7_ := Aside0.mk (Kd.S_lower (Kd.S_new' (Kd.S_new' (Kd.S_new' (Kd.S_new' (Kd.S_new' (Kd.S_new' (Kd.S_new' ho0 (Kd.R_lt (pr_ HO209.out))) (Kd.S_lt (ps_ HO212.out))) (Kd.R_lt (pr_ HO215.out))) (Kd.R_lt (pr_ HO218.out))) (Kd.S_lt (ps_ HO221.out))) (Kd.R_lt (pr_ HO224.out))) (Kd.R_lt (pr_ HO228.out))) (below_size (pb_ HB.out))); have n8_ := Aside0.mk (below_step (pb_ HB.out) hb); clear HO209; clear HO212; clear HO215; clear HO218; clear HO221; clear HO224; clear HO228; clear HB; have HO209 := n0_; have HO212 := n1_; have HO215 := n2_; have HO218 := n3_; have HO221 := n4_; have HO224 := n5_; have HO228 := n6_; have HO232 := n7_; have HB := n8_; clear n0_ n1_ n2_ n3_ n4_ n5_ n6_ n7_ n8_; (try clear hb); (try clear hb2); (try clear hk); (try clear hi); (try clear ho0); obtain ⟨Ao35, co35, eo35⟩ := Kd.S_slice HO232.out; subst eo35) | ((with_reducible refine gate_callee (f := 21) rfl ?_); refine goesL_ (some 50) rfl rfl Try.func21 (by kernel_rfl) rfl #[.slice Ao21 t219.length co21, .slice Ao35 t230.length co35] rfl mp_ ?_; (with_reducible refine (laws_eqIntSS.calls k _ _ t219 _ _ t230 t233 _ ?side1 ?side2 ?side3 ?side4 A33.out).mono ?_); (case side1 => exact pc_ ((Kd.S_reads' HO221.out).2.2)); (case side2 => exact (Kd.S_reads' HO221.out).2.1); (case side3 => exact pc_ ((Kd.S_reads' HO232.out).2.2)); (case side4 => exact (Kd.S_reads' HO232.out).2.1); rintro e w' ⟨rfl, ⟨nd, rfl⟩⟩; refine ⟨_, rfl, ?_⟩))
  (try simp only [Act.put, List.setIfInBounds_toArray, List.set_cons_zero, List.set_cons_succ])
  have H := HS_.out
  clear HS_
  by_cases c36 : t233 = true
  rotate_left
  · replace c36 := Bool.eq_false_iff.mpr c36
    subst c36
    rw [if_neg (show ¬ (false = true) by decide)] at H
    obtain rfl := Option.some.inj H
    go_wp2
    go_ret
    exact ⟨er_, pb_ HB.out⟩
  subst c36
  rw [if_pos rfl] at H
  replace H := Option.bind_eq_some_iff.mp H
  obtain ⟨⟨t234, t235⟩, A370, H⟩ := H
  (try dsimp only at H)
  have A37 := Aside0.mk A370
  clear A370
  replace H := Option.bind_eq_some_iff.mp H
  obtain ⟨t236, A380, H⟩ := H
  (try dsimp only at H)
  have A38 := Aside0.mk A380
  clear A380
  have HC39 := Aside0.mk H
  clear H
  go_upto_region 20 with (first | ((with_reducible refine gate_callee (f := 26) rfl ?_); refine goesL_ (some 54) rfl rfl Try.func26 (by kernel_rfl) rfl #[.slice Ao20 t216.length co20, .int .i64 1] rfl mp_ ?_; (with_reducible refine (laws_markIntS.calls k (fun k_ => some k_ = (.slice Ao20 t216.length co20 : Value).ownBlock) (.slice Ao20 t216.length co20) t216 1 t234 t235 w _ ?side1 ?side2 A37.out).mono ?_); (case side1 => repeat (first | (with_reducible first | exact HB.out | apply below_alloc | apply pw_below_drewN | apply below_drew1) | exact HB.out)); (case side2 => exact Kd.R_tight rfl HO218.out); rintro e w40 ⟨rfl, hy0, hb, hkp⟩; refine ⟨_, rfl, ?_⟩; have n0_ := Aside0.mk (Kd.R_mono (ok' := fun k_ => some k_ ≠ (.slice Ao25 t213.length co25 : Value).ownBlock ∧ some k_ ≠ (.slice Ao20 t216.length co20 : Value).ownBlock ∧ some k_ ≠ (.slice Ao24 t222.length co24 : Value).ownBlock ∧ some k_ ≠ (.slice Ao30 t226.length co30 : Value).ownBlock) (Kd.R_keptB (HO209.out) hkp (fun k_ hk_ hs_ => (hk_.1.1.2) hs_)) (fun k_ hk_ => ⟨hk_.1.1.1.1.2, hk_.1.1.1.2, hk_.1.1.2, hk_.1.2⟩)); have n1_ := Aside0.mk (Kd.S_mono (ok' := fun k_ => some k_ ≠ (.slice Ao12 t207.length co12 : Value).ownBlock ∧ some k_ ≠ (.slice Ao25 t213.length co25 : Value).ownBlock ∧ some k_ ≠ (.slice Ao20 t216.length co20 : Value).ownBlock ∧ some k_ ≠ (.slice Ao21 t219.length co21 : Value).ownBlock ∧ some k_ ≠ (.slice Ao24 t222.length co24 : Value).ownBlock ∧ some k_ ≠ (.slice Ao30 t226.length co30 : Value).ownBlock ∧ some k_ ≠ (.slice Ao35 t230.length co35 : Value).ownBlock) (Kd.S_keptB (HO212.out) hkp (fun k_ hk_ hs_ => (hk_.1.1.1.1.2) hs_)) (fun k_ hk_ => ⟨hk_.1.1.1.1.1.1.1.2, hk_.1.1.1.1.1.1.2, hk_.1.1.1.1.1.2, hk_.1.1.1.1.2, hk_.1.1.1.2, hk_.1.1.2, hk_.1.2⟩)); have n2_ := Aside0.mk (Kd.R_mono (ok' := fun k_ => some k_ ≠ (.slice Ao12 t207.length co12 : Value).ownBlock ∧ some k_ ≠ (.slice Ao20 t216.length co20 : Value).ownBlock ∧ some k_ ≠ (.slice Ao24 t222.length co24 : Value).ownBlock ∧ some k_ ≠ (.slice Ao30 t226.length co30 : Value).ownBlock) (Kd.R_keptB (HO215.out) hkp (fun k_ hk_ hs_ => (hk_.1.1.2) hs_)) (fun k_ hk_ => ⟨hk_.1.1.1.1.2, hk_.1.1.1.2, hk_.1.1.2, hk_.1.2⟩)); have n3_ := Aside0.mk (Kd.R_reok rfl hy0 (fun k_ e_ => HO218.out.1 k_ e_)); have n4_ := Aside0.mk (Kd.S_mono (ok' := fun k_ => some k_ ≠ (.slice Ao12 t207.length co12 : Value).ownBlock ∧ some k_ ≠ (.slice Ao13 t210.length co13 : Value).ownBlock ∧ some k_ ≠ (.slice Ao25 t213.length co25 : Value).ownBlock ∧ some k_ ≠ (.slice Ao20 t216.length co20 : Value).ownBlock ∧ some k_ ≠ (.slice Ao24 t222.length co24 : Value).ownBlock ∧ some k_ ≠ (.slice Ao30 t226.length co30 : Value).ownBlock ∧ some k_ ≠ (.slice Ao35 t230.length co35 : Value).ownBlock) (Kd.S_keptB (HO221.out) hkp (fun k_ hk_ hs_ => (hk_.1.1.1.2) hs_)) (fun k_ hk_ => ⟨hk_.1.1.1.1.1.1.1.2, hk_.1.1.1.1.1.1.2, hk_.1.1.1.1.1.2, hk_.1.1.1.1.2, hk_.1.1.1.2, hk_.1.1.2, hk_.1.2⟩)); have n5_ := Aside0.mk (Kd.R_mono (ok' := fun k_ => some k_ ≠ (.slice Ao12 t207.length co12 : Value).ownBlock ∧ some k_ ≠ (.slice Ao25 t213.length co25 : Value).ownBlock ∧ some k_ ≠ (.slice Ao20 t216.length co20 : Value).ownBlock ∧ some k_ ≠ (.slice Ao30 t226.length co30 : Value).ownBlock) (Kd.R_keptB (HO224.out) hkp (fun k_ hk_ hs_ => (hk_.1.2) hs_)) (fun k_ hk_ => ⟨hk_.1.1.1.1.2, hk_.1.1.1.2, hk_.1.1.2, hk_.1.2⟩)); have n6_ := Aside0.mk (Kd.R_mono (ok' := fun k_ => some k_ ≠ (.slice Ao12 t207.length co12 : Value).ownBlock ∧ some k_ ≠ (.slice Ao25 t213.length co25 : Value).ownBlock ∧ some k_ ≠ (.slice Ao20 t216.length co20 : Value).ownBlock ∧ some k_ ≠ (.slice Ao24 t222.length co24 : Value).ownBlock) (Kd.R_keptB (HO228.out) hkp (fun k_ hk_ hs_ => (hk_.1.2) hs_)) (fun k_ hk_ => ⟨hk_.1.1.1.1.2, hk_.1.1.1.2, hk_.1.1.2, hk_.1.2⟩)); have n7_ := Aside0.mk (Kd.S_mono (ok' := fun k_ => some k_ ≠ (.slice Ao12 t207.length co12 : Value).ownBlock ∧ some k_ ≠ (.slice Ao13 t210.length co13 : Value).ownBlock ∧ some k_ ≠ (.slice Ao25 t213.length co25 : Value).ownBlock ∧ some k_ ≠ (.slice Ao20 t216.length co20 : Value).ownBlock ∧ some k_ ≠ (.slice Ao21 t219.length co21 : Value).ownBlock ∧ some k_ ≠ (.slice Ao24 t222.length co24 : Value).ownBlock ∧ some k_ ≠ (.slice Ao30 t226.length co30 : Value).ownBlock) (Kd.S_keptB (HO232.out) hkp (fun k_ hk_ hs_ => (hk_.1.1.1.2) hs_)) (fun k_ hk_ => ⟨hk_.1.1.1.1.1.1.1.2, hk_.1.1.1.1.1.1.2, hk_.1.1.1.1.1.2, hk_.1.1.1.1.2, hk_.1.1.1.2, hk_.1.1.2, hk_.1.2⟩)); have n8_ := Aside0.mk (hb); clear HO209; clear HO212; clear HO215; clear HO218; clear HO221; clear HO224; clear HO228; clear HO232; clear HB; have HO209 := n0_; have HO212 := n1_; have HO215 := n2_; have HO218 := n3_; have HO221 := n4_; have HO224 := n5_; have HO228 := n6_; have HO232 := n7_; have HB := n8_; clear n0_ n1_ n2_ n3_ n4_ n5_ n6_ n7_ n8_; (try clear hb); (try clear hkp); (try clear hy0)) | ((with_reducible refine gate_callee (f := 27) rfl ?_); refine goesL_ (some 57) rfl rfl Try.func27 (by kernel_rfl) rfl #[.slice Ao21 t219.length co21, .int .i64 t234] rfl mp_ ?_; (with_reducible refine (laws_markIntSS.calls k (fun k_ => (some k_ ≠ (.slice Ao12 t207.length co12 : Value).ownBlock ∧ (some k_ ≠ (.slice Ao13 t210.length co13 : Value).ownBlock ∧ (some k_ ≠ (.slice Ao25 t213.length co25 : Value).ownBlock ∧ (some k_ ≠ (.slice Ao20 t216.length co20 : Value).ownBlock ∧ (some k_ ≠ (.slice Ao24 t222.length co24 : Value).ownBlock ∧ (some k_ ≠ (.slice Ao30 t226.length co30 : Value).ownBlock ∧ some k_ ≠ (.slice Ao35 t230.length co35 : Value).ownBlock))))))) (.slice Ao21 t219.length co21) t219 t234 t236 w _ ?side1 ?side2 A38.out).mono ?_); (case side1 => repeat (first | (with_reducible first | exact HB.out | apply below_alloc | apply pw_below_drewN | apply below_drew1) | exact HB.out)); (case side2 => exact HO221.out); rintro e w41 ⟨rfl, hb, hkp⟩; refine ⟨_, rfl, ?_⟩; have n0_ := Aside0.mk (Kd.R_mono (ok' := fun k_ => some k_ ≠ (.slice Ao25 t213.length co25 : Value).ownBlock ∧ some k_ ≠ (.slice Ao20 t216.length co20 : Value).ownBlock ∧ some k_ ≠ (.slice Ao24 t222.length co24 : Value).ownBlock ∧ some k_ ≠ (.slice Ao30 t226.length co30 : Value).ownBlock) (Kd.R_keptB ((Kd.R_mono (ok' := fun k_ => ((some k_ ≠ (.slice Ao25 t213.length co25 : Value).ownBlock ∧ (some k_ ≠ (.slice Ao20 t216.length co20 : Value).ownBlock ∧ (some k_ ≠ (.slice Ao24 t222.length co24 : Value).ownBlock ∧ some k_ ≠ (.slice Ao30 t226.length co30 : Value).ownBlock)))) ∧ ¬ ((some k_ ≠ (.slice Ao12 t207.length co12 : Value).ownBlock ∧ (some k_ ≠ (.slice Ao13 t210.length co13 : Value).ownBlock ∧ (some k_ ≠ (.slice Ao25 t213.length co25 : Value).ownBlock ∧ (some k_ ≠ (.slice Ao20 t216.length co20 : Value).ownBlock ∧ (some k_ ≠ (.slice Ao24 t222.length co24 : Value).ownBlock ∧ (some k_ ≠ (.slice Ao30 t226.length co30 : Value).ownBlock ∧ some k_ ≠ (.slice Ao35 t230.length co35 : Value).ownBlock)))))))) (Kd.R_tight2 rfl HO209.out) (fun k_ hk => ⟨hk.2, fun e_ => (e_.1) hk.1⟩))) hkp (fun k_ hk_ hs_ => (hk_.2) hs_)) (fun k_ hk_ => ⟨hk_.1.1.1, hk_.1.1.2.1, hk_.1.1.2.2.1, hk_.1.1.2.2.2⟩)); have n1_ := Aside0.mk (Kd.R_mono (ok' := fun k_ => some k_ ≠ (.slice Ao12 t207.length co12 : Value).ownBlock ∧ some k_ ≠ (.slice Ao20 t216.length co20 : Value).ownBlock ∧ some k_ ≠ (.slice Ao24 t222.length co24 : Value).ownBlock ∧ some k_ ≠ (.slice Ao30 t226.length co30 : Value).ownBlock) (Kd.R_keptB ((Kd.R_mono (ok' := fun k_ => ((some k_ ≠ (.slice Ao12 t207.length co12 : Value).ownBlock ∧ (some k_ ≠ (.slice Ao20 t216.length co20 : Value).ownBlock ∧ (some k_ ≠ (.slice Ao24 t222.length co24 : Value).ownBlock ∧ some k_ ≠ (.slice Ao30 t226.length co30 : Value).ownBlock)))) ∧ ¬ ((some k_ ≠ (.slice Ao12 t207.length co12 : Value).ownBlock ∧ (some k_ ≠ (.slice Ao13 t210.length co13 : Value).ownBlock ∧ (some k_ ≠ (.slice Ao25 t213.length co25 : Value).ownBlock ∧ (some k_ ≠ (.slice Ao20 t216.length co20 : Value).ownBlock ∧ (some k_ ≠ (.slice Ao24 t222.length co24 : Value).ownBlock ∧ (some k_ ≠ (.slice Ao30 t226.length co30 : Value).ownBlock ∧ some k_ ≠ (.slice Ao35 t230.length co35 : Value).ownBlock)))))))) (Kd.R_tight2 rfl HO215.out) (fun k_ hk => ⟨hk.2, fun e_ => (e_.2.2.1) hk.1⟩))) hkp (fun k_ hk_ hs_ => (hk_.2) hs_)) (fun k_ hk_ => ⟨hk_.1.1.1, hk_.1.1.2.1, hk_.1.1.2.2.1, hk_.1.1.2.2.2⟩)); have n2_ := Aside0.mk (Kd.R_mono (ok' := fun k_ => some k_ ≠ (.slice Ao12 t207.length co12 : Value).ownBlock ∧ some k_ ≠ (.slice Ao25 t213.length co25 : Value).ownBlock ∧ some k_ ≠ (.slice Ao24 t222.length co24 : Value).ownBlock ∧ some k_ ≠ (.slice Ao30 t226.length co30 : Value).ownBlock) (Kd.R_keptB ((Kd.R_mono (ok' := fun k_ => (((((True ∧ some k_ ≠ (.slice Ao12 t207.length co12 : Value).ownBlock) ∧ some k_ ≠ (.slice Ao25 t213.length co25 : Value).ownBlock) ∧ some k_ ≠ (.slice Ao24 t222.length co24 : Value).ownBlock) ∧ some k_ ≠ (.slice Ao30 t226.length co30 : Value).ownBlock)) ∧ ¬ ((some k_ ≠ (.slice Ao12 t207.length co12 : Value).ownBlock ∧ (some k_ ≠ (.slice Ao13 t210.length co13 : Value).ownBlock ∧ (some k_ ≠ (.slice Ao25 t213.length co25 : Value).ownBlock ∧ (some k_ ≠ (.slice Ao20 t216.length co20 : Value).ownBlock ∧ (some k_ ≠ (.slice Ao24 t222.length co24 : Value).ownBlock ∧ (some k_ ≠ (.slice Ao30 t226.length co30 : Value).ownBlock ∧ some k_ ≠ (.slice Ao35 t230.length co35 : Value).ownBlock)))))))) (Kd.R_tight2 rfl HO218.out) (fun k_ hk => ⟨hk.2, fun e_ => (e_.2.2.2.1) hk.1⟩))) hkp (fun k_ hk_ hs_ => (hk_.2) hs_)) (fun k_ hk_ => ⟨hk_.1.1.1.1.1.2, hk_.1.1.1.1.2, hk_.1.1.1.2, hk_.1.1.2⟩)); have n3_ := Aside0.mk (Kd.R_mono (ok' := fun k_ => some k_ ≠ (.slice Ao12 t207.length co12 : Value).ownBlock ∧ some k_ ≠ (.slice Ao25 t213.length co25 : Value).ownBlock ∧ some k_ ≠ (.slice Ao20 t216.length co20 : Value).ownBlock ∧ some k_ ≠ (.slice Ao30 t226.length co30 : Value).ownBlock) (Kd.R_keptB ((Kd.R_mono (ok' := fun k_ => ((some k_ ≠ (.slice Ao12 t207.length co12 : Value).ownBlock ∧ (some k_ ≠ (.slice Ao25 t213.length co25 : Value).ownBlock ∧ (some k_ ≠ (.slice Ao20 t216.length co20 : Value).ownBlock ∧ some k_ ≠ (.slice Ao30 t226.length co30 : Value).ownBlock)))) ∧ ¬ ((some k_ ≠ (.slice Ao12 t207.length co12 : Value).ownBlock ∧ (some k_ ≠ (.slice Ao13 t210.length co13 : Value).ownBlock ∧ (some k_ ≠ (.slice Ao25 t213.length co25 : Value).ownBlock ∧ (some k_ ≠ (.slice Ao20 t216.length co20 : Value).ownBlock ∧ (some k_ ≠ (.slice Ao24 t222.length co24 : Value).ownBlock ∧ (some k_ ≠ (.slice Ao30 t226.length co30 : Value).ownBlock ∧ some k_ ≠ (.slice Ao35 t230.length co35 : Value).ownBlock)))))))) (Kd.R_tight2 rfl HO224.out) (fun k_ hk => ⟨hk.2, fun e_ => (e_.2.2.2.2.1) hk.1⟩))) hkp (fun k_ hk_ hs_ => (hk_.2) hs_)) (fun k_ hk_ => ⟨hk_.1.1.1, hk_.1.1.2.1, hk_.1.1.2.2.1, hk_.1.1.2.2.2⟩)); have n4_ := Aside0.mk (Kd.R_mono (ok' := fun k_ => some k_ ≠ (.slice Ao12 t207.length co12 : Value).ownBlock ∧ some k_ ≠ (.slice Ao25 t213.length co25 : Value).ownBlock ∧ some k_ ≠ (.slice Ao20 t216.length co20 : Value).ownBlock ∧ some k_ ≠ (.slice Ao24 t222.length co24 : Value).ownBlock) (Kd.R_keptB ((Kd.R_mono (ok' := fun k_ => ((some k_ ≠ (.slice Ao12 t207.length co12 : Value).ownBlock ∧ (some k_ ≠ (.slice Ao25 t213.length co25 : Value).ownBlock ∧ (some k_ ≠ (.slice Ao20 t216.length co20 : Value).ownBlock ∧ some k_ ≠ (.slice Ao24 t222.length co24 : Value).ownBlock)))) ∧ ¬ ((some k_ ≠ (.slice Ao12 t207.length co12 : Value).ownBlock ∧ (some k_ ≠ (.slice Ao13 t210.length co13 : Value).ownBlock ∧ (some k_ ≠ (.slice Ao25 t213.length co25 : Value).ownBlock ∧ (some k_ ≠ (.slice Ao20 t216.length co20 : Value).ownBlock ∧ (some k_ ≠ (.slice Ao24 t222.length co24 : Value).ownBlock ∧ (some k_ ≠ (.slice Ao30 t226.length co30 : Value).ownBlock ∧ some k_ ≠ (.slice Ao35 t230.length co35 : Value).ownBlock)))))))) (Kd.R_tight2 rfl HO228.out) (fun k_ hk => ⟨hk.2, fun e_ => (e_.2.2.2.2.2.1) hk.1⟩))) hkp (fun k_ hk_ hs_ => (hk_.2) hs_)) (fun k_ hk_ => ⟨hk_.1.1.1, hk_.1.1.2.1, hk_.1.1.2.2.1, hk_.1.1.2.2.2⟩)); have n5_ := Aside0.mk (hb); clear HO209; clear HO215; clear HO218; clear HO224; clear HO228; clear HB; clear HO212; clear HO232; clear HO221; have HO209 := n0_; have HO215 := n1_; have HO218 := n2_; have HO224 := n3_; have HO228 := n4_; have HB := n5_; clear n0_ n1_ n2_ n3_ n4_ n5_; (try clear hb); (try clear hkp)))
  (try simp only [Act.put, List.setIfInBounds_toArray, List.set_cons_zero, List.set_cons_succ])
  go_cut [65] (fun v65 wc => ∃ (kq : Nat) (x65_38 : Bool), v65 = .bool x65_38 ∧ Aside0 (laws_FnExactStranded.j0 kq l0 l1 a2 t213 t222 x65_38 = some r) ∧ Aside0 (kq ≤ k) ∧ Aside0 (Kd.R (Kd.int .i64) 3 wc w.heap.size (fun k_ => some k_ ≠ ((.slice Ao24 t222.length co24) : Value).ownBlock) (.slice Ao25 t213.length co25) t213) ∧ Aside0 (Kd.R (Kd.int .i64) 3 wc w.heap.size (fun k_ => some k_ ≠ ((.slice Ao25 t213.length co25) : Value).ownBlock) (.slice Ao24 t222.length co24) t222) ∧ Aside0 (Below w.heap.size w wc))
  case first =>
    have H := HC39.out
    clear HC39
    by_cases c42 : t236 < 0
    · rw [if_pos c42] at H
      have c42b0 : decide (t236 < 0) = true := decide_eq_true c42
      clear c42
      (first | rw [c42b0] | (simp only [i64_w, i32_w]; rw [c42b0]) | skip)
      have H' := Aside0.mk H
      clear H
      go_wp2
      go_meet
      case rel => exact ⟨_, (true), el_, H', ⟨by first | omega | exact Nat.le_refl _⟩, ⟨pr_ (Kd.R_mono HO215.out (fun _ hk => hk.2.2.1))⟩, ⟨pr_ (Kd.R_mono HO224.out (fun _ hk => hk.2.1))⟩, ⟨pb_ HB.out⟩⟩
    rw [if_neg c42] at H
    have c42b0 : decide (t236 < 0) = false := decide_eq_false c42
    clear c42
    (first | rw [c42b0] | (simp only [i64_w, i32_w]; rw [c42b0]) | skip)
    replace H := Option.bind_eq_some_iff.mp H
    obtain ⟨t237, A430, H⟩ := H
    replace H : (laws_FnExactStranded.j0 k l0 l1 a2 t213 t222 (!t237)) = some r := H
    have A43 := Aside0.mk A430
    clear A430
    have H' := Aside0.mk H
    clear H
    go_wp2_with (first | (go_at_call 20; (with_reducible refine (laws_eqIntS.calls k _ _ t222 _ _ t213 t237 _ ?side1 ?side2 ?side3 ?side4 A43.out).mono ?_); (case side1 => exact pc_ ((Kd.R_reads' HO224.out).2.2)); (case side2 => exact (Kd.R_reads' HO224.out).2.1); (case side3 => exact pc_ ((Kd.R_reads' HO215.out).2.2)); (case side4 => exact (Kd.R_reads' HO215.out).2.1); rintro e w' ⟨rfl, ⟨nd, rfl⟩⟩))
    go_meet
    case rel => exact ⟨_, (!t237), el_, H', ⟨by first | omega | exact Nat.le_refl _⟩, ⟨pr_ (Kd.R_mono HO215.out (fun _ hk => hk.2.2.1))⟩, ⟨pr_ (Kd.R_mono HO224.out (fun _ hk => hk.2.1))⟩, ⟨pb_ HB.out⟩⟩
  clear HC39
  try clear c1
  try clear c2
  try clear p2
  try clear c3
  try clear c4
  try clear c4b0
  try clear c4b1
  try clear c5
  try clear c6
  try clear c6b0
  try clear c15
  try clear c17
  try clear c18
  try clear c20
  try clear c21
  try clear c24
  try clear c25
  try clear c26
  try clear c27
  try clear c31
  try clear c36
  try clear c42
  try clear c42b0
  obtain ⟨kq, x65_38, rfl, HA, HJ38, HO_8, HO_11, HB⟩ := hcut
  rcases kq with _ | kj38
  · exact absurd HA.out (by simp [laws_FnExactStranded.j0])
  have H := HA.out
  clear HA
  simp only [laws_FnExactStranded.j0] at H
  by_cases c44 : x65_38 = true
  · subst c44
    rw [if_pos rfl] at H
    obtain rfl := Option.some.inj H
    go_wp2
    go_ret
    exact ⟨er_, pb_ HB.out⟩
  replace c44 := Bool.eq_false_iff.mpr c44
  subst c44
  rw [if_neg (show ¬ (false = true) by decide)] at H
  replace H := Option.bind_eq_some_iff.mp H
  obtain ⟨⟨t238, t239⟩, A450, H⟩ := H
  (try dsimp only at H)
  have A45 := Aside0.mk A450
  clear A450
  have HS_ := Aside0.mk H
  clear H
  go_upto_region 25 with (first | ((with_reducible refine gate_callee (f := 26) rfl ?_); refine goesL_ (some 68) rfl rfl Try.func26 (by kernel_rfl) rfl #[.slice Ao24 t222.length co24, .int .i64 1] rfl mp_ ?_; (with_reducible refine (laws_markIntS.calls kj38 (fun k_ => some k_ = (.slice Ao24 t222.length co24 : Value).ownBlock) (.slice Ao24 t222.length co24) t222 1 t238 t239 w _ ?side1 ?side2 A45.out).mono ?_); (case side1 => repeat (first | (with_reducible first | exact HB.out | apply below_alloc | apply pw_below_drewN | apply below_drew1) | exact HB.out)); (case side2 => exact Kd.R_tight rfl HO_11.out); rintro e w46 ⟨rfl, hy0, hb, hkp⟩; refine ⟨_, rfl, ?_⟩; have n0_ := Aside0.mk (Kd.R_mono (ok' := fun k_ => some k_ ≠ (.slice Ao24 t222.length co24 : Value).ownBlock) (Kd.R_keptB (HO_8.out) hkp (fun k_ hk_ hs_ => (hk_) hs_)) (fun k_ hk_ => hk_.1)); have n1_ := Aside0.mk (Kd.R_reok rfl hy0 (fun k_ e_ => HO_11.out.1 k_ e_)); have n2_ := Aside0.mk (hb); clear HO_8; clear HO_11; clear HB; have HO_8 := n0_; have HO_11 := n1_; have HB := n2_; clear n0_ n1_ n2_; (try clear hb); (try clear hkp); (try clear hy0)))
  (try simp only [Act.put, List.setIfInBounds_toArray, List.set_cons_zero, List.set_cons_succ])
  have H := HS_.out
  clear HS_
  replace H := Option.bind_eq_some_iff.mp H
  obtain ⟨t240, A470, H⟩ := H
  (try dsimp only at H)
  have A47 := Aside0.mk A470
  clear A470
  have HS_ := Aside0.mk H
  clear H
  go_upto_if 73 with (first | ((with_reducible refine gate_callee (f := 28) rfl ?_); refine goesL_ (some 71) rfl rfl Try.func28 (by kernel_rfl) rfl #[.slice Ao24 t239.length co24, .int .i64 1] rfl (by (try simp only [List.map_toArray, List.map_cons, List.map_nil]); first | done | (rw [show t239.length = t222.length from (Kd.R_reads' HO_11.out).1.symm] <;> rfl) | rfl | (simp only [List.length_drop, List.length_take]; rfl)) ?_; (with_reducible refine (laws_heldIntS.calls kj38 _ _ t239 1 t240 _ ?side1 ?side2 A47.out).mono ?_); (case side1 => exact pc_ ((Kd.R_reads' HO_11.out).2.2)); (case side2 => rw [show t239.length = t222.length from (Kd.R_reads' HO_11.out).1.symm]; exact (Kd.R_reads' HO_11.out).2.1); rintro e w' ⟨rfl, ⟨nd, rfl⟩⟩; refine ⟨_, rfl, ?_⟩))
  (try simp only [Act.put, List.setIfInBounds_toArray, List.set_cons_zero, List.set_cons_succ])
  have H := HS_.out
  clear HS_
  by_cases c48 : t240 < 0
  · rw [if_pos c48] at H
    have c48b0 : decide (t240 < 0) = true := decide_eq_true c48
    clear c48
    (first | rw [c48b0] | (simp only [i64_w, i32_w]; rw [c48b0]) | skip)
    obtain rfl := Option.some.inj H
    go_wp2
    go_ret
    exact ⟨er_, pb_ HB.out⟩
  rw [if_neg c48] at H
  have c48b0 : decide (t240 < 0) = false := decide_eq_false c48
  clear c48
  (first | rw [c48b0] | (simp only [i64_w, i32_w]; rw [c48b0]) | skip)
  by_cases c49 : t240 = t238
  rotate_left
  · rw [if_neg c49] at H
    have c49b0 : (t240 == t238) = false := beq_eq_false_iff_ne.mpr c49
    have c49b1 : (t240 != t238) = true := bne_iff_ne.mpr c49
    obtain rfl := Option.some.inj H
    go_wp2
    go_ret
    exact ⟨er_, pb_ HB.out⟩
  rw [if_pos c49] at H
  have c49b0 : (t240 == t238) = true := beq_iff_eq.mpr c49
  have c49b1 : (t240 != t238) = false := bne_eq_false_iff_eq.mpr c49
  clear c49
  replace H := Option.bind_eq_some_iff.mp H
  obtain ⟨t241, A500, H⟩ := H
  (try dsimp only at H)
  have A50 := Aside0.mk A500
  clear A500
  replace H := Option.bind_eq_some_iff.mp H
  obtain ⟨t244, A510, H⟩ := H
  (try dsimp only at H)
  have A51 := Aside0.mk A510
  clear A510
  replace H := Option.bind_eq_some_iff.mp H
  obtain ⟨t247, A520, H⟩ := H
  (try dsimp only at H)
  have A52 := Aside0.mk A520
  clear A520
  have HS_ := Aside0.mk H
  clear H
  go_upto_region 31 with (first | ((with_reducible refine gate_callee (f := 17) rfl ?_); refine goesL_ (some 78) rfl rfl Try.func17 (by kernel_rfl) rfl #[.slice A0 l0.length c0] rfl mp_ ?_; (with_reducible refine (laws_toIntS.calls kj38 _ _ l0 t241 _ ?side1 ?side2 A50.out).mono ?_); (case side1 => exact pc_ (Kd.C_below HR0.out HB.out)); (case side2 => exact HC0.out); rintro e w53 ⟨v242, rfl, ho0, hb⟩; refine ⟨_, rfl, ?_⟩; have n0_ := Aside0.mk (Kd.R_elder' (pr_ HO_8.out) (Kd.R_base ho0) hb); have n1_ := Aside0.mk (Kd.R_elder' (pr_ HO_11.out) (Kd.R_base ho0) hb); have n2_ := Aside0.mk (Kd.R_lower (Kd.R_new' (Kd.R_new' ho0 (Kd.R_lt (pr_ HO_8.out))) (Kd.R_lt (pr_ HO_11.out))) (below_size (pb_ HB.out))); have n3_ := Aside0.mk (below_step (pb_ HB.out) hb); clear HO_8; clear HO_11; clear HB; have HO_8 := n0_; have HO_11 := n1_; have HO243 := n2_; have HB := n3_; clear n0_ n1_ n2_ n3_; (try clear hb); (try clear hb2); (try clear hk); (try clear hi); (try clear ho0)) | ((with_reducible refine gate_callee (f := 18) rfl ?_); refine goesL_ (some 80) rfl rfl Try.func18 (by kernel_rfl) rfl #[.slice A1 l1.length c1] rfl mp_ ?_; (with_reducible refine (laws_toIntSS.calls kj38 _ _ l1 t244 _ ?side1 ?side2 A51.out).mono ?_); (case side1 => exact pc_ (Kd.C_below HR1.out HB.out)); (case side2 => exact HC1.out); rintro e w54 ⟨v245, rfl, ho0, hb⟩; refine ⟨_, rfl, ?_⟩; have n0_ := Aside0.mk (Kd.R_below (pr_ HO_8.out) hb); have n1_ := Aside0.mk (Kd.R_below (pr_ HO_11.out) hb); have n2_ := Aside0.mk (Kd.R_below (pr_ HO243.out) hb); have n3_ := Aside0.mk (Kd.S_lower (Kd.S_new' (Kd.S_new' (Kd.S_new' ho0 (Kd.R_lt (pr_ HO_8.out))) (Kd.R_lt (pr_ HO_11.out))) (Kd.R_lt (pr_ HO243.out))) (below_size (pb_ HB.out))); have n4_ := Aside0.mk (below_step (pb_ HB.out) hb); clear HO_8; clear HO_11; clear HO243; clear HB; have HO_8 := n0_; have HO_11 := n1_; have HO243 := n2_; have HO246 := n3_; have HB := n4_; clear n0_ n1_ n2_ n3_ n4_; (try clear hb); (try clear hb2); (try clear hk); (try clear hi); (try clear ho0); obtain ⟨Ao55, co55, eo55⟩ := Kd.R_slice HO243.out; subst eo55; obtain ⟨Ao56, co56, eo56⟩ := Kd.S_slice HO246.out; subst eo56) | ((with_reducible refine gate_callee (f := 25) rfl ?_); refine goesL_ (some 82) rfl rfl Try.func25 (by kernel_rfl) rfl #[.slice Ao55 t241.length co55, .slice Ao56 t244.length co56, .int .i64 a2] rfl mp_ ?_; (with_reducible refine (impl_Stranded.calls kj38 _ _ t241 _ _ t244 a2 t247 _ ?side1 ?side2 ?side3 ?side4 A52.out).mono ?_); (case side1 => exact pc_ ((Kd.R_reads' HO243.out).2.2)); (case side2 => exact (Kd.R_reads' HO243.out).2.1); (case side3 => exact pc_ ((Kd.S_reads' HO246.out).2.2)); (case side4 => exact (Kd.S_reads' HO246.out).2.1); rintro e w57 ⟨v248, rfl, ho0, hb⟩; refine ⟨_, rfl, ?_⟩; have n0_ := Aside0.mk (Kd.R_elder' (pr_ HO_8.out) (Kd.R_base ho0) hb); have n1_ := Aside0.mk (Kd.R_elder' (pr_ HO_11.out) (Kd.R_base ho0) hb); have n2_ := Aside0.mk (Kd.R_elder' (pr_ HO243.out) (Kd.R_base ho0) hb); have n3_ := Aside0.mk (Kd.S_elder' (ps_ HO246.out) (Kd.R_base ho0) hb); have n4_ := Aside0.mk (Kd.R_lower (Kd.R_new' (Kd.R_new' (Kd.R_new' ho0 (Kd.R_lt (pr_ HO_8.out))) (Kd.R_lt (pr_ HO_11.out))) (Kd.R_lt (pr_ HO243.out))) (below_size (pb_ HB.out))); have n5_ := Aside0.mk (below_step (pb_ HB.out) hb); clear HO_8; clear HO_11; clear HO243; clear HO246; clear HB; have HO_8 := n0_; have HO_11 := n1_; have HO243 := n2_; have HO246 := n3_; have HO249 := n4_; have HB := n5_; clear n0_ n1_ n2_ n3_ n4_ n5_; (try clear hb); (try clear hb2); (try clear hk); (try clear hi); (try clear ho0)))
  (try simp only [Act.put, List.setIfInBounds_toArray, List.set_cons_zero, List.set_cons_succ])
  have H := HS_.out
  clear HS_
  replace H := Option.bind_eq_some_iff.mp H
  obtain ⟨t250, A580, H⟩ := H
  (try dsimp only at H)
  have A58 := Aside0.mk A580
  clear A580
  have HS_ := Aside0.mk H
  clear H
  obtain ⟨Ao59, co59, eo59⟩ := Kd.R_slice HO249.out
  subst eo59
  go_upto_if 86 with (first | ((with_reducible refine gate_callee (f := 20) rfl ?_); refine goesL_ (some 85) rfl rfl Try.func20 (by kernel_rfl) rfl #[.slice Ao59 t247.length co59, .slice Ao25 t213.length co25] rfl mp_ ?_; (with_reducible refine (laws_eqIntS.calls kj38 _ _ t247 _ _ t213 t250 _ ?side1 ?side2 ?side3 ?side4 A58.out).mono ?_); (case side1 => exact pc_ ((Kd.R_reads' HO249.out).2.2)); (case side2 => exact (Kd.R_reads' HO249.out).2.1); (case side3 => exact pc_ ((Kd.R_reads' HO_8.out).2.2)); (case side4 => exact (Kd.R_reads' HO_8.out).2.1); rintro e w' ⟨rfl, ⟨nd, rfl⟩⟩; refine ⟨_, rfl, ?_⟩))
  (try simp only [Act.put, List.setIfInBounds_toArray, List.set_cons_zero, List.set_cons_succ])
  have H := HS_.out
  clear HS_
  by_cases c60 : t250 = true
  rotate_left
  · replace c60 := Bool.eq_false_iff.mpr c60
    subst c60
    rw [if_neg (show ¬ (false = true) by decide)] at H
    obtain rfl := Option.some.inj H
    go_wp2
    go_ret
    exact ⟨er_, pb_ HB.out⟩
  subst c60
  rw [if_pos rfl] at H
  replace H := Option.bind_eq_some_iff.mp H
  obtain ⟨t251, A610, H⟩ := H
  (try dsimp only at H)
  have A61 := Aside0.mk A610
  clear A610
  have HS_ := Aside0.mk H
  clear H
  go_upto_if 91 with (first | ((with_reducible refine gate_callee (f := 28) rfl ?_); refine goesL_ (some 89) rfl rfl Try.func28 (by kernel_rfl) rfl #[.slice Ao24 t239.length co24, .int .i64 1] rfl (by (try simp only [List.map_toArray, List.map_cons, List.map_nil]); first | done | (rw [show t239.length = t222.length from (Kd.R_reads' HO_11.out).1.symm] <;> rfl) | rfl | (simp only [List.length_drop, List.length_take]; rfl)) ?_; (with_reducible refine (laws_heldIntS.calls kj38 _ _ t239 1 t251 _ ?side1 ?side2 A61.out).mono ?_); (case side1 => exact pc_ ((Kd.R_reads' HO_11.out).2.2)); (case side2 => rw [show t239.length = t222.length from (Kd.R_reads' HO_11.out).1.symm]; exact (Kd.R_reads' HO_11.out).2.1); rintro e w' ⟨rfl, ⟨nd, rfl⟩⟩; refine ⟨_, rfl, ?_⟩))
  (try simp only [Act.put, List.setIfInBounds_toArray, List.set_cons_zero, List.set_cons_succ])
  have H := HS_.out
  clear HS_
  by_cases c62 : t251 < 0
  · rw [if_pos c62] at H
    have c62b0 : decide (t251 < 0) = true := decide_eq_true c62
    clear c62
    (first | rw [c62b0] | (simp only [i64_w, i32_w]; rw [c62b0]) | skip)
    obtain rfl := Option.some.inj H
    go_wp2
    go_ret
    exact ⟨er_, pb_ HB.out⟩
  rw [if_neg c62] at H
  have c62b0 : decide (t251 < 0) = false := decide_eq_false c62
  clear c62
  (first | rw [c62b0] | (simp only [i64_w, i32_w]; rw [c62b0]) | skip)
  by_cases c63 : t251 = t238
  rotate_left
  · rw [if_neg c63] at H
    have c63b0 : (t251 == t238) = false := beq_eq_false_iff_ne.mpr c63
    have c63b1 : (t251 != t238) = true := bne_iff_ne.mpr c63
    obtain rfl := Option.some.inj H
    go_wp2
    go_ret
    exact ⟨er_, pb_ HB.out⟩
  rw [if_pos c63] at H
  have c63b0 : (t251 == t238) = true := beq_iff_eq.mpr c63
  have c63b1 : (t251 != t238) = false := bne_eq_false_iff_eq.mpr c63
  clear c63
  obtain rfl := Option.some.inj H
  go_wp2
  go_ret
  exact ⟨er_, pb_ HB.out⟩

/-- THE ONE PURE STATEMENT of laws_FnExactStranded: yours. -/
def laws_FnExactStranded.Pure : Prop := ∀ (x0 : List Int) (x1 : List (List Int)) (x2 : Int), (x0.length * 8 ≤ 140737488351232 ∧ ∀ y ∈ x0, (Lit.int .i64 y).wf = true) → (x1.length * 24 ≤ 140737488351232 ∧ ∀ y ∈ x1, (y.length * 8 ≤ 140737488351232 ∧ ∀ yy ∈ y, (Lit.int .i64 yy).wf = true)) → (Lit.int .i64 x2).wf = true → ∃ k, laws_FnExactStranded.f k x0 x1 x2 = some true

end Go.Proofs.Ytdoefkloanpliaa.Print
