-- Written by a program of this session (printx.py) out of the translation; Lean checks it.
import Derived.Test.YtlcmkgbabffmeaaPrint0
import Derived.Test.YtlcmkgbabffmeaaPrint1
import Derived.Test.YtlcmkgbabffmeaaPrint2
import Derived.Test.YtlcmkgbabffmeaaPrint3
namespace Go.Proofs.Ytlcmkgbabffmeaa.Print
open Go.RowKit Go.Proofs.YtlcmkgbabffmeaaW.PrintWords Go.Proofs.YtlcmkgbabffmeaaW.PrintLast Go.Proofs.YtlcmkgbabffmeaaW.PrintMore Go.Proofs.Ytlcmkgbabffmeaa.Short
attribute [local go_sem] max2_int min2_int max_two min_two max_three min_three max_four min_four   -- for this text's walks alone
set_option linter.unusedVariables false
set_option linter.unusedSimpArgs false

/-! ### laws_FnExactStageAfter: function 13 -/
def laws_FnExactStageAfter.j0 : Nat → List Int → Bool → Int → List Int → Int → Bool → Int → List Int → Int → Bool → Int → List Int → Int → Bool → Option (Bool)
  | 0, _, _, _, _, _, _, _, _, _, _, _, _, _, _ => none
  | k + 1, x1, x61, x256000, x256001, x256002, x256003, x273000, x273001, x273002, x273003, x290000, x290001, x290002, x290003 => if x61 = true then (some false) else ((laws_markRollout.f k x290000 x290001 x290002 x290003 1).bind fun bt307 => ((laws_heldRollout.f k x290000 bt307.2 x290002 x290003 1).bind fun t309 => (if t309 < 0 then (some false) else (if t309 = bt307.1 then ((laws_toRollout.f k x256000 x256001 x256002 x256003).bind fun bt310 => ((laws_toIntS.f k x1).bind fun t316 => ((impl_StageAfter.f k bt310.1 bt310.2.1 bt310.2.2.1 bt310.2.2.2 t316).bind fun bt319 => ((laws_eqRollout.f k bt319.1 bt319.2.1 bt319.2.2.1 bt319.2.2.2 x273000 x273001 x273002 x273003).bind fun t326 => (if t326 = true then ((laws_heldRollout.f k x290000 bt307.2 x290002 x290003 1).bind fun t327 => (if t327 < 0 then (some false) else (if t327 = bt307.1 then (some true) else (some false)))) else (some false)))))) else (some false)))))
def laws_FnExactStageAfter.f (k : Nat) (a0_0 : Int) (l0_1 : List Int) (a0_2 : Int) (a0_3 : Bool) (l1 : List Int) : Option (Bool) := if (l1.length : Int) > 1048576 then (some true) else ((laws_szRollout.f a0_0 l0_1 a0_2 a0_3 1048576).bind fun t256 => (if t256 < 0 then (some true) else ((laws_toRollout.f k a0_0 l0_1 a0_2 a0_3).bind fun bt257 => ((laws_toIntS.f k l1).bind fun t263 => ((spec_StageAfter.f k bt257.1 bt257.2.1 bt257.2.2.1 bt257.2.2.2 t263).bind fun bt266 => ((laws_toRollout.f k a0_0 l0_1 a0_2 a0_3).bind fun bt273 => ((laws_toIntS.f k l1).bind fun t280 => ((impl_StageAfter.f k bt273.1 bt273.2.1 bt273.2.2.1 bt273.2.2.2 t280).bind fun bt283 => ((laws_eqRollout.f k bt283.1 bt283.2.1 bt283.2.2.1 bt283.2.2.2 bt266.1 bt266.2.1 bt266.2.2.1 bt266.2.2.2).bind fun t290 => (if t290 = true then ((laws_toRollout.f k a0_0 l0_1 a0_2 a0_3).bind fun bt291 => ((laws_eqRollout.f k bt273.1 bt273.2.1 bt273.2.2.1 bt273.2.2.2 bt291.1 bt291.2.1 bt291.2.2.1 bt291.2.2.2).bind fun t297 => (if t297 = true then ((laws_toIntS.f k l1).bind fun t298 => ((laws_eqIntS.f k t280 t298).bind fun t301 => (if t301 = true then ((laws_markRollout.f k bt273.1 bt273.2.1 bt273.2.2.1 bt273.2.2.2 1).bind fun bt302 => ((laws_markIntS.f k t280 bt302.1).bind fun bt304 => (if bt304.1 < 0 then (laws_FnExactStageAfter.j0 k l1 true a0_0 l0_1 a0_2 a0_3 bt266.1 bt266.2.1 bt266.2.2.1 bt266.2.2.2 bt283.1 bt283.2.1 bt283.2.2.1 bt283.2.2.2) else ((laws_eqRollout.f k bt283.1 bt283.2.1 bt283.2.2.1 bt283.2.2.2 bt266.1 bt266.2.1 bt266.2.2.1 bt266.2.2.2).bind fun t306 => (laws_FnExactStageAfter.j0 k l1 (!t306) a0_0 l0_1 a0_2 a0_3 bt266.1 bt266.2.1 bt266.2.2.1 bt266.2.2.2 bt283.1 bt283.2.1 bt283.2.2.1 bt283.2.2.2))))) else (some false)))) else (some false)))) else (some false)))))))))))
theorem laws_FnExactStageAfter.mono_l : ∀ k, (∀ y0 y1 y2 y3 y4 y5 y6 y7 y8 y9 y10 y11 y12 y13, LeO (laws_FnExactStageAfter.j0 k y0 y1 y2 y3 y4 y5 y6 y7 y8 y9 y10 y11 y12 y13) (laws_FnExactStageAfter.j0 (k + 1) y0 y1 y2 y3 y4 y5 y6 y7 y8 y9 y10 y11 y12 y13))
  | 0 => fun _ _ _ _ _ _ _ _ _ _ _ _ _ _ r h => by simp [laws_FnExactStageAfter.j0] at h
  | k + 1 => by
    have ih0 := laws_FnExactStageAfter.mono_l k
    · intro y0 y1 y2 y3 y4 y5 y6 y7 y8 y9 y10 y11 y12 y13
      unfold laws_FnExactStageAfter.j0
      repeat' first
      | (with_reducible exact ih0 _ _ _ _ _ _ _ _ _ _ _ _ _ _)
      | (with_reducible exact impl_StageAfter.mono _ _ _ _ _ _)
      | (with_reducible exact laws_eqIntS.mono _ _ _)
      | (with_reducible exact laws_eqRollout.mono _ _ _ _ _ _ _ _ _)
      | (with_reducible exact laws_heldRollout.mono _ _ _ _ _ _)
      | (with_reducible exact laws_markIntS.mono _ _ _)
      | (with_reducible exact laws_markRollout.mono _ _ _ _ _ _)
      | (with_reducible exact laws_toIntS.mono _ _)
      | (with_reducible exact laws_toRollout.mono _ _ _ _ _)
      | (with_reducible exact spec_StageAfter.mono _ _ _ _ _ _)
      | (with_reducible exact LeO.refl _)
      | (with_reducible exact LeO.none _)
      | (with_reducible refine LeO.ite ?_ ?_)
      | (with_reducible refine LeO.bind ?_ (fun _ => ?_))
      | exact ih0 _ _ _ _ _ _ _ _ _ _ _ _ _ _
      | exact impl_StageAfter.mono _ _ _ _ _ _
      | exact laws_eqIntS.mono _ _ _
      | exact laws_eqRollout.mono _ _ _ _ _ _ _ _ _
      | exact laws_heldRollout.mono _ _ _ _ _ _
      | exact laws_markIntS.mono _ _ _
      | exact laws_markRollout.mono _ _ _ _ _ _
      | exact laws_toIntS.mono _ _
      | exact laws_toRollout.mono _ _ _ _ _
      | exact spec_StageAfter.mono _ _ _ _ _ _
      | exact LeO.none _
      | refine LeO.ite ?_ ?_
      | refine LeO.bind ?_ (fun _ => ?_)
theorem laws_FnExactStageAfter.mono : ∀ a0 a1 a2 a3 a4 k, LeO (laws_FnExactStageAfter.f k a0 a1 a2 a3 a4) (laws_FnExactStageAfter.f (k + 1) a0 a1 a2 a3 a4) := by
  intro a0 a1 a2 a3 a4 k
  have ih0 := laws_FnExactStageAfter.mono_l k
  unfold laws_FnExactStageAfter.f
  repeat' first
      | (with_reducible exact ih0 _ _ _ _ _ _ _ _ _ _ _ _ _ _)
      | (with_reducible exact impl_StageAfter.mono _ _ _ _ _ _)
      | (with_reducible exact laws_eqIntS.mono _ _ _)
      | (with_reducible exact laws_eqRollout.mono _ _ _ _ _ _ _ _ _)
      | (with_reducible exact laws_heldRollout.mono _ _ _ _ _ _)
      | (with_reducible exact laws_markIntS.mono _ _ _)
      | (with_reducible exact laws_markRollout.mono _ _ _ _ _ _)
      | (with_reducible exact laws_toIntS.mono _ _)
      | (with_reducible exact laws_toRollout.mono _ _ _ _ _)
      | (with_reducible exact spec_StageAfter.mono _ _ _ _ _ _)
      | (with_reducible exact LeO.refl _)
      | (with_reducible exact LeO.none _)
      | (with_reducible refine LeO.ite ?_ ?_)
      | (with_reducible refine LeO.bind ?_ (fun _ => ?_))
      | exact ih0 _ _ _ _ _ _ _ _ _ _ _ _ _ _
      | exact impl_StageAfter.mono _ _ _ _ _ _
      | exact laws_eqIntS.mono _ _ _
      | exact laws_eqRollout.mono _ _ _ _ _ _ _ _ _
      | exact laws_heldRollout.mono _ _ _ _ _ _
      | exact laws_markIntS.mono _ _ _
      | exact laws_markRollout.mono _ _ _ _ _ _
      | exact laws_toIntS.mono _ _
      | exact laws_toRollout.mono _ _ _ _ _
      | exact spec_StageAfter.mono _ _ _ _ _ _
      | exact LeO.none _
      | refine LeO.ite ?_ ?_
      | refine LeO.bind ?_ (fun _ => ?_)
set_option maxHeartbeats 8000000 in
set_option maxRecDepth 100000 in
theorem laws_FnExactStageAfter.calls (k : Nat) (a0_0 : Int) (A0_1 : Option Addr) (c0_1 : Nat) (l0_1 : List Int) (a0_2 : Int) (a0_3 : Bool) (A1 : Option Addr) (c1 : Nat) (l1 : List Int) (r : Bool) (w : World) (hr0_1 : Kd.C (Kd.int .i64) w A0_1 l0_1.length l0_1) (hc0_1 : l0_1.length ≤ c0_1) (hr1 : Kd.C (Kd.int .i64) w A1 l1.length l1) (hc1 : l1.length ≤ c1) (h : laws_FnExactStageAfter.f k a0_0 l0_1 a0_2 a0_3 l1 = some r) :
    Calls Try.prog 13 #[.agg #[.int .i64 a0_0, .slice A0_1 l0_1.length c0_1, .int .i64 a0_2, .bool a0_3], .slice A1 l1.length c1] w fun e w' => e = .returned (.bool r) ∧ Below w.heap.size w w' := by
  have hu24 := Try.underlying24
  have hu27 := Try.underlying27
  have HR0_1 := Aside0.mk hr0_1
  have HC0_1 := Aside0.mk hc0_1
  clear hr0_1 hc0_1
  have HR1 := Aside0.mk hr1
  have HC1 := Aside0.mk hc1
  clear hr1 hc1
  have HB := Aside0.mk (Below.refl w.heap.size w)
  have H : (if (l1.length : Int) > 1048576 then (some true) else ((laws_szRollout.f a0_0 l0_1 a0_2 a0_3 1048576).bind fun t256 => (if t256 < 0 then (some true) else ((laws_toRollout.f k a0_0 l0_1 a0_2 a0_3).bind fun bt257 => ((laws_toIntS.f k l1).bind fun t263 => ((spec_StageAfter.f k bt257.1 bt257.2.1 bt257.2.2.1 bt257.2.2.2 t263).bind fun bt266 => ((laws_toRollout.f k a0_0 l0_1 a0_2 a0_3).bind fun bt273 => ((laws_toIntS.f k l1).bind fun t280 => ((impl_StageAfter.f k bt273.1 bt273.2.1 bt273.2.2.1 bt273.2.2.2 t280).bind fun bt283 => ((laws_eqRollout.f k bt283.1 bt283.2.1 bt283.2.2.1 bt283.2.2.2 bt266.1 bt266.2.1 bt266.2.2.1 bt266.2.2.2).bind fun t290 => (if t290 = true then ((laws_toRollout.f k a0_0 l0_1 a0_2 a0_3).bind fun bt291 => ((laws_eqRollout.f k bt273.1 bt273.2.1 bt273.2.2.1 bt273.2.2.2 bt291.1 bt291.2.1 bt291.2.2.1 bt291.2.2.2).bind fun t297 => (if t297 = true then ((laws_toIntS.f k l1).bind fun t298 => ((laws_eqIntS.f k t280 t298).bind fun t301 => (if t301 = true then ((laws_markRollout.f k bt273.1 bt273.2.1 bt273.2.2.1 bt273.2.2.2 1).bind fun bt302 => ((laws_markIntS.f k t280 bt302.1).bind fun bt304 => (if bt304.1 < 0 then (laws_FnExactStageAfter.j0 k l1 true a0_0 l0_1 a0_2 a0_3 bt266.1 bt266.2.1 bt266.2.2.1 bt266.2.2.2 bt283.1 bt283.2.1 bt283.2.2.1 bt283.2.2.2) else ((laws_eqRollout.f k bt283.1 bt283.2.1 bt283.2.2.1 bt283.2.2.2 bt266.1 bt266.2.1 bt266.2.2.1 bt266.2.2.2).bind fun t306 => (laws_FnExactStageAfter.j0 k l1 (!t306) a0_0 l0_1 a0_2 a0_3 bt266.1 bt266.2.1 bt266.2.2.1 bt266.2.2.2 bt283.1 bt283.2.1 bt283.2.2.1 bt283.2.2.2))))) else (some false)))) else (some false)))) else (some false)))))))))))) = some r := h
  clear h
  have HS_ := Aside0.mk H
  clear H
  go_enter Try.func13, Try.ntmps13
  go_upto_if 16 with (first | ((with_reducible refine gate_dst (N := 2) rfl ?_); refine box_event ?hg (N := 2) ?hd (cs := #[.int .i64 a0_0, .slice A0_1 l0_1.length c0_1, .int .i64 a0_2, .bool a0_3]) (t := 24) ?hr ?_; (case hd => rfl); (case hg => rfl); (case hr => first | (go_simp; done) | (go_simp; rfl)); intro gb255 hg w3 hbox hb; have n0_ := Aside0.mk (below_step (pb_ HB.out) hb); have n1_ := Aside0.mk (hbox); have n2_ := Aside0.mk ((by rw [hg]; exact (below_size (pb_ HB.out)) : w.heap.size ≤ gb255)); have n3_ := Aside0.mk ((by rw [hg]; exact (below_size (pb_ HB.out)) : w.heap.size ≤ gb255)); clear HB; have HB := n0_; have BK255 := n1_; have GW255 := n2_; have GE255 := n3_; clear n0_ n1_ n2_ n3_; clear hb hbox hg))
  (try simp only [Act.put, List.setIfInBounds_toArray, List.set_cons_zero, List.set_cons_succ])
  have H := HS_.out
  clear HS_
  by_cases c4 : (l1.length : Int) > 1048576
  · rw [if_pos c4] at H
    have c4b0 : decide (1048576 < (l1.length : Int)) = true := decide_eq_true c4
    have c4b1 : decide (1048576 < l1.length) = true := decide_eq_true (by omega)
    clear c4
    (first | rw [c4b0] | (simp only [i64_w, i32_w]; rw [c4b0]) | rw [c4b1] | skip)
    obtain rfl := Option.some.inj H
    go_wp2
    go_ret
    exact ⟨er_, pb1_ HB.out GE255.out⟩
  rw [if_neg c4] at H
  have c4b0 : decide (1048576 < (l1.length : Int)) = false := decide_eq_false c4
  have c4b1 : decide (1048576 < l1.length) = false := decide_eq_false (by omega)
  clear c4
  (first | rw [c4b0] | (simp only [i64_w, i32_w]; rw [c4b0]) | rw [c4b1] | skip)
  replace H := Option.bind_eq_some_iff.mp H
  obtain ⟨t256, A50, H⟩ := H
  (try dsimp only at H)
  have A5 := Aside0.mk A50
  clear A50
  have HS_ := Aside0.mk H
  clear H
  obtain ⟨hcz6_0, hcz6_1, hcz6_2, hcz6_3, hfz6_0, hfz6_1, hfz6_2, hfz6_3⟩ := bc4_ BK255.out
  go_upto_if 21 with (first | ((with_reducible refine gate_callee (f := 15) rfl ?_); refine goesL_ (some 19) rfl rfl Try.func15 (by kernel_rfl) rfl #[.agg #[.int .i64 a0_0, .slice A0_1 l0_1.length c0_1, .int .i64 a0_2, .bool a0_3], .int .i64 1048576] rfl mp_ ?_; (with_reducible refine (laws_szRollout.calls a0_0 _ _ l0_1 a0_2 a0_3 1048576 t256 _ ?side1 ?side2 A5.out).mono ?_); (case side1 => exact pc_ (Kd.C_below HR0_1.out HB.out)); (case side2 => exact HC0_1.out); rintro e w7 ⟨rfl, hb⟩; refine ⟨_, rfl, ?_⟩; have n0_ := Aside0.mk (bb_ BK255.out hb); have n1_ := Aside0.mk (below_step (pb1_ HB.out GE255.out) hb); clear BK255; clear HB; have BK255 := n0_; have HB := n1_; clear n0_ n1_; (try clear hb); (try clear hb2); (try clear hk); (try clear hi)))
  (try simp only [Act.put, List.setIfInBounds_toArray, List.set_cons_zero, List.set_cons_succ])
  have H := HS_.out
  clear HS_
  by_cases c8 : t256 < 0
  · rw [if_pos c8] at H
    have c8b0 : decide (t256 < 0) = true := decide_eq_true c8
    clear c8
    (first | rw [c8b0] | (simp only [i64_w, i32_w]; rw [c8b0]) | skip)
    obtain rfl := Option.some.inj H
    go_wp2
    go_ret
    exact ⟨er_, pb1_ HB.out GE255.out⟩
  rw [if_neg c8] at H
  have c8b0 : decide (t256 < 0) = false := decide_eq_false c8
  clear c8
  (first | rw [c8b0] | (simp only [i64_w, i32_w]; rw [c8b0]) | skip)
  replace H := Option.bind_eq_some_iff.mp H
  obtain ⟨⟨t257, t258, t261, t262⟩, A90, H⟩ := H
  (try dsimp only at H)
  have A9 := Aside0.mk A90
  clear A90
  replace H := Option.bind_eq_some_iff.mp H
  obtain ⟨t263, A100, H⟩ := H
  (try dsimp only at H)
  have A10 := Aside0.mk A100
  clear A100
  replace H := Option.bind_eq_some_iff.mp H
  obtain ⟨⟨t266, t267, t270, t271⟩, A110, H⟩ := H
  (try dsimp only at H)
  have A11 := Aside0.mk A110
  clear A110
  have HS_ := Aside0.mk H
  clear H
  obtain ⟨hcz12_0, hcz12_1, hcz12_2, hcz12_3, hfz12_0, hfz12_1, hfz12_2, hfz12_3⟩ := bc4_ BK255.out
  go_upto_region 8 with (first | ((with_reducible refine gate_callee (f := 17) rfl ?_); refine goesL_ (some 23) rfl rfl Try.func17 (by kernel_rfl) rfl #[.agg #[.int .i64 a0_0, .slice A0_1 l0_1.length c0_1, .int .i64 a0_2, .bool a0_3]] rfl mp_ ?_; (with_reducible refine (laws_toRollout.calls k a0_0 _ _ l0_1 a0_2 a0_3 t257 t258 t261 t262 _ ?side1 ?side2 A9.out).mono ?_); (case side1 => exact pc_ (Kd.C_below HR0_1.out HB.out)); (case side2 => exact HC0_1.out); rintro e w13 ⟨v259, rfl, ho0, hb⟩; refine ⟨_, rfl, ?_⟩; have n0_ := Aside0.mk (Kd.R_lower ho0 (below_size (pb1_ HB.out GE255.out))); have n1_ := Aside0.mk (bb_ BK255.out hb); have n2_ := Aside0.mk (below_step (pb1_ HB.out GE255.out) hb); clear BK255; clear HB; have HO260 := n0_; have BK255 := n1_; have HB := n2_; clear n0_ n1_ n2_; (try clear hb); (try clear hb2); (try clear hk); (try clear hi); (try clear ho0)) | ((with_reducible refine gate_callee (f := 41) rfl ?_); refine goesL_ (some 25) rfl rfl Try.func41 (by kernel_rfl) rfl #[.slice A1 l1.length c1] rfl mp_ ?_; (with_reducible refine (laws_toIntS.calls k _ _ l1 t263 _ ?side1 ?side2 A10.out).mono ?_); (case side1 => exact pc_ (Kd.C_below HR1.out HB.out)); (case side2 => exact HC1.out); rintro e w14 ⟨v264, rfl, ho0, hb⟩; refine ⟨_, rfl, ?_⟩; have n0_ := Aside0.mk (Kd.R_elder' (pr_ HO260.out) (Kd.R_base ho0) hb); have n1_ := Aside0.mk (Kd.R_lower (Kd.R_new' ho0 (Kd.R_lt (pr_ HO260.out))) (below_size (pb1_ HB.out GE255.out))); have n2_ := Aside0.mk (bb_ BK255.out hb); have n3_ := Aside0.mk (below_step (pb1_ HB.out GE255.out) hb); clear HO260; clear BK255; clear HB; have HO260 := n0_; have HO265 := n1_; have BK255 := n2_; have HB := n3_; clear n0_ n1_ n2_ n3_; (try clear hb); (try clear hb2); (try clear hk); (try clear hi); (try clear ho0); obtain ⟨Ao15, co15, eo15⟩ := Kd.R_slice HO260.out; subst eo15; obtain ⟨Ao16, co16, eo16⟩ := Kd.R_slice HO265.out; subst eo16) | ((with_reducible refine gate_callee (f := 44) rfl ?_); refine goesL_ (some 26) rfl rfl Try.func44 (by kernel_rfl) rfl #[.agg #[.int .i64 t257, .slice Ao15 t258.length co15, .int .i64 t261, .bool t262], .slice Ao16 t263.length co16] rfl mp_ ?_; (with_reducible refine (spec_StageAfter.calls k t257 _ _ t258 t261 t262 _ _ t263 t266 t267 t270 t271 _ ?side1 ?side2 ?side3 ?side4 A11.out).mono ?_); (case side1 => exact pc_ ((Kd.R_reads' HO260.out).2.2)); (case side2 => exact (Kd.R_reads' HO260.out).2.1); (case side3 => exact pc_ ((Kd.R_reads' HO265.out).2.2)); (case side4 => exact (Kd.R_reads' HO265.out).2.1); rintro e w17 ⟨v268, rfl, ho0, hb⟩; refine ⟨_, rfl, ?_⟩; have n0_ := Aside0.mk (Kd.R_elder' (pr_ HO260.out) (Kd.R_base ho0) hb); have n1_ := Aside0.mk (Kd.R_elder' (pr_ HO265.out) (Kd.R_base ho0) hb); have n2_ := Aside0.mk (Kd.R_lower (Kd.R_new' (Kd.R_new' ho0 (Kd.R_lt (pr_ HO260.out))) (Kd.R_lt (pr_ HO265.out))) (below_size (pb1_ HB.out GE255.out))); have n3_ := Aside0.mk (bb_ BK255.out hb); have n4_ := Aside0.mk (below_step (pb1_ HB.out GE255.out) hb); clear HO260; clear HO265; clear BK255; clear HB; have HO260 := n0_; have HO265 := n1_; have HO269 := n2_; have BK255 := n3_; have HB := n4_; clear n0_ n1_ n2_ n3_ n4_; (try clear hb); (try clear hb2); (try clear hk); (try clear hi); (try clear ho0)) | ((with_reducible refine gate_dst (N := 6) rfl ?_); refine box_event ?hg (N := 6) ?hd (cs := #[.int .i64 0, .slice none 0 0, .int .i64 0, .bool false]) (t := 27) ?hr ?_; (case hd => rfl); (case hg => rfl); (case hr => first | (go_simp; done) | (go_simp; rfl)); intro gb272 hg w18 hbox hb; have n0_ := Aside0.mk (Kd.R_below (pr_ HO260.out) hb); have n1_ := Aside0.mk (Kd.R_below (pr_ HO265.out) hb); have n2_ := Aside0.mk (Kd.R_below (pr_ HO269.out) hb); have n3_ := Aside0.mk (bb_ BK255.out hb); have n4_ := Aside0.mk (below_step (pb1_ HB.out GE255.out) hb); have n5_ := Aside0.mk (hbox); have n6_ := Aside0.mk ((by rw [hg]; exact (below_size (pb1_ HB.out GE255.out)) : w.heap.size ≤ gb272)); have n7_ := Aside0.mk ((by rw [hg]; exact (below_size (pb1_ HB.out GE255.out)) : w.heap.size ≤ gb272)); have n8_ := Aside0.mk ((by rw [hg]; exact Nat.ne_of_lt (blk_lt (pk_ BK255.out)) : gb255 ≠ gb272)); have n9_ := Aside0.mk ((by rw [hg]; exact Nat.ne_of_gt (blk_lt (pk_ BK255.out)) : gb272 ≠ gb255)); clear HO260; clear HO265; clear HO269; clear BK255; clear HB; have HO260 := n0_; have HO265 := n1_; have HO269 := n2_; have BK255 := n3_; have HB := n4_; have BK272 := n5_; have GW272 := n6_; have GE272 := n7_; have NB255_272 := n8_; have NB272_255 := n9_; clear n0_ n1_ n2_ n3_ n4_ n5_ n6_ n7_ n8_ n9_; clear hb hbox hg; have hnb19 := NB272_255.out; have hnc19 := NB255_272.out; have hcz20_0 : w18.cell? ⟨gb272, 0, none⟩ = some (.int .i64 0) := (blk_cell BK272.out 0).trans rfl; have hcz20_1 : w18.cell? ⟨gb272, 1, none⟩ = some (.slice none 0 0) := (blk_cell BK272.out 1).trans rfl; have hcz20_2 : w18.cell? ⟨gb272, 2, none⟩ = some (.int .i64 0) := (blk_cell BK272.out 2).trans rfl; have hcz20_3 : w18.cell? ⟨gb272, 3, none⟩ = some (.bool false) := (blk_cell BK272.out 3).trans rfl; have hfz20_0 := blk_frozen BK272.out 0; have hfz20_1 := blk_frozen BK272.out 1; have hfz20_2 := blk_frozen BK272.out 2; have hfz20_3 := blk_frozen BK272.out 3; obtain ⟨Ao21, co21, eo21⟩ := Kd.R_slice HO269.out; subst eo21))
  (try simp only [Act.put, List.setIfInBounds_toArray, List.set_cons_zero, List.set_cons_succ])
  have H := HS_.out
  clear HS_
  replace H := Option.bind_eq_some_iff.mp H
  obtain ⟨⟨t273, t274, t277, t278⟩, A220, H⟩ := H
  (try dsimp only at H)
  have A22 := Aside0.mk A220
  clear A220
  have HS_ := Aside0.mk H
  clear H
  have hnb23 := NB255_272.out
  have hnc23 := NB272_255.out
  obtain ⟨hcz24_0, hcz24_1, hcz24_2, hcz24_3, hfz24_0, hfz24_1, hfz24_2, hfz24_3⟩ := bc4_ BK255.out
  go_upto_region 9 with (first | ((with_reducible refine gate_callee (f := 17) rfl ?_); refine goesL_ (some 28) rfl rfl Try.func17 (by kernel_rfl) rfl #[.agg #[.int .i64 a0_0, .slice A0_1 l0_1.length c0_1, .int .i64 a0_2, .bool a0_3]] rfl mp_ ?_; (with_reducible refine (laws_toRollout.calls k a0_0 _ _ l0_1 a0_2 a0_3 t273 t274 t277 t278 _ ?side1 ?side2 A22.out).mono ?_); (case side1 => exact Kd.C_below HR0_1.out (pb2_ HB.out GE255.out GE272.out)); (case side2 => exact HC0_1.out); rintro e w25 ⟨v275, rfl, ho0, hb⟩; refine ⟨_, rfl, ?_⟩; have n0_ := Aside0.mk (Kd.R_elder' (pr_ (rf4_ HO260.out BK272.out)) (Kd.R_base ho0) hb); have n1_ := Aside0.mk (Kd.R_elder' (pr_ (rf4_ HO265.out BK272.out)) (Kd.R_base ho0) hb); have n2_ := Aside0.mk (Kd.R_elder' (pr_ (rf4_ HO269.out BK272.out)) (Kd.R_base ho0) hb); have n3_ := Aside0.mk (Kd.R_lower (Kd.R_new' (Kd.R_new' (Kd.R_new' ho0 (Kd.R_lt (pr_ (rf4_ HO260.out BK272.out)))) (Kd.R_lt (pr_ (rf4_ HO265.out BK272.out)))) (Kd.R_lt (pr_ (rf4_ HO269.out BK272.out)))) (below_size (pb2_ HB.out GE255.out GE272.out))); have n4_ := Aside0.mk (blk_below (g := gb255) (o := .cells #[.int .i64 a0_0, .slice A0_1 l0_1.length c0_1, .int .i64 a0_2, .bool a0_3] 24 (0, 0)) (pp_ BK255.out) hb); have n5_ := Aside0.mk (blk_below (g := gb272) (o := .cells #[.int .i64 t266, .slice Ao21 t267.length co21, .int .i64 t270, .bool t271] 27 (0, 0)) (pp_ BK272.out) hb); have n6_ := Aside0.mk (below_step (pb2_ HB.out GE255.out GE272.out) hb); clear HO260; clear HO265; clear HO269; clear BK255; clear BK272; clear HB; have HO260 := n0_; have HO265 := n1_; have HO269 := n2_; have HO276 := n3_; have BK255 := n4_; have BK272 := n5_; have HB := n6_; clear n0_ n1_ n2_ n3_ n4_ n5_ n6_; (try clear hb); (try clear hb2); (try clear hk); (try clear hi); (try clear ho0)) | ((with_reducible refine gate_dst (N := 7) rfl ?_); refine box_event ?hg (N := 7) ?hd (cs := #[.int .i64 0, .slice none 0 0, .int .i64 0, .bool false]) (t := 27) ?hr ?_; (case hd => rfl); (case hg => rfl); (case hr => first | (go_simp; done) | (go_simp; rfl)); intro gb279 hg w26 hbox hb; have n0_ := Aside0.mk (Kd.R_below (pr_ HO260.out) hb); have n1_ := Aside0.mk (Kd.R_below (pr_ HO265.out) hb); have n2_ := Aside0.mk (Kd.R_below (pr_ HO269.out) hb); have n3_ := Aside0.mk (Kd.R_below (pr_ HO276.out) hb); have n4_ := Aside0.mk (bb_ BK255.out hb); have n5_ := Aside0.mk (bb_ BK272.out hb); have n6_ := Aside0.mk (below_step (pb2_ HB.out GE255.out GE272.out) hb); have n7_ := Aside0.mk (hbox); have n8_ := Aside0.mk ((by rw [hg]; exact (below_size (pb2_ HB.out GE255.out GE272.out)) : w.heap.size ≤ gb279)); have n9_ := Aside0.mk ((by rw [hg]; exact (below_size (pb2_ HB.out GE255.out GE272.out)) : w.heap.size ≤ gb279)); have n10_ := Aside0.mk ((by rw [hg]; exact Nat.ne_of_lt (blk_lt (pk_ BK255.out)) : gb255 ≠ gb279)); have n11_ := Aside0.mk ((by rw [hg]; exact Nat.ne_of_gt (blk_lt (pk_ BK255.out)) : gb279 ≠ gb255)); have n12_ := Aside0.mk ((by rw [hg]; exact Nat.ne_of_lt (blk_lt (pk_ BK272.out)) : gb272 ≠ gb279)); have n13_ := Aside0.mk ((by rw [hg]; exact Nat.ne_of_gt (blk_lt (pk_ BK272.out)) : gb279 ≠ gb272)); clear HO260; clear HO265; clear HO269; clear HO276; clear BK255; clear BK272; clear HB; have HO260 := n0_; have HO265 := n1_; have HO269 := n2_; have HO276 := n3_; have BK255 := n4_; have BK272 := n5_; have HB := n6_; have BK279 := n7_; have GW279 := n8_; have GE279 := n9_; have NB255_279 := n10_; have NB279_255 := n11_; have NB272_279 := n12_; have NB279_272 := n13_; clear n0_ n1_ n2_ n3_ n4_ n5_ n6_ n7_ n8_ n9_ n10_ n11_ n12_ n13_; clear hb hbox hg; have hnb27 := NB279_255.out; have hnc27 := NB255_279.out; have hnb28 := NB279_272.out; have hnc28 := NB272_279.out; have hcz29_0 : w26.cell? ⟨gb279, 0, none⟩ = some (.int .i64 0) := (blk_cell BK279.out 0).trans rfl; have hcz29_1 : w26.cell? ⟨gb279, 1, none⟩ = some (.slice none 0 0) := (blk_cell BK279.out 1).trans rfl; have hcz29_2 : w26.cell? ⟨gb279, 2, none⟩ = some (.int .i64 0) := (blk_cell BK279.out 2).trans rfl; have hcz29_3 : w26.cell? ⟨gb279, 3, none⟩ = some (.bool false) := (blk_cell BK279.out 3).trans rfl; have hfz29_0 := blk_frozen BK279.out 0; have hfz29_1 := blk_frozen BK279.out 1; have hfz29_2 := blk_frozen BK279.out 2; have hfz29_3 := blk_frozen BK279.out 3; obtain ⟨Ao30, co30, eo30⟩ := Kd.R_slice HO276.out; subst eo30))
  (try simp only [Act.put, List.setIfInBounds_toArray, List.set_cons_zero, List.set_cons_succ])
  have H := HS_.out
  clear HS_
  replace H := Option.bind_eq_some_iff.mp H
  obtain ⟨t280, A310, H⟩ := H
  (try dsimp only at H)
  have A31 := Aside0.mk A310
  clear A310
  have HS_ := Aside0.mk H
  clear H
  go_upto_region 10 with (first | ((with_reducible refine gate_callee (f := 41) rfl ?_); refine goesL_ (some 30) rfl rfl Try.func41 (by kernel_rfl) rfl #[.slice A1 l1.length c1] rfl mp_ ?_; (with_reducible refine (laws_toIntS.calls k _ _ l1 t280 _ ?side1 ?side2 A31.out).mono ?_); (case side1 => exact Kd.C_below HR1.out (pb3_ HB.out GE255.out GE272.out GE279.out)); (case side2 => exact HC1.out); rintro e w32 ⟨v281, rfl, ho0, hb⟩; refine ⟨_, rfl, ?_⟩; have n0_ := Aside0.mk (Kd.R_elder' (pr_ (rf4_ HO260.out BK279.out)) (Kd.R_base ho0) hb); have n1_ := Aside0.mk (Kd.R_elder' (pr_ (rf4_ HO265.out BK279.out)) (Kd.R_base ho0) hb); have n2_ := Aside0.mk (Kd.R_elder' (pr_ (rf4_ HO269.out BK279.out)) (Kd.R_base ho0) hb); have n3_ := Aside0.mk (Kd.R_elder' (pr_ (rf4_ HO276.out BK279.out)) (Kd.R_base ho0) hb); have n4_ := Aside0.mk (Kd.R_lower (Kd.R_new' (Kd.R_new' (Kd.R_new' (Kd.R_new' ho0 (Kd.R_lt (pr_ (rf4_ HO260.out BK279.out)))) (Kd.R_lt (pr_ (rf4_ HO265.out BK279.out)))) (Kd.R_lt (pr_ (rf4_ HO269.out BK279.out)))) (Kd.R_lt (pr_ (rf4_ HO276.out BK279.out)))) (below_size (pb3_ HB.out GE255.out GE272.out GE279.out))); have n5_ := Aside0.mk (blk_below (g := gb255) (o := .cells #[.int .i64 a0_0, .slice A0_1 l0_1.length c0_1, .int .i64 a0_2, .bool a0_3] 24 (0, 0)) (pp_ BK255.out) hb); have n6_ := Aside0.mk (blk_below (g := gb272) (o := .cells #[.int .i64 t266, .slice Ao21 t267.length co21, .int .i64 t270, .bool t271] 27 (0, 0)) (pp_ BK272.out) hb); have n7_ := Aside0.mk (blk_below (g := gb279) (o := .cells #[.int .i64 t273, .slice Ao30 t274.length co30, .int .i64 t277, .bool t278] 27 (0, 0)) (pp_ BK279.out) hb); have n8_ := Aside0.mk (below_step (pb3_ HB.out GE255.out GE272.out GE279.out) hb); clear HO260; clear HO265; clear HO269; clear HO276; clear BK255; clear BK272; clear BK279; clear HB; have HO260 := n0_; have HO265 := n1_; have HO269 := n2_; have HO276 := n3_; have HO282 := n4_; have BK255 := n5_; have BK272 := n6_; have BK279 := n7_; have HB := n8_; clear n0_ n1_ n2_ n3_ n4_ n5_ n6_ n7_ n8_; (try clear hb); (try clear hb2); (try clear hk); (try clear hi); (try clear ho0)))
  (try simp only [Act.put, List.setIfInBounds_toArray, List.set_cons_zero, List.set_cons_succ])
  have H := HS_.out
  clear HS_
  replace H := Option.bind_eq_some_iff.mp H
  obtain ⟨⟨t283, t284, t287, t288⟩, A330, H⟩ := H
  (try dsimp only at H)
  have A33 := Aside0.mk A330
  clear A330
  have HS_ := Aside0.mk H
  clear H
  have hnb34 := NB279_255.out
  have hnc34 := NB255_279.out
  have hnb35 := NB279_272.out
  have hnc35 := NB272_279.out
  obtain ⟨hcz36_0, hcz36_1, hcz36_2, hcz36_3, hfz36_0, hfz36_1, hfz36_2, hfz36_3⟩ := bc4_ BK279.out
  obtain ⟨Ao37, co37, eo37⟩ := Kd.R_slice HO282.out
  subst eo37
  go_upto_region 11 with (first | ((with_reducible refine gate_callee (f := 45) rfl ?_); refine goesL_ (some 33) rfl rfl Try.func45 (by kernel_rfl) rfl #[.agg #[.int .i64 t273, .slice Ao30 t274.length co30, .int .i64 t277, .bool t278], .slice Ao37 t280.length co37] rfl mp_ ?_; (with_reducible refine (impl_StageAfter.calls k t273 _ _ t274 t277 t278 _ _ t280 t283 t284 t287 t288 _ ?side1 ?side2 ?side3 ?side4 A33.out).mono ?_); (case side1 => exact pc_ ((Kd.R_reads' HO276.out).2.2)); (case side2 => exact (Kd.R_reads' HO276.out).2.1); (case side3 => exact pc_ ((Kd.R_reads' HO282.out).2.2)); (case side4 => exact (Kd.R_reads' HO282.out).2.1); rintro e w38 ⟨v285, rfl, ho0, hb⟩; refine ⟨_, rfl, ?_⟩; have n0_ := Aside0.mk (Kd.R_elder' (pr_ HO260.out) (Kd.R_base ho0) hb); have n1_ := Aside0.mk (Kd.R_elder' (pr_ HO265.out) (Kd.R_base ho0) hb); have n2_ := Aside0.mk (Kd.R_elder' (pr_ HO269.out) (Kd.R_base ho0) hb); have n3_ := Aside0.mk (Kd.R_elder' (pr_ HO276.out) (Kd.R_base ho0) hb); have n4_ := Aside0.mk (Kd.R_elder' (pr_ HO282.out) (Kd.R_base ho0) hb); have n5_ := Aside0.mk (Kd.R_lower (Kd.R_new' (Kd.R_new' (Kd.R_new' (Kd.R_new' (Kd.R_new' ho0 (Kd.R_lt (pr_ HO260.out))) (Kd.R_lt (pr_ HO265.out))) (Kd.R_lt (pr_ HO269.out))) (Kd.R_lt (pr_ HO276.out))) (Kd.R_lt (pr_ HO282.out))) (below_size (pb3_ HB.out GE255.out GE272.out GE279.out))); have n6_ := Aside0.mk (bb_ BK255.out hb); have n7_ := Aside0.mk (bb_ BK272.out hb); have n8_ := Aside0.mk (bb_ BK279.out hb); have n9_ := Aside0.mk (below_step (pb3_ HB.out GE255.out GE272.out GE279.out) hb); clear HO260; clear HO265; clear HO269; clear HO276; clear HO282; clear BK255; clear BK272; clear BK279; clear HB; have HO260 := n0_; have HO265 := n1_; have HO269 := n2_; have HO276 := n3_; have HO282 := n4_; have HO286 := n5_; have BK255 := n6_; have BK272 := n7_; have BK279 := n8_; have HB := n9_; clear n0_ n1_ n2_ n3_ n4_ n5_ n6_ n7_ n8_ n9_; (try clear hb); (try clear hb2); (try clear hk); (try clear hi); (try clear ho0)) | ((with_reducible refine gate_dst (N := 9) rfl ?_); refine box_event ?hg (N := 9) ?hd (cs := #[.int .i64 0, .slice none 0 0, .int .i64 0, .bool false]) (t := 27) ?hr ?_; (case hd => rfl); (case hg => rfl); (case hr => first | (go_simp; done) | (go_simp; rfl)); intro gb289 hg w39 hbox hb; have n0_ := Aside0.mk (Kd.R_below (pr_ HO260.out) hb); have n1_ := Aside0.mk (Kd.R_below (pr_ HO265.out) hb); have n2_ := Aside0.mk (Kd.R_below (pr_ HO269.out) hb); have n3_ := Aside0.mk (Kd.R_below (pr_ HO276.out) hb); have n4_ := Aside0.mk (Kd.R_below (pr_ HO282.out) hb); have n5_ := Aside0.mk (Kd.R_below (pr_ HO286.out) hb); have n6_ := Aside0.mk (bb_ BK255.out hb); have n7_ := Aside0.mk (bb_ BK272.out hb); have n8_ := Aside0.mk (bb_ BK279.out hb); have n9_ := Aside0.mk (below_step (pb3_ HB.out GE255.out GE272.out GE279.out) hb); have n10_ := Aside0.mk (hbox); have n11_ := Aside0.mk ((by rw [hg]; exact (below_size (pb3_ HB.out GE255.out GE272.out GE279.out)) : w.heap.size ≤ gb289)); have n12_ := Aside0.mk ((by rw [hg]; exact (below_size (pb3_ HB.out GE255.out GE272.out GE279.out)) : w.heap.size ≤ gb289)); have n13_ := Aside0.mk ((by rw [hg]; exact Nat.ne_of_lt (blk_lt (pk_ BK255.out)) : gb255 ≠ gb289)); have n14_ := Aside0.mk ((by rw [hg]; exact Nat.ne_of_gt (blk_lt (pk_ BK255.out)) : gb289 ≠ gb255)); have n15_ := Aside0.mk ((by rw [hg]; exact Nat.ne_of_lt (blk_lt (pk_ BK272.out)) : gb272 ≠ gb289)); have n16_ := Aside0.mk ((by rw [hg]; exact Nat.ne_of_gt (blk_lt (pk_ BK272.out)) : gb289 ≠ gb272)); have n17_ := Aside0.mk ((by rw [hg]; exact Nat.ne_of_lt (blk_lt (pk_ BK279.out)) : gb279 ≠ gb289)); have n18_ := Aside0.mk ((by rw [hg]; exact Nat.ne_of_gt (blk_lt (pk_ BK279.out)) : gb289 ≠ gb279)); clear HO260; clear HO265; clear HO269; clear HO276; clear HO282; clear HO286; clear BK255; clear BK272; clear BK279; clear HB; have HO260 := n0_; have HO265 := n1_; have HO269 := n2_; have HO276 := n3_; have HO282 := n4_; have HO286 := n5_; have BK255 := n6_; have BK272 := n7_; have BK279 := n8_; have HB := n9_; have BK289 := n10_; have GW289 := n11_; have GE289 := n12_; have NB255_289 := n13_; have NB289_255 := n14_; have NB272_289 := n15_; have NB289_272 := n16_; have NB279_289 := n17_; have NB289_279 := n18_; clear n0_ n1_ n2_ n3_ n4_ n5_ n6_ n7_ n8_ n9_ n10_ n11_ n12_ n13_ n14_ n15_ n16_ n17_ n18_; clear hb hbox hg; have hnb40 := NB289_255.out; have hnc40 := NB255_289.out; have hnb41 := NB289_272.out; have hnc41 := NB272_289.out; have hnb42 := NB289_279.out; have hnc42 := NB279_289.out; have hcz43_0 : w39.cell? ⟨gb289, 0, none⟩ = some (.int .i64 0) := (blk_cell BK289.out 0).trans rfl; have hcz43_1 : w39.cell? ⟨gb289, 1, none⟩ = some (.slice none 0 0) := (blk_cell BK289.out 1).trans rfl; have hcz43_2 : w39.cell? ⟨gb289, 2, none⟩ = some (.int .i64 0) := (blk_cell BK289.out 2).trans rfl; have hcz43_3 : w39.cell? ⟨gb289, 3, none⟩ = some (.bool false) := (blk_cell BK289.out 3).trans rfl; have hfz43_0 := blk_frozen BK289.out 0; have hfz43_1 := blk_frozen BK289.out 1; have hfz43_2 := blk_frozen BK289.out 2; have hfz43_3 := blk_frozen BK289.out 3; obtain ⟨Ao44, co44, eo44⟩ := Kd.R_slice HO286.out; subst eo44))
  (try simp only [Act.put, List.setIfInBounds_toArray, List.set_cons_zero, List.set_cons_succ])
  have H := HS_.out
  clear HS_
  replace H := Option.bind_eq_some_iff.mp H
  obtain ⟨t290, A450, H⟩ := H
  (try dsimp only at H)
  have A45 := Aside0.mk A450
  clear A450
  have HS_ := Aside0.mk H
  clear H
  have hnb46 := NB289_255.out
  have hnc46 := NB255_289.out
  have hnb47 := NB289_272.out
  have hnc47 := NB272_289.out
  have hnb48 := NB289_279.out
  have hnc48 := NB279_289.out
  obtain ⟨hcz49_0, hcz49_1, hcz49_2, hcz49_3, hfz49_0, hfz49_1, hfz49_2, hfz49_3⟩ := bc4_ BK289.out
  have hnb50 := NB272_255.out
  have hnc50 := NB255_272.out
  have hnb51 := NB272_279.out
  have hnc51 := NB279_272.out
  obtain ⟨hcz52_0, hcz52_1, hcz52_2, hcz52_3, hfz52_0, hfz52_1, hfz52_2, hfz52_3⟩ := bc4_ BK272.out
  go_upto_if 37 with (first | ((with_reducible refine gate_callee (f := 19) rfl ?_); refine goesL_ (some 36) rfl rfl Try.func19 (by kernel_rfl) rfl #[.agg #[.int .i64 t283, .slice Ao44 t284.length co44, .int .i64 t287, .bool t288], .agg #[.int .i64 t266, .slice Ao21 t267.length co21, .int .i64 t270, .bool t271]] rfl mp_ ?_; (with_reducible refine (laws_eqRollout.calls k t283 _ _ t284 t287 t288 t266 _ _ t267 t270 t271 t290 _ ?side1 ?side2 ?side3 ?side4 A45.out).mono ?_); (case side1 => refine (Kd.R_reads' (e := 3) (base := w.heap.size) (ok := fun k_ => (((((True ∧ some k_ ≠ (.slice Ao15 t258.length co15 : Value).ownBlock) ∧ some k_ ≠ (.slice Ao16 t263.length co16 : Value).ownBlock) ∧ some k_ ≠ (.slice Ao21 t267.length co21 : Value).ownBlock) ∧ some k_ ≠ (.slice Ao30 t274.length co30 : Value).ownBlock) ∧ some k_ ≠ (.slice Ao37 t280.length co37 : Value).ownBlock)) (n := t284.length) (c := co44) ?_).2.2; exact (pr_ (rf4_ HO286.out BK289.out))); (case side2 => exact (Kd.R_reads' HO286.out).2.1); (case side3 => refine (Kd.R_reads' (e := 3) (base := w.heap.size) (ok := fun k_ => (((((True ∧ some k_ ≠ (.slice Ao15 t258.length co15 : Value).ownBlock) ∧ some k_ ≠ (.slice Ao16 t263.length co16 : Value).ownBlock) ∧ some k_ ≠ (.slice Ao30 t274.length co30 : Value).ownBlock) ∧ some k_ ≠ (.slice Ao37 t280.length co37 : Value).ownBlock) ∧ some k_ ≠ (.slice Ao44 t284.length co44 : Value).ownBlock)) (n := t267.length) (c := co21) ?_).2.2; exact (pr_ (rf4_ HO269.out BK289.out))); (case side4 => exact (Kd.R_reads' HO269.out).2.1); rintro e w53 ⟨rfl, hb⟩; refine ⟨_, rfl, ?_⟩; have n0_ := Aside0.mk (Kd.R_below (pr_ (rf4_ HO260.out BK289.out)) hb); have n1_ := Aside0.mk (Kd.R_below (pr_ (rf4_ HO265.out BK289.out)) hb); have n2_ := Aside0.mk (Kd.R_below (pr_ (rf4_ HO269.out BK289.out)) hb); have n3_ := Aside0.mk (Kd.R_below (pr_ (rf4_ HO276.out BK289.out)) hb); have n4_ := Aside0.mk (Kd.R_below (pr_ (rf4_ HO282.out BK289.out)) hb); have n5_ := Aside0.mk (Kd.R_below (pr_ (rf4_ HO286.out BK289.out)) hb); have n6_ := Aside0.mk (blk_below (g := gb255) (o := .cells #[.int .i64 a0_0, .slice A0_1 l0_1.length c0_1, .int .i64 a0_2, .bool a0_3] 24 (0, 0)) (pp_ BK255.out) hb); have n7_ := Aside0.mk (blk_below (g := gb272) (o := .cells #[.int .i64 t266, .slice Ao21 t267.length co21, .int .i64 t270, .bool t271] 27 (0, 0)) (pp_ BK272.out) hb); have n8_ := Aside0.mk (blk_below (g := gb279) (o := .cells #[.int .i64 t273, .slice Ao30 t274.length co30, .int .i64 t277, .bool t278] 27 (0, 0)) (pp_ BK279.out) hb); have n9_ := Aside0.mk (blk_below (g := gb289) (o := .cells #[.int .i64 t283, .slice Ao44 t284.length co44, .int .i64 t287, .bool t288] 27 (0, 0)) (pp_ BK289.out) hb); have n10_ := Aside0.mk (below_step (pb4_ HB.out GE255.out GE272.out GE279.out GE289.out) hb); clear HO260; clear HO265; clear HO269; clear HO276; clear HO282; clear HO286; clear BK255; clear BK272; clear BK279; clear BK289; clear HB; have HO260 := n0_; have HO265 := n1_; have HO269 := n2_; have HO276 := n3_; have HO282 := n4_; have HO286 := n5_; have BK255 := n6_; have BK272 := n7_; have BK279 := n8_; have BK289 := n9_; have HB := n10_; clear n0_ n1_ n2_ n3_ n4_ n5_ n6_ n7_ n8_ n9_ n10_; (try clear hb); (try clear hb2); (try clear hk); (try clear hi)))
  (try simp only [Act.put, List.setIfInBounds_toArray, List.set_cons_zero, List.set_cons_succ])
  have H := HS_.out
  clear HS_
  by_cases c54 : t290 = true
  rotate_left
  · replace c54 := Bool.eq_false_iff.mpr c54
    subst c54
    rw [if_neg (show ¬ (false = true) by decide)] at H
    obtain rfl := Option.some.inj H
    go_wp2
    go_ret
    exact ⟨er_, pb4_ HB.out GE255.out GE272.out GE279.out GE289.out⟩
  subst c54
  rw [if_pos rfl] at H
  replace H := Option.bind_eq_some_iff.mp H
  obtain ⟨⟨t291, t292, t295, t296⟩, A550, H⟩ := H
  (try dsimp only at H)
  have A55 := Aside0.mk A550
  clear A550
  replace H := Option.bind_eq_some_iff.mp H
  obtain ⟨t297, A560, H⟩ := H
  (try dsimp only at H)
  have A56 := Aside0.mk A560
  clear A560
  have HS_ := Aside0.mk H
  clear H
  try go_wp2
  have n0_ := Aside0.mk (Kd.R_drew HO260.out)
  have n1_ := Aside0.mk (Kd.R_drew HO265.out)
  have n2_ := Aside0.mk (Kd.R_drew HO269.out)
  have n3_ := Aside0.mk (Kd.R_drew HO276.out)
  have n4_ := Aside0.mk (Kd.R_drew HO282.out)
  have n5_ := Aside0.mk (Kd.R_drew HO286.out)
  have n6_ := Aside0.mk (blk_drew BK255.out)
  have n7_ := Aside0.mk (blk_drew BK272.out)
  have n8_ := Aside0.mk (blk_drew BK279.out)
  have n9_ := Aside0.mk (blk_drew BK289.out)
  have n10_ := Aside0.mk (below_drew1 HB.out)
  clear HO260
  clear HO265
  clear HO269
  clear HO276
  clear HO282
  clear HO286
  clear BK255
  clear BK272
  clear BK279
  clear BK289
  clear HB
  have HO260 := n0_
  have HO265 := n1_
  have HO269 := n2_
  have HO276 := n3_
  have HO282 := n4_
  have HO286 := n5_
  have BK255 := n6_
  have BK272 := n7_
  have BK279 := n8_
  have BK289 := n9_
  have HB := n10_
  clear n0_ n1_ n2_ n3_ n4_ n5_ n6_ n7_ n8_ n9_ n10_
  refine start_ (n := 5) (S := fun w' => w'.cell? ⟨gb279, 0, none⟩ = some (.int .i64 t273) ∧ w'.cell? ⟨gb279, 1, none⟩ = some (.slice Ao30 t274.length co30) ∧ w'.cell? ⟨gb279, 2, none⟩ = some (.int .i64 t277) ∧ w'.cell? ⟨gb279, 3, none⟩ = some (.bool t278) ∧ w'.cell? ⟨gb255, 0, none⟩ = some (.int .i64 a0_0) ∧ w'.cell? ⟨gb255, 1, none⟩ = some (.slice A0_1 l0_1.length c0_1) ∧ w'.cell? ⟨gb255, 2, none⟩ = some (.int .i64 a0_2) ∧ w'.cell? ⟨gb255, 3, none⟩ = some (.bool a0_3)) (ds := []) #[false, false, false, false, false] (by kernel_rfl) rfl rfl ⟨(blk_cell BK279.out 0).trans rfl, (blk_cell BK279.out 1).trans rfl, (blk_cell BK279.out 2).trans rfl, (blk_cell BK279.out 3).trans rfl, (blk_cell BK255.out 0).trans rfl, (blk_cell BK255.out 1).trans rfl, (blk_cell BK255.out 2).trans rfl, (blk_cell BK255.out 3).trans rfl⟩ (fun hHeld => ?_)
  generalize w53.drew = w57 at HO260 HO265 HO269 HO276 HO282 HO286 BK255 BK272 BK279 BK289 HB hHeld ⊢
  refine take_ (i := 0) (N := some 38) (v := ?_) (a' := ?_) #[true, false, false, false, false] rfl rfl (by kernel_rfl) (fun _ _ _ h => h) (Or.inl ⟨by rfl, ?_⟩) hHeld ?_ ?_
  rotate_left
  · rintro w' ⟨s0, s1, s2, s3, s4, s5, s6, s7⟩
    go_simp
    (try (simp only [Instr.field]; simp only [underlying, hu24, hu27]; go_simp; simp only [asAgg]; go_simp))
    with_reducible rfl
  rotate_left
  · simp only [Act.put, List.setIfInBounds_toArray, List.set_cons_zero, List.set_cons_succ, i64_w, i32_w]
    rfl
  refine take_ (i := 1) (N := some 39) (v := ?_) (a' := ?_) #[true, true, false, false, false] rfl rfl (by kernel_rfl) (fun _ _ _ h => h) (Or.inl ⟨by rfl, ?_⟩) hHeld ?_ ?_
  rotate_left
  · rintro w' ⟨s0, s1, s2, s3, s4, s5, s6, s7⟩
    go_simp
    (try (simp only [Instr.field]; simp only [underlying, hu24, hu27]; go_simp; simp only [asAgg]; go_simp))
    with_reducible rfl
  rotate_left
  · simp only [Act.put, List.setIfInBounds_toArray, List.set_cons_zero, List.set_cons_succ, i64_w, i32_w]
    rfl
  refine one_ (i := 2) (N := some 40) #[true, true, true, false, false] rfl rfl (by kernel_rfl) (by decide) (fun K hK => ?_)
  refine goes_ Try.func17 (by kernel_rfl) rfl #[.agg #[.int .i64 a0_0, .slice A0_1 l0_1.length c0_1, .int .i64 a0_2, .bool a0_3]] (by rfl) rfl rfl mp_ ?_
  with_reducible refine (laws_toRollout.calls k a0_0 _ _ l0_1 a0_2 a0_3 t291 t292 t295 t296 _ ?side1 ?side2 A55.out).mono ?_
  (case side1 => exact pc_ (Kd.C_below HR0_1.out HB.out))
  (case side2 => exact HC0_1.out)
  rintro e w58 ⟨v293, rfl, ho0, hb⟩
  refine ⟨_, rfl, ?_⟩
  have n0_ := Aside0.mk (Kd.R_elder' (pr_ HO260.out) (Kd.R_base ho0) hb)
  have n1_ := Aside0.mk (Kd.R_elder' (pr_ HO265.out) (Kd.R_base ho0) hb)
  have n2_ := Aside0.mk (Kd.R_elder' (pr_ HO269.out) (Kd.R_base ho0) hb)
  have n3_ := Aside0.mk (Kd.R_elder' (pr_ HO276.out) (Kd.R_base ho0) hb)
  have n4_ := Aside0.mk (Kd.R_elder' (pr_ HO282.out) (Kd.R_base ho0) hb)
  have n5_ := Aside0.mk (Kd.R_elder' (pr_ HO286.out) (Kd.R_base ho0) hb)
  have n6_ := Aside0.mk (Kd.R_lower (Kd.R_new' (Kd.R_new' (Kd.R_new' (Kd.R_new' (Kd.R_new' (Kd.R_new' ho0 (Kd.R_lt (pr_ HO260.out))) (Kd.R_lt (pr_ HO265.out))) (Kd.R_lt (pr_ HO269.out))) (Kd.R_lt (pr_ HO276.out))) (Kd.R_lt (pr_ HO282.out))) (Kd.R_lt (pr_ HO286.out))) (below_size (pb4_ HB.out GE255.out GE272.out GE279.out GE289.out)))
  have n7_ := Aside0.mk (bb_ BK255.out hb)
  have n8_ := Aside0.mk (bb_ BK272.out hb)
  have n9_ := Aside0.mk (bb_ BK279.out hb)
  have n10_ := Aside0.mk (bb_ BK289.out hb)
  have n11_ := Aside0.mk (below_step (pb4_ HB.out GE255.out GE272.out GE279.out GE289.out) hb)
  clear HO260
  clear HO265
  clear HO269
  clear HO276
  clear HO282
  clear HO286
  clear BK255
  clear BK272
  clear BK279
  clear BK289
  clear HB
  have HO260 := n0_
  have HO265 := n1_
  have HO269 := n2_
  have HO276 := n3_
  have HO282 := n4_
  have HO286 := n5_
  have HO294 := n6_
  have BK255 := n7_
  have BK272 := n8_
  have BK279 := n9_
  have BK289 := n10_
  have HB := n11_
  clear n0_ n1_ n2_ n3_ n4_ n5_ n6_ n7_ n8_ n9_ n10_ n11_
  (try clear hb)
  (try clear hb2)
  (try clear hk)
  (try clear hi)
  (try clear ho0)
  obtain ⟨Ao59, co59, eo59⟩ := Kd.R_slice HO294.out
  (first | subst eo59 | (injection eo59 with f1_ f2_ f3_; have f4_ := f1_.symm; have f5_ := f3_.symm; clear f1_ f2_ f3_; subst f4_; subst f5_))
  refine hK.out _ _ ⟨(blk_cell BK279.out 0).trans rfl, (blk_cell BK279.out 1).trans rfl, (blk_cell BK279.out 2).trans rfl, (blk_cell BK279.out 3).trans rfl, (blk_cell BK255.out 0).trans rfl, (blk_cell BK255.out 1).trans rfl, (blk_cell BK255.out 2).trans rfl, (blk_cell BK255.out 3).trans rfl⟩ (fun hHeld => ?_)
  clear hK K
  refine norm_ (a' := ?_) ?_ ?_
  rotate_left
  · show Act.put _ (some 40) _ = _
    simp only [Act.put, List.setIfInBounds_toArray, List.set_cons_zero, List.set_cons_succ, i64_w, i32_w]
    rfl
  refine one_ (i := 3) (N := some 41) #[true, true, true, true, false] rfl rfl (by kernel_rfl) (by decide) (fun K hK => ?_)
  refine goes_ Try.func19 (by kernel_rfl) rfl #[.agg #[.int .i64 t273, .slice Ao30 t274.length co30, .int .i64 t277, .bool t278], .agg #[.int .i64 t291, .slice Ao59 t292.length co59, .int .i64 t295, .bool t296]] (by rfl) rfl rfl mp_ ?_
  with_reducible refine (laws_eqRollout.calls k t273 _ _ t274 t277 t278 t291 _ _ t292 t295 t296 t297 _ ?side1 ?side2 ?side3 ?side4 A56.out).mono ?_
  (case side1 => exact pc_ ((Kd.R_reads' HO276.out).2.2))
  (case side2 => exact (Kd.R_reads' HO276.out).2.1)
  (case side3 => exact pc_ ((Kd.R_reads' HO294.out).2.2))
  (case side4 => exact (Kd.R_reads' HO294.out).2.1)
  rintro e w60 ⟨rfl, hb⟩
  refine ⟨_, rfl, ?_⟩
  have n0_ := Aside0.mk (Kd.R_below (pr_ HO260.out) hb)
  have n1_ := Aside0.mk (Kd.R_below (pr_ HO265.out) hb)
  have n2_ := Aside0.mk (Kd.R_below (pr_ HO269.out) hb)
  have n3_ := Aside0.mk (Kd.R_below (pr_ HO276.out) hb)
  have n4_ := Aside0.mk (Kd.R_below (pr_ HO282.out) hb)
  have n5_ := Aside0.mk (Kd.R_below (pr_ HO286.out) hb)
  have n6_ := Aside0.mk (Kd.R_below (pr_ HO294.out) hb)
  have n7_ := Aside0.mk (bb_ BK255.out hb)
  have n8_ := Aside0.mk (bb_ BK272.out hb)
  have n9_ := Aside0.mk (bb_ BK279.out hb)
  have n10_ := Aside0.mk (bb_ BK289.out hb)
  have n11_ := Aside0.mk (below_step (pb4_ HB.out GE255.out GE272.out GE279.out GE289.out) hb)
  clear HO260
  clear HO265
  clear HO269
  clear HO276
  clear HO282
  clear HO286
  clear HO294
  clear BK255
  clear BK272
  clear BK279
  clear BK289
  clear HB
  have HO260 := n0_
  have HO265 := n1_
  have HO269 := n2_
  have HO276 := n3_
  have HO282 := n4_
  have HO286 := n5_
  have HO294 := n6_
  have BK255 := n7_
  have BK272 := n8_
  have BK279 := n9_
  have BK289 := n10_
  have HB := n11_
  clear n0_ n1_ n2_ n3_ n4_ n5_ n6_ n7_ n8_ n9_ n10_ n11_
  (try clear hb)
  (try clear hb2)
  (try clear hk)
  (try clear hi)
  refine hK.out _ _ ⟨(blk_cell BK279.out 0).trans rfl, (blk_cell BK279.out 1).trans rfl, (blk_cell BK279.out 2).trans rfl, (blk_cell BK279.out 3).trans rfl, (blk_cell BK255.out 0).trans rfl, (blk_cell BK255.out 1).trans rfl, (blk_cell BK255.out 2).trans rfl, (blk_cell BK255.out 3).trans rfl⟩ (fun hHeld => ?_)
  clear hK K
  refine norm_ (a' := ?_) ?_ ?_
  rotate_left
  · show Act.put _ (some 41) _ = _
    simp only [Act.put, List.setIfInBounds_toArray, List.set_cons_zero, List.set_cons_succ, i64_w, i32_w]
    rfl
  refine pure_ (i := 4) (N := some 42) (v := ?_) (a' := ?_) #[true, true, true, true, true] rfl rfl (by kernel_rfl) (fun _ _ _ h => h) (Or.inl ⟨by rfl, ?_⟩) ?_ ?_
  rotate_left
  · intro w'
    go_simp
    (try (simp only [Instr.field]; simp only [underlying, hu24, hu27]; go_simp; simp only [asAgg]; go_simp))
    with_reducible rfl
  rotate_left
  · simp only [Act.put, List.setIfInBounds_toArray, List.set_cons_zero, List.set_cons_succ, i64_w, i32_w]
    rfl
  refine done_ (by kernel_rfl) ?_
  go_upto_if 42 with (fail)
  have H := HS_.out
  clear HS_
  by_cases c61 : t297 = true
  rotate_left
  · replace c61 := Bool.eq_false_iff.mpr c61
    subst c61
    rw [if_neg (show ¬ (false = true) by decide)] at H
    obtain rfl := Option.some.inj H
    go_wp2
    go_ret
    exact ⟨er_, pb4_ HB.out GE255.out GE272.out GE279.out GE289.out⟩
  subst c61
  rw [if_pos rfl] at H
  replace H := Option.bind_eq_some_iff.mp H
  obtain ⟨t298, A620, H⟩ := H
  (try dsimp only at H)
  have A62 := Aside0.mk A620
  clear A620
  replace H := Option.bind_eq_some_iff.mp H
  obtain ⟨t301, A630, H⟩ := H
  (try dsimp only at H)
  have A63 := Aside0.mk A630
  clear A630
  have HS_ := Aside0.mk H
  clear H
  go_upto_if 47 with (first | ((with_reducible refine gate_callee (f := 41) rfl ?_); refine goesL_ (some 45) rfl rfl Try.func41 (by kernel_rfl) rfl #[.slice A1 l1.length c1] rfl mp_ ?_; (with_reducible refine (laws_toIntS.calls k _ _ l1 t298 _ ?side1 ?side2 A62.out).mono ?_); (case side1 => exact pc_ (Kd.C_below HR1.out HB.out)); (case side2 => exact HC1.out); rintro e w64 ⟨v299, rfl, ho0, hb⟩; refine ⟨_, rfl, ?_⟩; have n0_ := Aside0.mk (Kd.R_elder' (pr_ HO260.out) (Kd.R_base ho0) hb); have n1_ := Aside0.mk (Kd.R_elder' (pr_ HO265.out) (Kd.R_base ho0) hb); have n2_ := Aside0.mk (Kd.R_elder' (pr_ HO269.out) (Kd.R_base ho0) hb); have n3_ := Aside0.mk (Kd.R_elder' (pr_ HO276.out) (Kd.R_base ho0) hb); have n4_ := Aside0.mk (Kd.R_elder' (pr_ HO282.out) (Kd.R_base ho0) hb); have n5_ := Aside0.mk (Kd.R_elder' (pr_ HO286.out) (Kd.R_base ho0) hb); have n6_ := Aside0.mk (Kd.R_elder' (pr_ HO294.out) (Kd.R_base ho0) hb); have n7_ := Aside0.mk (Kd.R_lower (Kd.R_new' (Kd.R_new' (Kd.R_new' (Kd.R_new' (Kd.R_new' (Kd.R_new' (Kd.R_new' ho0 (Kd.R_lt (pr_ HO260.out))) (Kd.R_lt (pr_ HO265.out))) (Kd.R_lt (pr_ HO269.out))) (Kd.R_lt (pr_ HO276.out))) (Kd.R_lt (pr_ HO282.out))) (Kd.R_lt (pr_ HO286.out))) (Kd.R_lt (pr_ HO294.out))) (below_size (pb4_ HB.out GE255.out GE272.out GE279.out GE289.out))); have n8_ := Aside0.mk (bb_ BK255.out hb); have n9_ := Aside0.mk (bb_ BK272.out hb); have n10_ := Aside0.mk (bb_ BK279.out hb); have n11_ := Aside0.mk (bb_ BK289.out hb); have n12_ := Aside0.mk (below_step (pb4_ HB.out GE255.out GE272.out GE279.out GE289.out) hb); clear HO260; clear HO265; clear HO269; clear HO276; clear HO282; clear HO286; clear HO294; clear BK255; clear BK272; clear BK279; clear BK289; clear HB; have HO260 := n0_; have HO265 := n1_; have HO269 := n2_; have HO276 := n3_; have HO282 := n4_; have HO286 := n5_; have HO294 := n6_; have HO300 := n7_; have BK255 := n8_; have BK272 := n9_; have BK279 := n10_; have BK289 := n11_; have HB := n12_; clear n0_ n1_ n2_ n3_ n4_ n5_ n6_ n7_ n8_ n9_ n10_ n11_ n12_; (try clear hb); (try clear hb2); (try clear hk); (try clear hi); (try clear ho0); obtain ⟨Ao65, co65, eo65⟩ := Kd.R_slice HO300.out; subst eo65) | ((with_reducible refine gate_callee (f := 43) rfl ?_); refine goesL_ (some 46) rfl rfl Try.func43 (by kernel_rfl) rfl #[.slice Ao37 t280.length co37, .slice Ao65 t298.length co65] rfl mp_ ?_; (with_reducible refine (laws_eqIntS.calls k _ _ t280 _ _ t298 t301 _ ?side1 ?side2 ?side3 ?side4 A63.out).mono ?_); (case side1 => exact pc_ ((Kd.R_reads' HO282.out).2.2)); (case side2 => exact (Kd.R_reads' HO282.out).2.1); (case side3 => exact pc_ ((Kd.R_reads' HO300.out).2.2)); (case side4 => exact (Kd.R_reads' HO300.out).2.1); rintro e w' ⟨rfl, ⟨nd, rfl⟩⟩; refine ⟨_, rfl, ?_⟩))
  (try simp only [Act.put, List.setIfInBounds_toArray, List.set_cons_zero, List.set_cons_succ])
  have H := HS_.out
  clear HS_
  by_cases c66 : t301 = true
  rotate_left
  · replace c66 := Bool.eq_false_iff.mpr c66
    subst c66
    rw [if_neg (show ¬ (false = true) by decide)] at H
    obtain rfl := Option.some.inj H
    go_wp2
    go_ret
    exact ⟨er_, pb4_ HB.out GE255.out GE272.out GE279.out GE289.out⟩
  subst c66
  rw [if_pos rfl] at H
  replace H := Option.bind_eq_some_iff.mp H
  obtain ⟨⟨t302, t303⟩, A670, H⟩ := H
  (try dsimp only at H)
  have A67 := Aside0.mk A670
  clear A670
  replace H := Option.bind_eq_some_iff.mp H
  obtain ⟨⟨t304, t305⟩, A680, H⟩ := H
  (try dsimp only at H)
  have A68 := Aside0.mk A680
  clear A680
  have HC69 := Aside0.mk H
  clear H
  have hnb70 := NB279_255.out
  have hnc70 := NB255_279.out
  have hnb71 := NB279_272.out
  have hnc71 := NB272_279.out
  have hnb72 := NB279_289.out
  have hnc72 := NB289_279.out
  obtain ⟨hcz73_0, hcz73_1, hcz73_2, hcz73_3, hfz73_0, hfz73_1, hfz73_2, hfz73_3⟩ := bc4_ BK279.out
  go_upto_region 20 with (first | ((with_reducible refine gate_callee (f := 28) rfl ?_); refine goesL_ (some 50) rfl rfl Try.func28 (by kernel_rfl) rfl #[.agg #[.int .i64 t273, .slice Ao30 t274.length co30, .int .i64 t277, .bool t278], .int .i64 1] rfl mp_ ?_; (with_reducible refine (laws_markRollout.calls k t273 (fun k_ => some k_ = (.slice Ao30 t274.length co30 : Value).ownBlock) (.slice Ao30 t274.length co30) t274 t277 t278 1 t302 t303 w _ ?side1 ?side2 A67.out).mono ?_); (case side1 => repeat (first | (with_reducible first | exact HB.out | apply below_alloc | apply pw_below_drewN | apply below_drew1 | refine below_set ?_ GE255.out | refine below_set ?_ GE272.out | refine below_set ?_ GE279.out | refine below_set ?_ GE289.out) | exact HB.out)); (case side2 => exact Kd.R_tight rfl HO276.out); rintro e w74 ⟨rfl, hy0, hb, hkp⟩; refine ⟨_, rfl, ?_⟩; have n0_ := Aside0.mk (blk_kept (pk_ BK255.out) hkp (fun hs_ => (fun e_ => (Kd.R_ne HO276.out BK255.out (by decide)) e_) hs_)); have n1_ := Aside0.mk (Kd.R_mono (ok' := fun k_ => some k_ ≠ (.slice Ao16 t263.length co16 : Value).ownBlock ∧ some k_ ≠ (.slice Ao21 t267.length co21 : Value).ownBlock ∧ some k_ ≠ (.slice Ao30 t274.length co30 : Value).ownBlock ∧ some k_ ≠ (.slice Ao37 t280.length co37 : Value).ownBlock ∧ some k_ ≠ (.slice Ao44 t284.length co44 : Value).ownBlock ∧ some k_ ≠ (.slice Ao59 t292.length co59 : Value).ownBlock ∧ some k_ ≠ (.slice Ao65 t298.length co65 : Value).ownBlock) (Kd.R_keptB (HO260.out) hkp (fun k_ hk_ hs_ => (hk_.1.1.1.1.2) hs_)) (fun k_ hk_ => ⟨hk_.1.1.1.1.1.1.1.2, hk_.1.1.1.1.1.1.2, hk_.1.1.1.1.1.2, hk_.1.1.1.1.2, hk_.1.1.1.2, hk_.1.1.2, hk_.1.2⟩)); have n2_ := Aside0.mk (Kd.R_mono (ok' := fun k_ => some k_ ≠ (.slice Ao15 t258.length co15 : Value).ownBlock ∧ some k_ ≠ (.slice Ao21 t267.length co21 : Value).ownBlock ∧ some k_ ≠ (.slice Ao30 t274.length co30 : Value).ownBlock ∧ some k_ ≠ (.slice Ao37 t280.length co37 : Value).ownBlock ∧ some k_ ≠ (.slice Ao44 t284.length co44 : Value).ownBlock ∧ some k_ ≠ (.slice Ao59 t292.length co59 : Value).ownBlock ∧ some k_ ≠ (.slice Ao65 t298.length co65 : Value).ownBlock) (Kd.R_keptB (HO265.out) hkp (fun k_ hk_ hs_ => (hk_.1.1.1.1.2) hs_)) (fun k_ hk_ => ⟨hk_.1.1.1.1.1.1.1.2, hk_.1.1.1.1.1.1.2, hk_.1.1.1.1.1.2, hk_.1.1.1.1.2, hk_.1.1.1.2, hk_.1.1.2, hk_.1.2⟩)); have n3_ := Aside0.mk (Kd.R_mono (ok' := fun k_ => some k_ ≠ (.slice Ao15 t258.length co15 : Value).ownBlock ∧ some k_ ≠ (.slice Ao16 t263.length co16 : Value).ownBlock ∧ some k_ ≠ (.slice Ao30 t274.length co30 : Value).ownBlock ∧ some k_ ≠ (.slice Ao37 t280.length co37 : Value).ownBlock ∧ some k_ ≠ (.slice Ao44 t284.length co44 : Value).ownBlock ∧ some k_ ≠ (.slice Ao59 t292.length co59 : Value).ownBlock ∧ some k_ ≠ (.slice Ao65 t298.length co65 : Value).ownBlock) (Kd.R_keptB (HO269.out) hkp (fun k_ hk_ hs_ => (hk_.1.1.1.1.2) hs_)) (fun k_ hk_ => ⟨hk_.1.1.1.1.1.1.1.2, hk_.1.1.1.1.1.1.2, hk_.1.1.1.1.1.2, hk_.1.1.1.1.2, hk_.1.1.1.2, hk_.1.1.2, hk_.1.2⟩)); have n4_ := Aside0.mk (blk_kept (pk_ BK272.out) hkp (fun hs_ => (fun e_ => (Kd.R_ne HO276.out BK272.out (by decide)) e_) hs_)); have n5_ := Aside0.mk (Kd.R_reok rfl hy0 (fun k_ e_ => HO276.out.1 k_ e_)); have n6_ := Aside0.mk (blk_kept (pk_ BK279.out) hkp (fun hs_ => (fun e_ => (Kd.R_ne HO276.out BK279.out (by decide)) e_) hs_)); have n7_ := Aside0.mk (Kd.R_mono (ok' := fun k_ => some k_ ≠ (.slice Ao15 t258.length co15 : Value).ownBlock ∧ some k_ ≠ (.slice Ao16 t263.length co16 : Value).ownBlock ∧ some k_ ≠ (.slice Ao21 t267.length co21 : Value).ownBlock ∧ some k_ ≠ (.slice Ao30 t274.length co30 : Value).ownBlock ∧ some k_ ≠ (.slice Ao44 t284.length co44 : Value).ownBlock ∧ some k_ ≠ (.slice Ao59 t292.length co59 : Value).ownBlock ∧ some k_ ≠ (.slice Ao65 t298.length co65 : Value).ownBlock) (Kd.R_keptB (HO282.out) hkp (fun k_ hk_ hs_ => (hk_.1.1.1.2) hs_)) (fun k_ hk_ => ⟨hk_.1.1.1.1.1.1.1.2, hk_.1.1.1.1.1.1.2, hk_.1.1.1.1.1.2, hk_.1.1.1.1.2, hk_.1.1.1.2, hk_.1.1.2, hk_.1.2⟩)); have n8_ := Aside0.mk (Kd.R_mono (ok' := fun k_ => some k_ ≠ (.slice Ao15 t258.length co15 : Value).ownBlock ∧ some k_ ≠ (.slice Ao16 t263.length co16 : Value).ownBlock ∧ some k_ ≠ (.slice Ao21 t267.length co21 : Value).ownBlock ∧ some k_ ≠ (.slice Ao30 t274.length co30 : Value).ownBlock ∧ some k_ ≠ (.slice Ao37 t280.length co37 : Value).ownBlock ∧ some k_ ≠ (.slice Ao59 t292.length co59 : Value).ownBlock ∧ some k_ ≠ (.slice Ao65 t298.length co65 : Value).ownBlock) (Kd.R_keptB (HO286.out) hkp (fun k_ hk_ hs_ => (hk_.1.1.1.2) hs_)) (fun k_ hk_ => ⟨hk_.1.1.1.1.1.1.1.2, hk_.1.1.1.1.1.1.2, hk_.1.1.1.1.1.2, hk_.1.1.1.1.2, hk_.1.1.1.2, hk_.1.1.2, hk_.1.2⟩)); have n9_ := Aside0.mk (blk_kept (pk_ BK289.out) hkp (fun hs_ => (fun e_ => (Kd.R_ne HO276.out BK289.out (by decide)) e_) hs_)); have n10_ := Aside0.mk (Kd.R_mono (ok' := fun k_ => some k_ ≠ (.slice Ao15 t258.length co15 : Value).ownBlock ∧ some k_ ≠ (.slice Ao16 t263.length co16 : Value).ownBlock ∧ some k_ ≠ (.slice Ao21 t267.length co21 : Value).ownBlock ∧ some k_ ≠ (.slice Ao30 t274.length co30 : Value).ownBlock ∧ some k_ ≠ (.slice Ao37 t280.length co37 : Value).ownBlock ∧ some k_ ≠ (.slice Ao44 t284.length co44 : Value).ownBlock ∧ some k_ ≠ (.slice Ao65 t298.length co65 : Value).ownBlock) (Kd.R_keptB (HO294.out) hkp (fun k_ hk_ hs_ => (hk_.1.1.1.2) hs_)) (fun k_ hk_ => ⟨hk_.1.1.1.1.1.1.1.2, hk_.1.1.1.1.1.1.2, hk_.1.1.1.1.1.2, hk_.1.1.1.1.2, hk_.1.1.1.2, hk_.1.1.2, hk_.1.2⟩)); have n11_ := Aside0.mk (Kd.R_mono (ok' := fun k_ => some k_ ≠ (.slice Ao15 t258.length co15 : Value).ownBlock ∧ some k_ ≠ (.slice Ao16 t263.length co16 : Value).ownBlock ∧ some k_ ≠ (.slice Ao21 t267.length co21 : Value).ownBlock ∧ some k_ ≠ (.slice Ao30 t274.length co30 : Value).ownBlock ∧ some k_ ≠ (.slice Ao37 t280.length co37 : Value).ownBlock ∧ some k_ ≠ (.slice Ao44 t284.length co44 : Value).ownBlock ∧ some k_ ≠ (.slice Ao59 t292.length co59 : Value).ownBlock) (Kd.R_keptB (HO300.out) hkp (fun k_ hk_ hs_ => (hk_.1.1.1.2) hs_)) (fun k_ hk_ => ⟨hk_.1.1.1.1.1.1.1.2, hk_.1.1.1.1.1.1.2, hk_.1.1.1.1.1.2, hk_.1.1.1.1.2, hk_.1.1.1.2, hk_.1.1.2, hk_.1.2⟩)); have n12_ := Aside0.mk (hb); clear BK255; clear HO260; clear HO265; clear HO269; clear BK272; clear HO276; clear BK279; clear HO282; clear HO286; clear BK289; clear HO294; clear HO300; clear HB; have BK255 := n0_; have HO260 := n1_; have HO265 := n2_; have HO269 := n3_; have BK272 := n4_; have HO276 := n5_; have BK279 := n6_; have HO282 := n7_; have HO286 := n8_; have BK289 := n9_; have HO294 := n10_; have HO300 := n11_; have HB := n12_; clear n0_ n1_ n2_ n3_ n4_ n5_ n6_ n7_ n8_ n9_ n10_ n11_ n12_; (try clear hb); (try clear hkp); (try clear hy0)) | ((with_reducible refine gate_callee (f := 46) rfl ?_); refine goesL_ (some 53) rfl rfl Try.func46 (by kernel_rfl) rfl #[.slice Ao37 t280.length co37, .int .i64 t302] rfl mp_ ?_; (with_reducible refine (laws_markIntS.calls k (fun k_ => some k_ = (.slice Ao37 t280.length co37 : Value).ownBlock) (.slice Ao37 t280.length co37) t280 t302 t304 t305 w _ ?side1 ?side2 A68.out).mono ?_); (case side1 => repeat (first | (with_reducible first | exact HB.out | apply below_alloc | apply pw_below_drewN | apply below_drew1 | refine below_set ?_ GE255.out | refine below_set ?_ GE272.out | refine below_set ?_ GE279.out | refine below_set ?_ GE289.out) | exact HB.out)); (case side2 => exact Kd.R_tight rfl HO282.out); rintro e w75 ⟨rfl, hy0, hb, hkp⟩; refine ⟨_, rfl, ?_⟩; have n0_ := Aside0.mk (blk_kept (pk_ BK255.out) hkp (fun hs_ => (fun e_ => (Kd.R_ne HO282.out BK255.out (by decide)) e_) hs_)); have n1_ := Aside0.mk (Kd.R_mono (ok' := fun k_ => some k_ ≠ (.slice Ao16 t263.length co16 : Value).ownBlock ∧ some k_ ≠ (.slice Ao21 t267.length co21 : Value).ownBlock ∧ some k_ ≠ (.slice Ao30 t274.length co30 : Value).ownBlock ∧ some k_ ≠ (.slice Ao37 t280.length co37 : Value).ownBlock ∧ some k_ ≠ (.slice Ao44 t284.length co44 : Value).ownBlock ∧ some k_ ≠ (.slice Ao59 t292.length co59 : Value).ownBlock ∧ some k_ ≠ (.slice Ao65 t298.length co65 : Value).ownBlock) (Kd.R_keptB (HO260.out) hkp (fun k_ hk_ hs_ => (hk_.2.2.2.1) hs_)) (fun k_ hk_ => ⟨hk_.1.1, hk_.1.2.1, hk_.1.2.2.1, hk_.1.2.2.2.1, hk_.1.2.2.2.2.1, hk_.1.2.2.2.2.2.1, hk_.1.2.2.2.2.2.2⟩)); have n2_ := Aside0.mk (Kd.R_mono (ok' := fun k_ => some k_ ≠ (.slice Ao15 t258.length co15 : Value).ownBlock ∧ some k_ ≠ (.slice Ao21 t267.length co21 : Value).ownBlock ∧ some k_ ≠ (.slice Ao30 t274.length co30 : Value).ownBlock ∧ some k_ ≠ (.slice Ao37 t280.length co37 : Value).ownBlock ∧ some k_ ≠ (.slice Ao44 t284.length co44 : Value).ownBlock ∧ some k_ ≠ (.slice Ao59 t292.length co59 : Value).ownBlock ∧ some k_ ≠ (.slice Ao65 t298.length co65 : Value).ownBlock) (Kd.R_keptB (HO265.out) hkp (fun k_ hk_ hs_ => (hk_.2.2.2.1) hs_)) (fun k_ hk_ => ⟨hk_.1.1, hk_.1.2.1, hk_.1.2.2.1, hk_.1.2.2.2.1, hk_.1.2.2.2.2.1, hk_.1.2.2.2.2.2.1, hk_.1.2.2.2.2.2.2⟩)); have n3_ := Aside0.mk (Kd.R_mono (ok' := fun k_ => some k_ ≠ (.slice Ao15 t258.length co15 : Value).ownBlock ∧ some k_ ≠ (.slice Ao16 t263.length co16 : Value).ownBlock ∧ some k_ ≠ (.slice Ao30 t274.length co30 : Value).ownBlock ∧ some k_ ≠ (.slice Ao37 t280.length co37 : Value).ownBlock ∧ some k_ ≠ (.slice Ao44 t284.length co44 : Value).ownBlock ∧ some k_ ≠ (.slice Ao59 t292.length co59 : Value).ownBlock ∧ some k_ ≠ (.slice Ao65 t298.length co65 : Value).ownBlock) (Kd.R_keptB (HO269.out) hkp (fun k_ hk_ hs_ => (hk_.2.2.2.1) hs_)) (fun k_ hk_ => ⟨hk_.1.1, hk_.1.2.1, hk_.1.2.2.1, hk_.1.2.2.2.1, hk_.1.2.2.2.2.1, hk_.1.2.2.2.2.2.1, hk_.1.2.2.2.2.2.2⟩)); have n4_ := Aside0.mk (blk_kept (pk_ BK272.out) hkp (fun hs_ => (fun e_ => (Kd.R_ne HO282.out BK272.out (by decide)) e_) hs_)); have n5_ := Aside0.mk (Kd.R_mono (ok' := fun k_ => some k_ ≠ (.slice Ao15 t258.length co15 : Value).ownBlock ∧ some k_ ≠ (.slice Ao16 t263.length co16 : Value).ownBlock ∧ some k_ ≠ (.slice Ao21 t267.length co21 : Value).ownBlock ∧ some k_ ≠ (.slice Ao37 t280.length co37 : Value).ownBlock ∧ some k_ ≠ (.slice Ao44 t284.length co44 : Value).ownBlock ∧ some k_ ≠ (.slice Ao59 t292.length co59 : Value).ownBlock ∧ some k_ ≠ (.slice Ao65 t298.length co65 : Value).ownBlock) (Kd.R_keptB (HO276.out) hkp (fun k_ hk_ hs_ => (hk_.1.1.1.2) hs_)) (fun k_ hk_ => ⟨hk_.1.1.1.1.1.1.1.2, hk_.1.1.1.1.1.1.2, hk_.1.1.1.1.1.2, hk_.1.1.1.1.2, hk_.1.1.1.2, hk_.1.1.2, hk_.1.2⟩)); have n6_ := Aside0.mk (blk_kept (pk_ BK279.out) hkp (fun hs_ => (fun e_ => (Kd.R_ne HO282.out BK279.out (by decide)) e_) hs_)); have n7_ := Aside0.mk (Kd.R_reok rfl hy0 (fun k_ e_ => HO282.out.1 k_ e_)); have n8_ := Aside0.mk (Kd.R_mono (ok' := fun k_ => some k_ ≠ (.slice Ao15 t258.length co15 : Value).ownBlock ∧ some k_ ≠ (.slice Ao16 t263.length co16 : Value).ownBlock ∧ some k_ ≠ (.slice Ao21 t267.length co21 : Value).ownBlock ∧ some k_ ≠ (.slice Ao30 t274.length co30 : Value).ownBlock ∧ some k_ ≠ (.slice Ao37 t280.length co37 : Value).ownBlock ∧ some k_ ≠ (.slice Ao59 t292.length co59 : Value).ownBlock ∧ some k_ ≠ (.slice Ao65 t298.length co65 : Value).ownBlock) (Kd.R_keptB (HO286.out) hkp (fun k_ hk_ hs_ => (hk_.2.2.2.2.1) hs_)) (fun k_ hk_ => ⟨hk_.1.1, hk_.1.2.1, hk_.1.2.2.1, hk_.1.2.2.2.1, hk_.1.2.2.2.2.1, hk_.1.2.2.2.2.2.1, hk_.1.2.2.2.2.2.2⟩)); have n9_ := Aside0.mk (blk_kept (pk_ BK289.out) hkp (fun hs_ => (fun e_ => (Kd.R_ne HO282.out BK289.out (by decide)) e_) hs_)); have n10_ := Aside0.mk (Kd.R_mono (ok' := fun k_ => some k_ ≠ (.slice Ao15 t258.length co15 : Value).ownBlock ∧ some k_ ≠ (.slice Ao16 t263.length co16 : Value).ownBlock ∧ some k_ ≠ (.slice Ao21 t267.length co21 : Value).ownBlock ∧ some k_ ≠ (.slice Ao30 t274.length co30 : Value).ownBlock ∧ some k_ ≠ (.slice Ao37 t280.length co37 : Value).ownBlock ∧ some k_ ≠ (.slice Ao44 t284.length co44 : Value).ownBlock ∧ some k_ ≠ (.slice Ao65 t298.length co65 : Value).ownBlock) (Kd.R_keptB (HO294.out) hkp (fun k_ hk_ hs_ => (hk_.2.2.2.2.1) hs_)) (fun k_ hk_ => ⟨hk_.1.1, hk_.1.2.1, hk_.1.2.2.1, hk_.1.2.2.2.1, hk_.1.2.2.2.2.1, hk_.1.2.2.2.2.2.1, hk_.1.2.2.2.2.2.2⟩)); have n11_ := Aside0.mk (Kd.R_mono (ok' := fun k_ => some k_ ≠ (.slice Ao15 t258.length co15 : Value).ownBlock ∧ some k_ ≠ (.slice Ao16 t263.length co16 : Value).ownBlock ∧ some k_ ≠ (.slice Ao21 t267.length co21 : Value).ownBlock ∧ some k_ ≠ (.slice Ao30 t274.length co30 : Value).ownBlock ∧ some k_ ≠ (.slice Ao37 t280.length co37 : Value).ownBlock ∧ some k_ ≠ (.slice Ao44 t284.length co44 : Value).ownBlock ∧ some k_ ≠ (.slice Ao59 t292.length co59 : Value).ownBlock) (Kd.R_keptB (HO300.out) hkp (fun k_ hk_ hs_ => (hk_.2.2.2.2.1) hs_)) (fun k_ hk_ => ⟨hk_.1.1, hk_.1.2.1, hk_.1.2.2.1, hk_.1.2.2.2.1, hk_.1.2.2.2.2.1, hk_.1.2.2.2.2.2.1, hk_.1.2.2.2.2.2.2⟩)); have n12_ := Aside0.mk (hb); clear BK255; clear HO260; clear HO265; clear HO269; clear BK272; clear HO276; clear BK279; clear HO282; clear HO286; clear BK289; clear HO294; clear HO300; clear HB; have BK255 := n0_; have HO260 := n1_; have HO265 := n2_; have HO269 := n3_; have BK272 := n4_; have HO276 := n5_; have BK279 := n6_; have HO282 := n7_; have HO286 := n8_; have BK289 := n9_; have HO294 := n10_; have HO300 := n11_; have HB := n12_; clear n0_ n1_ n2_ n3_ n4_ n5_ n6_ n7_ n8_ n9_ n10_ n11_ n12_; (try clear hb); (try clear hkp); (try clear hy0)))
  (try simp only [Act.put, List.setIfInBounds_toArray, List.set_cons_zero, List.set_cons_succ])
  go_cut [61] (fun v61 wc => ∃ (kq : Nat) (x61_68 : Bool), v61 = .bool x61_68 ∧ Aside0 (laws_FnExactStageAfter.j0 kq l1 x61_68 a0_0 l0_1 a0_2 a0_3 t266 t267 t270 t271 t283 t284 t287 t288 = some r) ∧ Aside0 (kq ≤ k) ∧ Aside0 (Kd.R (Kd.int .i64) 3 wc w.heap.size (fun k_ => some k_ ≠ ((.slice Ao30 t274.length co30) : Value).ownBlock ∧ some k_ ≠ ((.slice Ao44 t284.length co44) : Value).ownBlock) (.slice Ao21 t267.length co21) t267) ∧ Aside0 (Kd.R (Kd.int .i64) 3 wc w.heap.size (fun k_ => some k_ ≠ ((.slice Ao21 t267.length co21) : Value).ownBlock ∧ some k_ ≠ ((.slice Ao44 t284.length co44) : Value).ownBlock) (.slice Ao30 t274.length co30) t303) ∧ Aside0 (Kd.R (Kd.int .i64) 3 wc w.heap.size (fun k_ => some k_ ≠ ((.slice Ao21 t267.length co21) : Value).ownBlock ∧ some k_ ≠ ((.slice Ao30 t274.length co30) : Value).ownBlock) (.slice Ao44 t284.length co44) t284) ∧ Aside0 (wc.heap[gb255]? = some (.cells #[.int .i64 a0_0, (.slice A0_1 l0_1.length c0_1), .int .i64 a0_2, .bool a0_3] 24 (0, 0))) ∧ Aside0 (wc.heap[gb272]? = some (.cells #[.int .i64 t266, (.slice Ao21 t267.length co21), .int .i64 t270, .bool t271] 27 (0, 0))) ∧ Aside0 (wc.heap[gb279]? = some (.cells #[.int .i64 t273, (.slice Ao30 t274.length co30), .int .i64 t277, .bool t278] 27 (0, 0))) ∧ Aside0 (wc.heap[gb289]? = some (.cells #[.int .i64 t283, (.slice Ao44 t284.length co44), .int .i64 t287, .bool t288] 27 (0, 0))) ∧ Aside0 (Below w.heap.size w wc))
  case first =>
    have H := HC69.out
    clear HC69
    by_cases c76 : t304 < 0
    · rw [if_pos c76] at H
      have c76b0 : decide (t304 < 0) = true := decide_eq_true c76
      clear c76
      (first | rw [c76b0] | (simp only [i64_w, i32_w]; rw [c76b0]) | skip)
      have H' := Aside0.mk H
      clear H
      go_wp2
      go_meet
      case rel => exact ⟨_, (true), el_, H', ⟨by first | omega | exact Nat.le_refl _⟩, ⟨by (with_reducible repeat (first | apply Kd.R_alloc | apply Kd.R_drewN | apply Kd.R_drew)); exact Kd.R_mono HO269.out (fun _ hk => ⟨hk.2.2.1, hk.2.2.2.2.1⟩)⟩, ⟨by (with_reducible repeat (first | apply Kd.R_alloc | apply Kd.R_drewN | apply Kd.R_drew)); exact Kd.R_mono HO276.out (fun _ hk => ⟨hk.2.2.1, hk.2.2.2.2.1⟩)⟩, ⟨by (with_reducible repeat (first | apply Kd.R_alloc | apply Kd.R_drewN | apply Kd.R_drew)); exact Kd.R_mono HO286.out (fun _ hk => ⟨hk.2.2.1, hk.2.2.2.1⟩)⟩, ⟨pk_ BK255.out⟩, ⟨pk_ BK272.out⟩, ⟨pk_ BK279.out⟩, ⟨pk_ BK289.out⟩, ⟨pb4_ HB.out GE255.out GE272.out GE279.out GE289.out⟩⟩
    rw [if_neg c76] at H
    have c76b0 : decide (t304 < 0) = false := decide_eq_false c76
    clear c76
    (first | rw [c76b0] | (simp only [i64_w, i32_w]; rw [c76b0]) | skip)
    replace H := Option.bind_eq_some_iff.mp H
    obtain ⟨t306, A770, H⟩ := H
    (try dsimp only at H)
    have A77 := Aside0.mk A770
    clear A770
    have H' := Aside0.mk H
    clear H
    have hnb78 := NB289_255.out
    have hnc78 := NB255_289.out
    have hnb79 := NB289_272.out
    have hnc79 := NB272_289.out
    have hnb80 := NB289_279.out
    have hnc80 := NB279_289.out
    obtain ⟨hcz81_0, hcz81_1, hcz81_2, hcz81_3, hfz81_0, hfz81_1, hfz81_2, hfz81_3⟩ := bc4_ BK289.out
    have hnb82 := NB272_255.out
    have hnc82 := NB255_272.out
    have hnb83 := NB272_279.out
    have hnc83 := NB279_272.out
    obtain ⟨hcz84_0, hcz84_1, hcz84_2, hcz84_3, hfz84_0, hfz84_1, hfz84_2, hfz84_3⟩ := bc4_ BK272.out
    go_wp2_with (first | (go_at_call 19; (with_reducible refine (laws_eqRollout.calls k t283 _ _ t284 t287 t288 t266 _ _ t267 t270 t271 t306 _ ?side1 ?side2 ?side3 ?side4 A77.out).mono ?_); (case side1 => exact pc_ ((Kd.R_reads' HO286.out).2.2)); (case side2 => exact (Kd.R_reads' HO286.out).2.1); (case side3 => exact pc_ ((Kd.R_reads' HO269.out).2.2)); (case side4 => exact (Kd.R_reads' HO269.out).2.1); rintro e w85 ⟨rfl, hb⟩; have n0_ := Aside0.mk (Kd.R_below (pr_ HO260.out) hb); have n1_ := Aside0.mk (Kd.R_below (pr_ HO265.out) hb); have n2_ := Aside0.mk (Kd.R_below (pr_ HO269.out) hb); have n3_ := Aside0.mk (Kd.R_below (pr_ HO276.out) hb); have n4_ := Aside0.mk (Kd.R_below (pr_ HO282.out) hb); have n5_ := Aside0.mk (Kd.R_below (pr_ HO286.out) hb); have n6_ := Aside0.mk (Kd.R_below (pr_ HO294.out) hb); have n7_ := Aside0.mk (Kd.R_below (pr_ HO300.out) hb); have n8_ := Aside0.mk (bb_ BK255.out hb); have n9_ := Aside0.mk (bb_ BK272.out hb); have n10_ := Aside0.mk (bb_ BK279.out hb); have n11_ := Aside0.mk (bb_ BK289.out hb); have n12_ := Aside0.mk (below_step (pb4_ HB.out GE255.out GE272.out GE279.out GE289.out) hb); clear HO260; clear HO265; clear HO269; clear HO276; clear HO282; clear HO286; clear HO294; clear HO300; clear BK255; clear BK272; clear BK279; clear BK289; clear HB; have HO260 := n0_; have HO265 := n1_; have HO269 := n2_; have HO276 := n3_; have HO282 := n4_; have HO286 := n5_; have HO294 := n6_; have HO300 := n7_; have BK255 := n8_; have BK272 := n9_; have BK279 := n10_; have BK289 := n11_; have HB := n12_; clear n0_ n1_ n2_ n3_ n4_ n5_ n6_ n7_ n8_ n9_ n10_ n11_ n12_; (try clear hb); (try clear hb2); (try clear hk); (try clear hi)))
    go_meet
    case rel => exact ⟨_, (!t306), el_, H', ⟨by first | omega | exact Nat.le_refl _⟩, ⟨by (with_reducible repeat (first | apply Kd.R_alloc | apply Kd.R_drewN | apply Kd.R_drew)); exact Kd.R_mono HO269.out (fun _ hk => ⟨hk.2.2.1, hk.2.2.2.2.1⟩)⟩, ⟨by (with_reducible repeat (first | apply Kd.R_alloc | apply Kd.R_drewN | apply Kd.R_drew)); exact Kd.R_mono HO276.out (fun _ hk => ⟨hk.2.2.1, hk.2.2.2.2.1⟩)⟩, ⟨by (with_reducible repeat (first | apply Kd.R_alloc | apply Kd.R_drewN | apply Kd.R_drew)); exact Kd.R_mono HO286.out (fun _ hk => ⟨hk.2.2.1, hk.2.2.2.1⟩)⟩, ⟨pk_ BK255.out⟩, ⟨pk_ BK272.out⟩, ⟨pk_ BK279.out⟩, ⟨pk_ BK289.out⟩, ⟨pb4_ HB.out GE255.out GE272.out GE279.out GE289.out⟩⟩
  clear HC69
  try clear c1
  try clear c2
  try clear p2
  try clear c3
  try clear c4
  try clear c4b0
  try clear c4b1
  try clear c5
  try clear c6
  try clear c7
  try clear c8
  try clear c8b0
  try clear c13
  try clear c15
  try clear c17
  try clear c19
  try clear c23
  try clear c27
  try clear c28
  try clear c34
  try clear c35
  try clear c40
  try clear c41
  try clear c42
  try clear c43
  try clear c44
  try clear c45
  try clear c46
  try clear c47
  try clear c48
  try clear c50
  try clear c51
  try clear c54
  try clear c61
  try clear c66
  try clear c70
  try clear c71
  try clear c72
  try clear c76
  try clear c76b0
  try clear c78
  try clear c79
  try clear c80
  try clear c82
  try clear c83
  try clear hcz12_0
  try clear hcz12_1
  try clear hcz12_2
  try clear hcz12_3
  try clear hcz20_0
  try clear hcz20_1
  try clear hcz20_2
  try clear hcz20_3
  try clear hcz24_0
  try clear hcz24_1
  try clear hcz24_2
  try clear hcz24_3
  try clear hcz29_0
  try clear hcz29_1
  try clear hcz29_2
  try clear hcz29_3
  try clear hcz36_0
  try clear hcz36_1
  try clear hcz36_2
  try clear hcz36_3
  try clear hcz43_0
  try clear hcz43_1
  try clear hcz43_2
  try clear hcz43_3
  try clear hcz49_0
  try clear hcz49_1
  try clear hcz49_2
  try clear hcz49_3
  try clear hcz52_0
  try clear hcz52_1
  try clear hcz52_2
  try clear hcz52_3
  try clear hcz6_0
  try clear hcz6_1
  try clear hcz6_2
  try clear hcz6_3
  try clear hcz73_0
  try clear hcz73_1
  try clear hcz73_2
  try clear hcz73_3
  try clear hcz81_0
  try clear hcz81_1
  try clear hcz81_2
  try clear hcz81_3
  try clear hcz84_0
  try clear hcz84_1
  try clear hcz84_2
  try clear hcz84_3
  try clear hfz12_0
  try clear hfz12_1
  try clear hfz12_2
  try clear hfz12_3
  try clear hfz20_0
  try clear hfz20_1
  try clear hfz20_2
  try clear hfz20_3
  try clear hfz24_0
  try clear hfz24_1
  try clear hfz24_2
  try clear hfz24_3
  try clear hfz29_0
  try clear hfz29_1
  try clear hfz29_2
  try clear hfz29_3
  try clear hfz36_0
  try clear hfz36_1
  try clear hfz36_2
  try clear hfz36_3
  try clear hfz43_0
  try clear hfz43_1
  try clear hfz43_2
  try clear hfz43_3
  try clear hfz49_0
  try clear hfz49_1
  try clear hfz49_2
  try clear hfz49_3
  try clear hfz52_0
  try clear hfz52_1
  try clear hfz52_2
  try clear hfz52_3
  try clear hfz6_0
  try clear hfz6_1
  try clear hfz6_2
  try clear hfz6_3
  try clear hfz73_0
  try clear hfz73_1
  try clear hfz73_2
  try clear hfz73_3
  try clear hfz81_0
  try clear hfz81_1
  try clear hfz81_2
  try clear hfz81_3
  try clear hfz84_0
  try clear hfz84_1
  try clear hfz84_2
  try clear hfz84_3
  obtain ⟨kq, x61_68, rfl, HA, HJ68, HO_273001, HO_280001, HO_290001, BK255, BK272, BK279, BK289, HB⟩ := hcut
  have hl280001_68 := (Kd.R_reads' HO_280001.out).1
  rw [hl280001_68] at HO_280001
  (try simp only [hl280001_68])
  (try simp only [hl280001_68] at BK255)
  (try simp only [hl280001_68] at BK272)
  (try simp only [hl280001_68] at BK279)
  (try simp only [hl280001_68] at BK289)
  (try simp only [hl280001_68] at HO_273001)
  (try simp only [hl280001_68] at HO_290001)
  rcases kq with _ | kj68
  · exact absurd HA.out (by simp [laws_FnExactStageAfter.j0])
  have H := HA.out
  clear HA
  simp only [laws_FnExactStageAfter.j0] at H
  by_cases c86 : x61_68 = true
  · subst c86
    rw [if_pos rfl] at H
    obtain rfl := Option.some.inj H
    go_wp2
    go_ret
    exact ⟨er_, pb4_ HB.out GE255.out GE272.out GE279.out GE289.out⟩
  replace c86 := Bool.eq_false_iff.mpr c86
  subst c86
  rw [if_neg (show ¬ (false = true) by decide)] at H
  replace H := Option.bind_eq_some_iff.mp H
  obtain ⟨⟨t307, t308⟩, A870, H⟩ := H
  (try dsimp only at H)
  have A87 := Aside0.mk A870
  clear A870
  have HS_ := Aside0.mk H
  clear H
  have hnb88 := NB289_255.out
  have hnc88 := NB255_289.out
  have hnb89 := NB289_272.out
  have hnc89 := NB272_289.out
  have hnb90 := NB289_279.out
  have hnc90 := NB279_289.out
  obtain ⟨hcz91_0, hcz91_1, hcz91_2, hcz91_3, hfz91_0, hfz91_1, hfz91_2, hfz91_3⟩ := bc4_ BK289.out
  go_upto_region 25 with (first | ((with_reducible refine gate_callee (f := 28) rfl ?_); refine goesL_ (some 64) rfl rfl Try.func28 (by kernel_rfl) rfl #[.agg #[.int .i64 t283, .slice Ao44 t284.length co44, .int .i64 t287, .bool t288], .int .i64 1] rfl mp_ ?_; (with_reducible refine (laws_markRollout.calls kj68 t283 (fun k_ => some k_ = (.slice Ao44 t284.length co44 : Value).ownBlock) (.slice Ao44 t284.length co44) t284 t287 t288 1 t307 t308 w _ ?side1 ?side2 A87.out).mono ?_); (case side1 => repeat (first | (with_reducible first | exact HB.out | apply below_alloc | apply pw_below_drewN | apply below_drew1 | refine below_set ?_ GE255.out | refine below_set ?_ GE272.out | refine below_set ?_ GE279.out | refine below_set ?_ GE289.out) | exact HB.out)); (case side2 => exact Kd.R_tight rfl HO_290001.out); rintro e w92 ⟨rfl, hy0, hb, hkp⟩; refine ⟨_, rfl, ?_⟩; have n0_ := Aside0.mk (Kd.R_mono (ok' := fun k_ => some k_ ≠ (.slice Ao30 t303.length co30 : Value).ownBlock ∧ some k_ ≠ (.slice Ao44 t284.length co44 : Value).ownBlock) (Kd.R_keptB (HO_273001.out) hkp (fun k_ hk_ hs_ => (hk_.2) hs_)) (fun k_ hk_ => ⟨hk_.1.1, hk_.1.2⟩)); have n1_ := Aside0.mk (Kd.R_mono (ok' := fun k_ => some k_ ≠ (.slice Ao21 t267.length co21 : Value).ownBlock ∧ some k_ ≠ (.slice Ao44 t284.length co44 : Value).ownBlock) (Kd.R_keptB (HO_280001.out) hkp (fun k_ hk_ hs_ => (hk_.2) hs_)) (fun k_ hk_ => ⟨hk_.1.1, hk_.1.2⟩)); have n2_ := Aside0.mk (Kd.R_reok rfl hy0 (fun k_ e_ => HO_290001.out.1 k_ e_)); have n3_ := Aside0.mk (blk_kept (pk_ BK255.out) hkp (fun hs_ => (fun e_ => (Kd.R_ne HO_290001.out BK255.out (by decide)) e_) hs_)); have n4_ := Aside0.mk (blk_kept (pk_ BK272.out) hkp (fun hs_ => (fun e_ => (Kd.R_ne HO_290001.out BK272.out (by decide)) e_) hs_)); have n5_ := Aside0.mk (blk_kept (pk_ BK279.out) hkp (fun hs_ => (fun e_ => (Kd.R_ne HO_290001.out BK279.out (by decide)) e_) hs_)); have n6_ := Aside0.mk (blk_kept (pk_ BK289.out) hkp (fun hs_ => (fun e_ => (Kd.R_ne HO_290001.out BK289.out (by decide)) e_) hs_)); have n7_ := Aside0.mk (hb); clear HO_273001; clear HO_280001; clear HO_290001; clear BK255; clear BK272; clear BK279; clear BK289; clear HB; have HO_273001 := n0_; have HO_280001 := n1_; have HO_290001 := n2_; have BK255 := n3_; have BK272 := n4_; have BK279 := n5_; have BK289 := n6_; have HB := n7_; clear n0_ n1_ n2_ n3_ n4_ n5_ n6_ n7_; (try clear hb); (try clear hkp); (try clear hy0)))
  (try simp only [Act.put, List.setIfInBounds_toArray, List.set_cons_zero, List.set_cons_succ])
  have H := HS_.out
  clear HS_
  replace H := Option.bind_eq_some_iff.mp H
  obtain ⟨t309, A930, H⟩ := H
  (try dsimp only at H)
  have A93 := Aside0.mk A930
  clear A930
  have HS_ := Aside0.mk H
  clear H
  have hnb94 := NB289_255.out
  have hnc94 := NB255_289.out
  have hnb95 := NB289_272.out
  have hnc95 := NB272_289.out
  have hnb96 := NB289_279.out
  have hnc96 := NB279_289.out
  obtain ⟨hcz97_0, hcz97_1, hcz97_2, hcz97_3, hfz97_0, hfz97_1, hfz97_2, hfz97_3⟩ := bc4_ BK289.out
  go_upto_if 69 with (first | ((with_reducible refine gate_callee (f := 29) rfl ?_); refine goesL_ (some 67) rfl rfl Try.func29 (by kernel_rfl) rfl #[.agg #[.int .i64 t283, .slice Ao44 t308.length co44, .int .i64 t287, .bool t288], .int .i64 1] rfl (by (try simp only [List.map_toArray, List.map_cons, List.map_nil]); first | done | (rw [show t308.length = t284.length from (Kd.R_reads' HO_290001.out).1.symm] <;> rfl) | rfl | (simp only [List.length_drop, List.length_take]; rfl)) ?_; (with_reducible refine (laws_heldRollout.calls kj68 t283 _ _ t308 t287 t288 1 t309 _ ?side1 ?side2 A93.out).mono ?_); (case side1 => exact pc_ ((Kd.R_reads' HO_290001.out).2.2)); (case side2 => rw [show t308.length = t284.length from (Kd.R_reads' HO_290001.out).1.symm]; exact (Kd.R_reads' HO_290001.out).2.1); rintro e w98 ⟨rfl, hb⟩; refine ⟨_, rfl, ?_⟩; have n0_ := Aside0.mk (Kd.R_below (pr_ HO_273001.out) hb); have n1_ := Aside0.mk (Kd.R_below (pr_ HO_280001.out) hb); have n2_ := Aside0.mk (Kd.R_below (pr_ HO_290001.out) hb); have n3_ := Aside0.mk (bb_ BK255.out hb); have n4_ := Aside0.mk (bb_ BK272.out hb); have n5_ := Aside0.mk (bb_ BK279.out hb); have n6_ := Aside0.mk (bb_ BK289.out hb); have n7_ := Aside0.mk (below_step (pb4_ HB.out GE255.out GE272.out GE279.out GE289.out) hb); clear HO_273001; clear HO_280001; clear HO_290001; clear BK255; clear BK272; clear BK279; clear BK289; clear HB; have HO_273001 := n0_; have HO_280001 := n1_; have HO_290001 := n2_; have BK255 := n3_; have BK272 := n4_; have BK279 := n5_; have BK289 := n6_; have HB := n7_; clear n0_ n1_ n2_ n3_ n4_ n5_ n6_ n7_; (try clear hb); (try clear hb2); (try clear hk); (try clear hi)))
  (try simp only [Act.put, List.setIfInBounds_toArray, List.set_cons_zero, List.set_cons_succ])
  have H := HS_.out
  clear HS_
  by_cases c99 : t309 < 0
  · rw [if_pos c99] at H
    have c99b0 : decide (t309 < 0) = true := decide_eq_true c99
    clear c99
    (first | rw [c99b0] | (simp only [i64_w, i32_w]; rw [c99b0]) | skip)
    obtain rfl := Option.some.inj H
    go_wp2
    go_ret
    exact ⟨er_, pb4_ HB.out GE255.out GE272.out GE279.out GE289.out⟩
  rw [if_neg c99] at H
  have c99b0 : decide (t309 < 0) = false := decide_eq_false c99
  clear c99
  (first | rw [c99b0] | (simp only [i64_w, i32_w]; rw [c99b0]) | skip)
  by_cases c100 : t309 = t307
  rotate_left
  · rw [if_neg c100] at H
    have c100b0 : (t309 == t307) = false := beq_eq_false_iff_ne.mpr c100
    have c100b1 : (t309 != t307) = true := bne_iff_ne.mpr c100
    obtain rfl := Option.some.inj H
    go_wp2
    go_ret
    exact ⟨er_, pb4_ HB.out GE255.out GE272.out GE279.out GE289.out⟩
  rw [if_pos c100] at H
  have c100b0 : (t309 == t307) = true := beq_iff_eq.mpr c100
  have c100b1 : (t309 != t307) = false := bne_eq_false_iff_eq.mpr c100
  clear c100
  replace H := Option.bind_eq_some_iff.mp H
  obtain ⟨⟨t310, t311, t314, t315⟩, A1010, H⟩ := H
  (try dsimp only at H)
  have A101 := Aside0.mk A1010
  clear A1010
  replace H := Option.bind_eq_some_iff.mp H
  obtain ⟨t316, A1020, H⟩ := H
  (try dsimp only at H)
  have A102 := Aside0.mk A1020
  clear A1020
  replace H := Option.bind_eq_some_iff.mp H
  obtain ⟨⟨t319, t320, t323, t324⟩, A1030, H⟩ := H
  (try dsimp only at H)
  have A103 := Aside0.mk A1030
  clear A1030
  have HS_ := Aside0.mk H
  clear H
  have hnb104 := NB255_272.out
  have hnc104 := NB272_255.out
  have hnb105 := NB255_279.out
  have hnc105 := NB279_255.out
  have hnb106 := NB255_289.out
  have hnc106 := NB289_255.out
  obtain ⟨hcz107_0, hcz107_1, hcz107_2, hcz107_3, hfz107_0, hfz107_1, hfz107_2, hfz107_3⟩ := bc4_ BK255.out
  go_upto_region 31 with (first | ((with_reducible refine gate_callee (f := 17) rfl ?_); refine goesL_ (some 74) rfl rfl Try.func17 (by kernel_rfl) rfl #[.agg #[.int .i64 a0_0, .slice A0_1 l0_1.length c0_1, .int .i64 a0_2, .bool a0_3]] rfl mp_ ?_; (with_reducible refine (laws_toRollout.calls kj68 a0_0 _ _ l0_1 a0_2 a0_3 t310 t311 t314 t315 _ ?side1 ?side2 A101.out).mono ?_); (case side1 => exact pc_ (Kd.C_below HR0_1.out HB.out)); (case side2 => exact HC0_1.out); rintro e w108 ⟨v312, rfl, ho0, hb⟩; refine ⟨_, rfl, ?_⟩; have n0_ := Aside0.mk (Kd.R_elder' (pr_ HO_273001.out) (Kd.R_base ho0) hb); have n1_ := Aside0.mk (Kd.R_elder' (pr_ HO_280001.out) (Kd.R_base ho0) hb); have n2_ := Aside0.mk (Kd.R_elder' (pr_ HO_290001.out) (Kd.R_base ho0) hb); have n3_ := Aside0.mk (Kd.R_lower (Kd.R_new' (Kd.R_new' (Kd.R_new' ho0 (Kd.R_lt (pr_ HO_273001.out))) (Kd.R_lt (pr_ HO_280001.out))) (Kd.R_lt (pr_ HO_290001.out))) (below_size (pb4_ HB.out GE255.out GE272.out GE279.out GE289.out))); have n4_ := Aside0.mk (bb_ BK255.out hb); have n5_ := Aside0.mk (bb_ BK272.out hb); have n6_ := Aside0.mk (bb_ BK279.out hb); have n7_ := Aside0.mk (bb_ BK289.out hb); have n8_ := Aside0.mk (below_step (pb4_ HB.out GE255.out GE272.out GE279.out GE289.out) hb); clear HO_273001; clear HO_280001; clear HO_290001; clear BK255; clear BK272; clear BK279; clear BK289; clear HB; have HO_273001 := n0_; have HO_280001 := n1_; have HO_290001 := n2_; have HO313 := n3_; have BK255 := n4_; have BK272 := n5_; have BK279 := n6_; have BK289 := n7_; have HB := n8_; clear n0_ n1_ n2_ n3_ n4_ n5_ n6_ n7_ n8_; (try clear hb); (try clear hb2); (try clear hk); (try clear hi); (try clear ho0)) | ((with_reducible refine gate_callee (f := 41) rfl ?_); refine goesL_ (some 76) rfl rfl Try.func41 (by kernel_rfl) rfl #[.slice A1 l1.length c1] rfl mp_ ?_; (with_reducible refine (laws_toIntS.calls kj68 _ _ l1 t316 _ ?side1 ?side2 A102.out).mono ?_); (case side1 => exact pc_ (Kd.C_below HR1.out HB.out)); (case side2 => exact HC1.out); rintro e w109 ⟨v317, rfl, ho0, hb⟩; refine ⟨_, rfl, ?_⟩; have n0_ := Aside0.mk (Kd.R_elder' (pr_ HO_273001.out) (Kd.R_base ho0) hb); have n1_ := Aside0.mk (Kd.R_elder' (pr_ HO_280001.out) (Kd.R_base ho0) hb); have n2_ := Aside0.mk (Kd.R_elder' (pr_ HO_290001.out) (Kd.R_base ho0) hb); have n3_ := Aside0.mk (Kd.R_elder' (pr_ HO313.out) (Kd.R_base ho0) hb); have n4_ := Aside0.mk (Kd.R_lower (Kd.R_new' (Kd.R_new' (Kd.R_new' (Kd.R_new' ho0 (Kd.R_lt (pr_ HO_273001.out))) (Kd.R_lt (pr_ HO_280001.out))) (Kd.R_lt (pr_ HO_290001.out))) (Kd.R_lt (pr_ HO313.out))) (below_size (pb4_ HB.out GE255.out GE272.out GE279.out GE289.out))); have n5_ := Aside0.mk (bb_ BK255.out hb); have n6_ := Aside0.mk (bb_ BK272.out hb); have n7_ := Aside0.mk (bb_ BK279.out hb); have n8_ := Aside0.mk (bb_ BK289.out hb); have n9_ := Aside0.mk (below_step (pb4_ HB.out GE255.out GE272.out GE279.out GE289.out) hb); clear HO_273001; clear HO_280001; clear HO_290001; clear HO313; clear BK255; clear BK272; clear BK279; clear BK289; clear HB; have HO_273001 := n0_; have HO_280001 := n1_; have HO_290001 := n2_; have HO313 := n3_; have HO318 := n4_; have BK255 := n5_; have BK272 := n6_; have BK279 := n7_; have BK289 := n8_; have HB := n9_; clear n0_ n1_ n2_ n3_ n4_ n5_ n6_ n7_ n8_ n9_; (try clear hb); (try clear hb2); (try clear hk); (try clear hi); (try clear ho0); obtain ⟨Ao110, co110, eo110⟩ := Kd.R_slice HO313.out; subst eo110; obtain ⟨Ao111, co111, eo111⟩ := Kd.R_slice HO318.out; subst eo111) | ((with_reducible refine gate_callee (f := 45) rfl ?_); refine goesL_ (some 77) rfl rfl Try.func45 (by kernel_rfl) rfl #[.agg #[.int .i64 t310, .slice Ao110 t311.length co110, .int .i64 t314, .bool t315], .slice Ao111 t316.length co111] rfl mp_ ?_; (with_reducible refine (impl_StageAfter.calls kj68 t310 _ _ t311 t314 t315 _ _ t316 t319 t320 t323 t324 _ ?side1 ?side2 ?side3 ?side4 A103.out).mono ?_); (case side1 => exact pc_ ((Kd.R_reads' HO313.out).2.2)); (case side2 => exact (Kd.R_reads' HO313.out).2.1); (case side3 => exact pc_ ((Kd.R_reads' HO318.out).2.2)); (case side4 => exact (Kd.R_reads' HO318.out).2.1); rintro e w112 ⟨v321, rfl, ho0, hb⟩; refine ⟨_, rfl, ?_⟩; have n0_ := Aside0.mk (Kd.R_elder' (pr_ HO_273001.out) (Kd.R_base ho0) hb); have n1_ := Aside0.mk (Kd.R_elder' (pr_ HO_280001.out) (Kd.R_base ho0) hb); have n2_ := Aside0.mk (Kd.R_elder' (pr_ HO_290001.out) (Kd.R_base ho0) hb); have n3_ := Aside0.mk (Kd.R_elder' (pr_ HO313.out) (Kd.R_base ho0) hb); have n4_ := Aside0.mk (Kd.R_elder' (pr_ HO318.out) (Kd.R_base ho0) hb); have n5_ := Aside0.mk (Kd.R_lower (Kd.R_new' (Kd.R_new' (Kd.R_new' (Kd.R_new' (Kd.R_new' ho0 (Kd.R_lt (pr_ HO_273001.out))) (Kd.R_lt (pr_ HO_280001.out))) (Kd.R_lt (pr_ HO_290001.out))) (Kd.R_lt (pr_ HO313.out))) (Kd.R_lt (pr_ HO318.out))) (below_size (pb4_ HB.out GE255.out GE272.out GE279.out GE289.out))); have n6_ := Aside0.mk (bb_ BK255.out hb); have n7_ := Aside0.mk (bb_ BK272.out hb); have n8_ := Aside0.mk (bb_ BK279.out hb); have n9_ := Aside0.mk (bb_ BK289.out hb); have n10_ := Aside0.mk (below_step (pb4_ HB.out GE255.out GE272.out GE279.out GE289.out) hb); clear HO_273001; clear HO_280001; clear HO_290001; clear HO313; clear HO318; clear BK255; clear BK272; clear BK279; clear BK289; clear HB; have HO_273001 := n0_; have HO_280001 := n1_; have HO_290001 := n2_; have HO313 := n3_; have HO318 := n4_; have HO322 := n5_; have BK255 := n6_; have BK272 := n7_; have BK279 := n8_; have BK289 := n9_; have HB := n10_; clear n0_ n1_ n2_ n3_ n4_ n5_ n6_ n7_ n8_ n9_ n10_; (try clear hb); (try clear hb2); (try clear hk); (try clear hi); (try clear ho0)) | ((with_reducible refine gate_dst (N := 13) rfl ?_); refine box_event ?hg (N := 13) ?hd (cs := #[.int .i64 0, .slice none 0 0, .int .i64 0, .bool false]) (t := 27) ?hr ?_; (case hd => rfl); (case hg => rfl); (case hr => first | (go_simp; done) | (go_simp; rfl)); intro gb325 hg w113 hbox hb; have n0_ := Aside0.mk (Kd.R_below (pr_ HO_273001.out) hb); have n1_ := Aside0.mk (Kd.R_below (pr_ HO_280001.out) hb); have n2_ := Aside0.mk (Kd.R_below (pr_ HO_290001.out) hb); have n3_ := Aside0.mk (Kd.R_below (pr_ HO313.out) hb); have n4_ := Aside0.mk (Kd.R_below (pr_ HO318.out) hb); have n5_ := Aside0.mk (Kd.R_below (pr_ HO322.out) hb); have n6_ := Aside0.mk (bb_ BK255.out hb); have n7_ := Aside0.mk (bb_ BK272.out hb); have n8_ := Aside0.mk (bb_ BK279.out hb); have n9_ := Aside0.mk (bb_ BK289.out hb); have n10_ := Aside0.mk (below_step (pb4_ HB.out GE255.out GE272.out GE279.out GE289.out) hb); have n11_ := Aside0.mk (hbox); have n12_ := Aside0.mk ((by rw [hg]; exact (below_size (pb4_ HB.out GE255.out GE272.out GE279.out GE289.out)) : w.heap.size ≤ gb325)); have n13_ := Aside0.mk ((by rw [hg]; exact (below_size (pb4_ HB.out GE255.out GE272.out GE279.out GE289.out)) : w.heap.size ≤ gb325)); have n14_ := Aside0.mk ((by rw [hg]; exact Nat.ne_of_lt (blk_lt (pk_ BK255.out)) : gb255 ≠ gb325)); have n15_ := Aside0.mk ((by rw [hg]; exact Nat.ne_of_gt (blk_lt (pk_ BK255.out)) : gb325 ≠ gb255)); have n16_ := Aside0.mk ((by rw [hg]; exact Nat.ne_of_lt (blk_lt (pk_ BK272.out)) : gb272 ≠ gb325)); have n17_ := Aside0.mk ((by rw [hg]; exact Nat.ne_of_gt (blk_lt (pk_ BK272.out)) : gb325 ≠ gb272)); have n18_ := Aside0.mk ((by rw [hg]; exact Nat.ne_of_lt (blk_lt (pk_ BK279.out)) : gb279 ≠ gb325)); have n19_ := Aside0.mk ((by rw [hg]; exact Nat.ne_of_gt (blk_lt (pk_ BK279.out)) : gb325 ≠ gb279)); have n20_ := Aside0.mk ((by rw [hg]; exact Nat.ne_of_lt (blk_lt (pk_ BK289.out)) : gb289 ≠ gb325)); have n21_ := Aside0.mk ((by rw [hg]; exact Nat.ne_of_gt (blk_lt (pk_ BK289.out)) : gb325 ≠ gb289)); clear HO_273001; clear HO_280001; clear HO_290001; clear HO313; clear HO318; clear HO322; clear BK255; clear BK272; clear BK279; clear BK289; clear HB; have HO_273001 := n0_; have HO_280001 := n1_; have HO_290001 := n2_; have HO313 := n3_; have HO318 := n4_; have HO322 := n5_; have BK255 := n6_; have BK272 := n7_; have BK279 := n8_; have BK289 := n9_; have HB := n10_; have BK325 := n11_; have GW325 := n12_; have GE325 := n13_; have NB255_325 := n14_; have NB325_255 := n15_; have NB272_325 := n16_; have NB325_272 := n17_; have NB279_325 := n18_; have NB325_279 := n19_; have NB289_325 := n20_; have NB325_289 := n21_; clear n0_ n1_ n2_ n3_ n4_ n5_ n6_ n7_ n8_ n9_ n10_ n11_ n12_ n13_ n14_ n15_ n16_ n17_ n18_ n19_ n20_ n21_; clear hb hbox hg; have hnb114 := NB325_255.out; have hnc114 := NB255_325.out; have hnb115 := NB325_272.out; have hnc115 := NB272_325.out; have hnb116 := NB325_279.out; have hnc116 := NB279_325.out; have hnb117 := NB325_289.out; have hnc117 := NB289_325.out; have hcz118_0 : w113.cell? ⟨gb325, 0, none⟩ = some (.int .i64 0) := (blk_cell BK325.out 0).trans rfl; have hcz118_1 : w113.cell? ⟨gb325, 1, none⟩ = some (.slice none 0 0) := (blk_cell BK325.out 1).trans rfl; have hcz118_2 : w113.cell? ⟨gb325, 2, none⟩ = some (.int .i64 0) := (blk_cell BK325.out 2).trans rfl; have hcz118_3 : w113.cell? ⟨gb325, 3, none⟩ = some (.bool false) := (blk_cell BK325.out 3).trans rfl; have hfz118_0 := blk_frozen BK325.out 0; have hfz118_1 := blk_frozen BK325.out 1; have hfz118_2 := blk_frozen BK325.out 2; have hfz118_3 := blk_frozen BK325.out 3; obtain ⟨Ao119, co119, eo119⟩ := Kd.R_slice HO322.out; subst eo119))
  (try simp only [Act.put, List.setIfInBounds_toArray, List.set_cons_zero, List.set_cons_succ])
  have H := HS_.out
  clear HS_
  replace H := Option.bind_eq_some_iff.mp H
  obtain ⟨t326, A1200, H⟩ := H
  (try dsimp only at H)
  have A120 := Aside0.mk A1200
  clear A1200
  have HS_ := Aside0.mk H
  clear H
  have hnb121 := NB325_255.out
  have hnc121 := NB255_325.out
  have hnb122 := NB325_272.out
  have hnc122 := NB272_325.out
  have hnb123 := NB325_279.out
  have hnc123 := NB279_325.out
  have hnb124 := NB325_289.out
  have hnc124 := NB289_325.out
  obtain ⟨hcz125_0, hcz125_1, hcz125_2, hcz125_3, hfz125_0, hfz125_1, hfz125_2, hfz125_3⟩ := bc4_ BK325.out
  have hnb126 := NB272_255.out
  have hnc126 := NB255_272.out
  have hnb127 := NB272_279.out
  have hnc127 := NB279_272.out
  have hnb128 := NB272_289.out
  have hnc128 := NB289_272.out
  obtain ⟨hcz129_0, hcz129_1, hcz129_2, hcz129_3, hfz129_0, hfz129_1, hfz129_2, hfz129_3⟩ := bc4_ BK272.out
  go_upto_if 81 with (first | ((with_reducible refine gate_callee (f := 19) rfl ?_); refine goesL_ (some 80) rfl rfl Try.func19 (by kernel_rfl) rfl #[.agg #[.int .i64 t319, .slice Ao119 t320.length co119, .int .i64 t323, .bool t324], .agg #[.int .i64 t266, .slice Ao21 t267.length co21, .int .i64 t270, .bool t271]] rfl mp_ ?_; (with_reducible refine (laws_eqRollout.calls kj68 t319 _ _ t320 t323 t324 t266 _ _ t267 t270 t271 t326 _ ?side1 ?side2 ?side3 ?side4 A120.out).mono ?_); (case side1 => refine (Kd.R_reads' (e := 3) (base := w.heap.size) (ok := fun k_ => (((((True ∧ some k_ ≠ (.slice Ao21 t267.length co21 : Value).ownBlock) ∧ some k_ ≠ (.slice Ao30 t303.length co30 : Value).ownBlock) ∧ some k_ ≠ (.slice Ao44 t284.length co44 : Value).ownBlock) ∧ some k_ ≠ (.slice Ao110 t311.length co110 : Value).ownBlock) ∧ some k_ ≠ (.slice Ao111 t316.length co111 : Value).ownBlock)) (n := t320.length) (c := co119) ?_).2.2; exact (pr_ (rf4_ HO322.out BK325.out))); (case side2 => exact (Kd.R_reads' HO322.out).2.1); (case side3 => refine (Kd.R_reads' (e := 3) (base := w.heap.size) (ok := fun k_ => ((((some k_ ≠ (.slice Ao30 t303.length co30 : Value).ownBlock ∧ some k_ ≠ (.slice Ao44 t284.length co44 : Value).ownBlock) ∧ some k_ ≠ (.slice Ao110 t311.length co110 : Value).ownBlock) ∧ some k_ ≠ (.slice Ao111 t316.length co111 : Value).ownBlock) ∧ some k_ ≠ (.slice Ao119 t320.length co119 : Value).ownBlock)) (n := t267.length) (c := co21) ?_).2.2; exact (pr_ (rf4_ HO_273001.out BK325.out))); (case side4 => exact (Kd.R_reads' HO_273001.out).2.1); rintro e w130 ⟨rfl, hb⟩; refine ⟨_, rfl, ?_⟩; have n0_ := Aside0.mk (Kd.R_below (pr_ (rf4_ HO_273001.out BK325.out)) hb); have n1_ := Aside0.mk (Kd.R_below (pr_ (rf4_ HO_280001.out BK325.out)) hb); have n2_ := Aside0.mk (Kd.R_below (pr_ (rf4_ HO_290001.out BK325.out)) hb); have n3_ := Aside0.mk (Kd.R_below (pr_ (rf4_ HO313.out BK325.out)) hb); have n4_ := Aside0.mk (Kd.R_below (pr_ (rf4_ HO318.out BK325.out)) hb); have n5_ := Aside0.mk (Kd.R_below (pr_ (rf4_ HO322.out BK325.out)) hb); have n6_ := Aside0.mk (blk_below (g := gb255) (o := .cells #[.int .i64 a0_0, .slice A0_1 l0_1.length c0_1, .int .i64 a0_2, .bool a0_3] 24 (0, 0)) (pp_ BK255.out) hb); have n7_ := Aside0.mk (blk_below (g := gb272) (o := .cells #[.int .i64 t266, .slice Ao21 t267.length co21, .int .i64 t270, .bool t271] 27 (0, 0)) (pp_ BK272.out) hb); have n8_ := Aside0.mk (blk_below (g := gb279) (o := .cells #[.int .i64 t273, .slice Ao30 t303.length co30, .int .i64 t277, .bool t278] 27 (0, 0)) (pp_ BK279.out) hb); have n9_ := Aside0.mk (blk_below (g := gb289) (o := .cells #[.int .i64 t283, .slice Ao44 t284.length co44, .int .i64 t287, .bool t288] 27 (0, 0)) (pp_ BK289.out) hb); have n10_ := Aside0.mk (blk_below (g := gb325) (o := .cells #[.int .i64 t319, .slice Ao119 t320.length co119, .int .i64 t323, .bool t324] 27 (0, 0)) (pp_ BK325.out) hb); have n11_ := Aside0.mk (below_step (pb5_ HB.out GE255.out GE272.out GE279.out GE289.out GE325.out) hb); clear HO_273001; clear HO_280001; clear HO_290001; clear HO313; clear HO318; clear HO322; clear BK255; clear BK272; clear BK279; clear BK289; clear BK325; clear HB; have HO_273001 := n0_; have HO_280001 := n1_; have HO_290001 := n2_; have HO313 := n3_; have HO318 := n4_; have HO322 := n5_; have BK255 := n6_; have BK272 := n7_; have BK279 := n8_; have BK289 := n9_; have BK325 := n10_; have HB := n11_; clear n0_ n1_ n2_ n3_ n4_ n5_ n6_ n7_ n8_ n9_ n10_ n11_; (try clear hb); (try clear hb2); (try clear hk); (try clear hi)))
  (try simp only [Act.put, List.setIfInBounds_toArray, List.set_cons_zero, List.set_cons_succ])
  have H := HS_.out
  clear HS_
  by_cases c131 : t326 = true
  rotate_left
  · replace c131 := Bool.eq_false_iff.mpr c131
    subst c131
    rw [if_neg (show ¬ (false = true) by decide)] at H
    obtain rfl := Option.some.inj H
    go_wp2
    go_ret
    exact ⟨er_, pb5_ HB.out GE255.out GE272.out GE279.out GE289.out GE325.out⟩
  subst c131
  rw [if_pos rfl] at H
  replace H := Option.bind_eq_some_iff.mp H
  obtain ⟨t327, A1320, H⟩ := H
  (try dsimp only at H)
  have A132 := Aside0.mk A1320
  clear A1320
  have HS_ := Aside0.mk H
  clear H
  have hnb133 := NB289_255.out
  have hnc133 := NB255_289.out
  have hnb134 := NB289_272.out
  have hnc134 := NB272_289.out
  have hnb135 := NB289_279.out
  have hnc135 := NB279_289.out
  have hnb136 := NB289_325.out
  have hnc136 := NB325_289.out
  obtain ⟨hcz137_0, hcz137_1, hcz137_2, hcz137_3, hfz137_0, hfz137_1, hfz137_2, hfz137_3⟩ := bc4_ BK289.out
  go_upto_if 86 with (first | ((with_reducible refine gate_callee (f := 29) rfl ?_); refine goesL_ (some 84) rfl rfl Try.func29 (by kernel_rfl) rfl #[.agg #[.int .i64 t283, .slice Ao44 t308.length co44, .int .i64 t287, .bool t288], .int .i64 1] rfl (by (try simp only [List.map_toArray, List.map_cons, List.map_nil]); first | done | (rw [show t308.length = t284.length from (Kd.R_reads' HO_290001.out).1.symm] <;> rfl) | rfl | (simp only [List.length_drop, List.length_take]; rfl)) ?_; (with_reducible refine (laws_heldRollout.calls kj68 t283 _ _ t308 t287 t288 1 t327 _ ?side1 ?side2 A132.out).mono ?_); (case side1 => exact pc_ ((Kd.R_reads' HO_290001.out).2.2)); (case side2 => rw [show t308.length = t284.length from (Kd.R_reads' HO_290001.out).1.symm]; exact (Kd.R_reads' HO_290001.out).2.1); rintro e w138 ⟨rfl, hb⟩; refine ⟨_, rfl, ?_⟩; have n0_ := Aside0.mk (Kd.R_below (pr_ HO_273001.out) hb); have n1_ := Aside0.mk (Kd.R_below (pr_ HO_280001.out) hb); have n2_ := Aside0.mk (Kd.R_below (pr_ HO_290001.out) hb); have n3_ := Aside0.mk (Kd.R_below (pr_ HO313.out) hb); have n4_ := Aside0.mk (Kd.R_below (pr_ HO318.out) hb); have n5_ := Aside0.mk (Kd.R_below (pr_ HO322.out) hb); have n6_ := Aside0.mk (bb_ BK255.out hb); have n7_ := Aside0.mk (bb_ BK272.out hb); have n8_ := Aside0.mk (bb_ BK279.out hb); have n9_ := Aside0.mk (bb_ BK289.out hb); have n10_ := Aside0.mk (bb_ BK325.out hb); have n11_ := Aside0.mk (below_step (pb5_ HB.out GE255.out GE272.out GE279.out GE289.out GE325.out) hb); clear HO_273001; clear HO_280001; clear HO_290001; clear HO313; clear HO318; clear HO322; clear BK255; clear BK272; clear BK279; clear BK289; clear BK325; clear HB; have HO_273001 := n0_; have HO_280001 := n1_; have HO_290001 := n2_; have HO313 := n3_; have HO318 := n4_; have HO322 := n5_; have BK255 := n6_; have BK272 := n7_; have BK279 := n8_; have BK289 := n9_; have BK325 := n10_; have HB := n11_; clear n0_ n1_ n2_ n3_ n4_ n5_ n6_ n7_ n8_ n9_ n10_ n11_; (try clear hb); (try clear hb2); (try clear hk); (try clear hi)))
  (try simp only [Act.put, List.setIfInBounds_toArray, List.set_cons_zero, List.set_cons_succ])
  have H := HS_.out
  clear HS_
  by_cases c139 : t327 < 0
  · rw [if_pos c139] at H
    have c139b0 : decide (t327 < 0) = true := decide_eq_true c139
    clear c139
    (first | rw [c139b0] | (simp only [i64_w, i32_w]; rw [c139b0]) | skip)
    obtain rfl := Option.some.inj H
    go_wp2
    go_ret
    exact ⟨er_, pb5_ HB.out GE255.out GE272.out GE279.out GE289.out GE325.out⟩
  rw [if_neg c139] at H
  have c139b0 : decide (t327 < 0) = false := decide_eq_false c139
  clear c139
  (first | rw [c139b0] | (simp only [i64_w, i32_w]; rw [c139b0]) | skip)
  by_cases c140 : t327 = t307
  rotate_left
  · rw [if_neg c140] at H
    have c140b0 : (t327 == t307) = false := beq_eq_false_iff_ne.mpr c140
    have c140b1 : (t327 != t307) = true := bne_iff_ne.mpr c140
    obtain rfl := Option.some.inj H
    go_wp2
    go_ret
    exact ⟨er_, pb5_ HB.out GE255.out GE272.out GE279.out GE289.out GE325.out⟩
  rw [if_pos c140] at H
  have c140b0 : (t327 == t307) = true := beq_iff_eq.mpr c140
  have c140b1 : (t327 != t307) = false := bne_eq_false_iff_eq.mpr c140
  clear c140
  obtain rfl := Option.some.inj H
  go_wp2
  go_ret
  exact ⟨er_, pb5_ HB.out GE255.out GE272.out GE279.out GE289.out GE325.out⟩

/-- THE ONE PURE STATEMENT of laws_FnExactStageAfter: yours. -/
def laws_FnExactStageAfter.Pure : Prop := ∀ (x0 : S24) (x1 : List Int), Q24 x0 → (x1.length * 8 ≤ 140737488351232 ∧ ∀ y ∈ x1, (Lit.int .i64 y).wf = true) → ∃ k, laws_FnExactStageAfter.f k x0.f0 x0.f1 x0.f2 x0.f3 x1 = some true

end Go.Proofs.Ytlcmkgbabffmeaa.Print
