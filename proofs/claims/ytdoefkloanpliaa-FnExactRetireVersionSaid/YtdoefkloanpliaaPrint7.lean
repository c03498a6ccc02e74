-- Written by a program of this session (printx.py) out of the translation; Lean checks it.
import Derived.Test.YtdoefkloanpliaaPrint0
import Derived.Test.YtdoefkloanpliaaPrint1
import Derived.Test.YtdoefkloanpliaaPrint4
import Derived.Test.YtdoefkloanpliaaPrint5
namespace Go.Proofs.Ytdoefkloanpliaa.Print
open Go.RowKit Go.Proofs.YtdoefkloanpliaaW.PrintWords Go.Proofs.YtdoefkloanpliaaW.PrintLast Go.Proofs.YtdoefkloanpliaaW.PrintMore Go.Proofs.Ytdoefkloanpliaa.Short
attribute [local go_sem] max2_int min2_int max_two min_two max_three min_three max_four min_four   -- for this text's walks alone
set_option linter.unusedVariables false
set_option linter.unusedSimpArgs false

/-! ### laws_FnExactRetireVersion: function 7 -/
mutual
def laws_FnExactRetireVersion.j0 : Nat → List Int → List (List Int) → Int → Int → List Int → Bool → List Int → List (List Int) → List Int → Bool → Bool → Option (Bool)
  | 0, _, _, _, _, _, _, _, _, _, _, _ => none
  | k + 1, x0, x1, x2, x3, x10, x11, x12, x13, x14, x15, x59 => if x59 = true then (some false) else ((laws_toIntS.f k x0).bind fun t315 => ((laws_eqIntS.f k x12 t315).bind fun t318 => (if t318 = true then ((laws_toIntSS.f k x1).bind fun t319 => ((laws_eqIntSS.f k x13 t319).bind fun t322 => (if t322 = true then ((laws_markIntS.f k x12 1).bind fun bt323 => ((laws_markIntSS.f k x13 bt323.1).bind fun t325 => (if t325 < 0 then (laws_FnExactRetireVersion.j1 k x0 x1 x2 x3 x10 x11 x14 true) else ((laws_eqIntS.f k x14 x10).bind fun t326 => (if t326 = true then (laws_FnExactRetireVersion.j1 k x0 x1 x2 x3 x10 x11 x14 (x15 != x11)) else (laws_FnExactRetireVersion.j1 k x0 x1 x2 x3 x10 x11 x14 true)))))) else (some false)))) else (some false))))
def laws_FnExactRetireVersion.j1 : Nat → List Int → List (List Int) → Int → Int → List Int → Bool → List Int → Bool → Option (Bool)
  | 0, _, _, _, _, _, _, _, _ => none
  | k + 1, x0, x1, x2, x3, x10, x11, x14, x88 => if x88 = true then (some false) else ((laws_markIntS.f k x14 1).bind fun bt327 => ((laws_heldIntS.f k bt327.2 1).bind fun t329 => (if t329 < 0 then (some false) else (if t329 = bt327.1 then ((laws_toIntS.f k x0).bind fun t330 => ((laws_toIntSS.f k x1).bind fun t333 => ((impl_RetireVersion.f k t330 t333 x2 x3).bind fun bt336 => ((laws_eqIntS.f k bt336.1 x10).bind fun t340 => (if t340 = true then (laws_FnExactRetireVersion.j2 k bt327.2 bt327.1 (bt336.2 != x11)) else (laws_FnExactRetireVersion.j2 k bt327.2 bt327.1 true)))))) else (some false)))))
def laws_FnExactRetireVersion.j2 : Nat → List Int → Int → Bool → Option (Bool)
  | 0, _, _, _ => none
  | k + 1, x14, x17, x118 => if x118 = true then (some false) else ((laws_heldIntS.f k x14 1).bind fun t341 => (if t341 < 0 then (some false) else (if t341 = x17 then (some true) else (some false))))
end
def laws_FnExactRetireVersion.f (k : Nat) (l0 : List Int) (l1 : List (List Int)) (a2 : Int) (a3 : Int) : Option (Bool) := if (l0.length : Int) > 1048576 then (some true) else ((laws_szIntSS.f k l1 1048576).bind fun t293 => (if t293 < 0 then (some true) else ((laws_toIntS.f k l0).bind fun t294 => ((laws_toIntSS.f k l1).bind fun t297 => ((spec_RetireVersion.f k t294 t297 a2 a3).bind fun bt300 => ((laws_toIntS.f k l0).bind fun t304 => ((laws_toIntSS.f k l1).bind fun t307 => ((impl_RetireVersion.f k t304 t307 a2 a3).bind fun bt310 => ((laws_eqIntS.f k bt310.1 bt300.1).bind fun t314 => (if t314 = true then (laws_FnExactRetireVersion.j0 k l0 l1 a2 a3 bt300.1 bt300.2 t304 t307 bt310.1 bt310.2 (bt310.2 != bt300.2)) else (laws_FnExactRetireVersion.j0 k l0 l1 a2 a3 bt300.1 bt300.2 t304 t307 bt310.1 bt310.2 true)))))))))))
theorem laws_FnExactRetireVersion.mono_l : ∀ k, (∀ y0 y1 y2 y3 y4 y5 y6 y7 y8 y9 y10, LeO (laws_FnExactRetireVersion.j0 k y0 y1 y2 y3 y4 y5 y6 y7 y8 y9 y10) (laws_FnExactRetireVersion.j0 (k + 1) y0 y1 y2 y3 y4 y5 y6 y7 y8 y9 y10)) ∧ (∀ y0 y1 y2 y3 y4 y5 y6 y7, LeO (laws_FnExactRetireVersion.j1 k y0 y1 y2 y3 y4 y5 y6 y7) (laws_FnExactRetireVersion.j1 (k + 1) y0 y1 y2 y3 y4 y5 y6 y7)) ∧ (∀ y0 y1 y2, LeO (laws_FnExactRetireVersion.j2 k y0 y1 y2) (laws_FnExactRetireVersion.j2 (k + 1) y0 y1 y2))
  | 0 => ⟨fun _ _ _ _ _ _ _ _ _ _ _ r h => by simp [laws_FnExactRetireVersion.j0] at h, fun _ _ _ _ _ _ _ _ r h => by simp [laws_FnExactRetireVersion.j1] at h, fun _ _ _ r h => by simp [laws_FnExactRetireVersion.j2] at h⟩
  | k + 1 => by
    obtain ⟨ih0, ih1, ih2⟩ := laws_FnExactRetireVersion.mono_l k
    refine ⟨?_, ?_, ?_⟩
    · intro y0 y1 y2 y3 y4 y5 y6 y7 y8 y9 y10
      unfold laws_FnExactRetireVersion.j0
      repeat' first
      | (with_reducible exact ih0 _ _ _ _ _ _ _ _ _ _ _)
      | (with_reducible exact ih1 _ _ _ _ _ _ _ _)
      | (with_reducible exact ih2 _ _ _)
      | (with_reducible exact impl_RetireVersion.mono _ _ _ _ _)
      | (with_reducible exact laws_eqIntS.mono _ _ _)
      | (with_reducible exact laws_eqIntSS.mono _ _ _)
      | (with_reducible exact laws_heldIntS.mono _ _ _)
      | (with_reducible exact laws_markIntS.mono _ _ _)
      | (with_reducible exact laws_markIntSS.mono _ _ _)
      | (with_reducible exact laws_szIntSS.mono _ _ _)
      | (with_reducible exact laws_toIntS.mono _ _)
      | (with_reducible exact laws_toIntSS.mono _ _)
      | (with_reducible exact spec_RetireVersion.mono _ _ _ _ _)
      | (with_reducible exact LeO.refl _)
      | (with_reducible exact LeO.none _)
      | (with_reducible refine LeO.ite ?_ ?_)
      | (with_reducible refine LeO.bind ?_ (fun _ => ?_))
      | exact ih0 _ _ _ _ _ _ _ _ _ _ _
      | exact ih1 _ _ _ _ _ _ _ _
      | exact ih2 _ _ _
      | exact impl_RetireVersion.mono _ _ _ _ _
      | exact laws_eqIntS.mono _ _ _
      | exact laws_eqIntSS.mono _ _ _
      | exact laws_heldIntS.mono _ _ _
      | exact laws_markIntS.mono _ _ _
      | exact laws_markIntSS.mono _ _ _
      | exact laws_szIntSS.mono _ _ _
      | exact laws_toIntS.mono _ _
      | exact laws_toIntSS.mono _ _
      | exact spec_RetireVersion.mono _ _ _ _ _
      | exact LeO.none _
      | refine LeO.ite ?_ ?_
      | refine LeO.bind ?_ (fun _ => ?_)
    · intro y0 y1 y2 y3 y4 y5 y6 y7
      unfold laws_FnExactRetireVersion.j1
      repeat' first
      | (with_reducible exact ih0 _ _ _ _ _ _ _ _ _ _ _)
      | (with_reducible exact ih1 _ _ _ _ _ _ _ _)
      | (with_reducible exact ih2 _ _ _)
      | (with_reducible exact impl_RetireVersion.mono _ _ _ _ _)
      | (with_reducible exact laws_eqIntS.mono _ _ _)
      | (with_reducible exact laws_eqIntSS.mono _ _ _)
      | (with_reducible exact laws_heldIntS.mono _ _ _)
      | (with_reducible exact laws_markIntS.mono _ _ _)
      | (with_reducible exact laws_markIntSS.mono _ _ _)
      | (with_reducible exact laws_szIntSS.mono _ _ _)
      | (with_reducible exact laws_toIntS.mono _ _)
      | (with_reducible exact laws_toIntSS.mono _ _)
      | (with_reducible exact spec_RetireVersion.mono _ _ _ _ _)
      | (with_reducible exact LeO.refl _)
      | (with_reducible exact LeO.none _)
      | (with_reducible refine LeO.ite ?_ ?_)
      | (with_reducible refine LeO.bind ?_ (fun _ => ?_))
      | exact ih0 _ _ _ _ _ _ _ _ _ _ _
      | exact ih1 _ _ _ _ _ _ _ _
      | exact ih2 _ _ _
      | exact impl_RetireVersion.mono _ _ _ _ _
      | exact laws_eqIntS.mono _ _ _
      | exact laws_eqIntSS.mono _ _ _
      | exact laws_heldIntS.mono _ _ _
      | exact laws_markIntS.mono _ _ _
      | exact laws_markIntSS.mono _ _ _
      | exact laws_szIntSS.mono _ _ _
      | exact laws_toIntS.mono _ _
      | exact laws_toIntSS.mono _ _
      | exact spec_RetireVersion.mono _ _ _ _ _
      | exact LeO.none _
      | refine LeO.ite ?_ ?_
      | refine LeO.bind ?_ (fun _ => ?_)
    · intro y0 y1 y2
      unfold laws_FnExactRetireVersion.j2
      repeat' first
      | (with_reducible exact ih0 _ _ _ _ _ _ _ _ _ _ _)
      | (with_reducible exact ih1 _ _ _ _ _ _ _ _)
      | (with_reducible exact ih2 _ _ _)
      | (with_reducible exact impl_RetireVersion.mono _ _ _ _ _)
      | (with_reducible exact laws_eqIntS.mono _ _ _)
      | (with_reducible exact laws_eqIntSS.mono _ _ _)
      | (with_reducible exact laws_heldIntS.mono _ _ _)
      | (with_reducible exact laws_markIntS.mono _ _ _)
      | (with_reducible exact laws_markIntSS.mono _ _ _)
      | (with_reducible exact laws_szIntSS.mono _ _ _)
      | (with_reducible exact laws_toIntS.mono _ _)
      | (with_reducible exact laws_toIntSS.mono _ _)
      | (with_reducible exact spec_RetireVersion.mono _ _ _ _ _)
      | (with_reducible exact LeO.refl _)
      | (with_reducible exact LeO.none _)
      | (with_reducible refine LeO.ite ?_ ?_)
      | (with_reducible refine LeO.bind ?_ (fun _ => ?_))
      | exact ih0 _ _ _ _ _ _ _ _ _ _ _
      | exact ih1 _ _ _ _ _ _ _ _
      | exact ih2 _ _ _
      | exact impl_RetireVersion.mono _ _ _ _ _
      | exact laws_eqIntS.mono _ _ _
      | exact laws_eqIntSS.mono _ _ _
      | exact laws_heldIntS.mono _ _ _
      | exact laws_markIntS.mono _ _ _
      | exact laws_markIntSS.mono _ _ _
      | exact laws_szIntSS.mono _ _ _
      | exact laws_toIntS.mono _ _
      | exact laws_toIntSS.mono _ _
      | exact spec_RetireVersion.mono _ _ _ _ _
      | exact LeO.none _
      | refine LeO.ite ?_ ?_
      | refine LeO.bind ?_ (fun _ => ?_)
theorem laws_FnExactRetireVersion.mono : ∀ a0 a1 a2 a3 k, LeO (laws_FnExactRetireVersion.f k a0 a1 a2 a3) (laws_FnExactRetireVersion.f (k + 1) a0 a1 a2 a3) := by
  intro a0 a1 a2 a3 k
  obtain ⟨ih0, ih1, ih2⟩ := laws_FnExactRetireVersion.mono_l k
  unfold laws_FnExactRetireVersion.f
  repeat' first
      | (with_reducible exact ih0 _ _ _ _ _ _ _ _ _ _ _)
      | (with_reducible exact ih1 _ _ _ _ _ _ _ _)
      | (with_reducible exact ih2 _ _ _)
      | (with_reducible exact impl_RetireVersion.mono _ _ _ _ _)
      | (with_reducible exact laws_eqIntS.mono _ _ _)
      | (with_reducible exact laws_eqIntSS.mono _ _ _)
      | (with_reducible exact laws_heldIntS.mono _ _ _)
      | (with_reducible exact laws_markIntS.mono _ _ _)
      | (with_reducible exact laws_markIntSS.mono _ _ _)
      | (with_reducible exact laws_szIntSS.mono _ _ _)
      | (with_reducible exact laws_toIntS.mono _ _)
      | (with_reducible exact laws_toIntSS.mono _ _)
      | (with_reducible exact spec_RetireVersion.mono _ _ _ _ _)
      | (with_reducible exact LeO.refl _)
      | (with_reducible exact LeO.none _)
      | (with_reducible refine LeO.ite ?_ ?_)
      | (with_reducible refine LeO.bind ?_ (fun _ => ?_))
      | exact ih0 _ _ _ _ _ _ _ _ _ _ _
      | exact ih1 _ _ _ _ _ _ _ _
      | exact ih2 _ _ _
      | exact impl_RetireVersion.mono _ _ _ _ _
      | exact laws_eqIntS.mono _ _ _
      | exact laws_eqIntSS.mono _ _ _
      | exact laws_heldIntS.mono _ _ _
      | exact laws_markIntS.mono _ _ _
      | exact laws_markIntSS.mono _ _ _
      | exact laws_szIntSS.mono _ _ _
      | exact laws_toIntS.mono _ _
      | exact laws_toIntSS.mono _ _
      | exact spec_RetireVersion.mono _ _ _ _ _
      | exact LeO.none _
      | refine LeO.ite ?_ ?_
      | refine LeO.bind ?_ (fun _ => ?_)
set_option maxHeartbeats 8000000 in
set_option maxRecDepth 100000 in
theorem laws_FnExactRetireVersion.calls (k : Nat) (A0 : Option Addr) (c0 : Nat) (l0 : List Int) (A1 : Option Addr) (c1 : Nat) (l1 : List (List Int)) (a2 : Int) (a3 : Int) (r : Bool) (w : World) (hr0 : Kd.C (Kd.int .i64) w A0 l0.length l0) (hc0 : l0.length ≤ c0) (hr1 : Kd.C (Kd.slice 3 (Kd.int .i64)) w A1 l1.length l1) (hc1 : l1.length ≤ c1) (h : laws_FnExactRetireVersion.f k l0 l1 a2 a3 = some r) :
    Calls Try.prog 7 #[.slice A0 l0.length c0, .slice A1 l1.length c1, .int .i64 a2, .int .i64 a3] w fun e w' => e = .returned (.bool r) ∧ Below w.heap.size w w' := by
  have HR0 := Aside0.mk hr0
  have HC0 := Aside0.mk hc0
  clear hr0 hc0
  have HR1 := Aside0.mk hr1
  have HC1 := Aside0.mk hc1
  clear hr1 hc1
  have HB := Aside0.mk (Below.refl w.heap.size w)
  have H : (if (l0.length : Int) > 1048576 then (some true) else ((laws_szIntSS.f k l1 1048576).bind fun t293 => (if t293 < 0 then (some true) else ((laws_toIntS.f k l0).bind fun t294 => ((laws_toIntSS.f k l1).bind fun t297 => ((spec_RetireVersion.f k t294 t297 a2 a3).bind fun bt300 => ((laws_toIntS.f k l0).bind fun t304 => ((laws_toIntSS.f k l1).bind fun t307 => ((impl_RetireVersion.f k t304 t307 a2 a3).bind fun bt310 => ((laws_eqIntS.f k bt310.1 bt300.1).bind fun t314 => (if t314 = true then (laws_FnExactRetireVersion.j0 k l0 l1 a2 a3 bt300.1 bt300.2 t304 t307 bt310.1 bt310.2 (bt310.2 != bt300.2)) else (laws_FnExactRetireVersion.j0 k l0 l1 a2 a3 bt300.1 bt300.2 t304 t307 bt310.1 bt310.2 true)))))))))))) = some r := h
  clear h
  by_cases c5 : (l0.length : Int) > 1048576
  · rw [if_pos c5] at H
    have c5b0 : decide (1048576 < (l0.length : Int)) = true := decide_eq_true c5
    have c5b1 : decide (1048576 < l0.length) = true := decide_eq_true (by omega)
    clear c5
    obtain rfl := Option.some.inj H
    go_enter Try.func7, Try.ntmps7
    go_wp2
    go_ret
    exact ⟨er_, pb_ HB.out⟩
  rw [if_neg c5] at H
  have c5b0 : decide (1048576 < (l0.length : Int)) = false := decide_eq_false c5
  have c5b1 : decide (1048576 < l0.length) = false := decide_eq_false (by omega)
  clear c5
  replace H := Option.bind_eq_some_iff.mp H
  obtain ⟨t293, A60, H⟩ := H
  (try dsimp only at H)
  have A6 := Aside0.mk A60
  clear A60
  have HS_ := Aside0.mk H
  clear H
  go_enter Try.func7, Try.ntmps7
  go_upto_if 28 with (first | ((with_reducible refine gate_callee (f := 15) rfl ?_); refine goesL_ (some 26) rfl rfl Try.func15 (by kernel_rfl) rfl #[.slice A1 l1.length c1, .int .i64 1048576] rfl mp_ ?_; (with_reducible refine (laws_szIntSS.calls k _ _ l1 1048576 t293 _ ?side1 ?side2 A6.out).mono ?_); (case side1 => exact pc_ HR1.out); (case side2 => exact HC1.out); rintro e w' ⟨rfl, ⟨nd, rfl⟩⟩; refine ⟨_, rfl, ?_⟩))
  (try simp only [Act.put, List.setIfInBounds_toArray, List.set_cons_zero, List.set_cons_succ])
  have H := HS_.out
  clear HS_
  by_cases c7 : t293 < 0
  · rw [if_pos c7] at H
    have c7b0 : decide (t293 < 0) = true := decide_eq_true c7
    clear c7
    (first | rw [c7b0] | (simp only [i64_w, i32_w]; rw [c7b0]) | skip)
    obtain rfl := Option.some.inj H
    go_wp2
    go_ret
    exact ⟨er_, pb_ HB.out⟩
  rw [if_neg c7] at H
  have c7b0 : decide (t293 < 0) = false := decide_eq_false c7
  clear c7
  (first | rw [c7b0] | (simp only [i64_w, i32_w]; rw [c7b0]) | skip)
  replace H := Option.bind_eq_some_iff.mp H
  obtain ⟨t294, A80, H⟩ := H
  (try dsimp only at H)
  have A8 := Aside0.mk A80
  clear A80
  replace H := Option.bind_eq_some_iff.mp H
  obtain ⟨t297, A90, H⟩ := H
  (try dsimp only at H)
  have A9 := Aside0.mk A90
  clear A90
  replace H := Option.bind_eq_some_iff.mp H
  obtain ⟨⟨t300, t301⟩, A100, H⟩ := H
  (try dsimp only at H)
  have A10 := Aside0.mk A100
  clear A100
  replace H := Option.bind_eq_some_iff.mp H
  obtain ⟨t304, A110, H⟩ := H
  (try dsimp only at H)
  have A11 := Aside0.mk A110
  clear A110
  replace H := Option.bind_eq_some_iff.mp H
  obtain ⟨t307, A120, H⟩ := H
  (try dsimp only at H)
  have A12 := Aside0.mk A120
  clear A120
  replace H := Option.bind_eq_some_iff.mp H
  obtain ⟨⟨t310, t311⟩, A130, H⟩ := H
  (try dsimp only at H)
  have A13 := Aside0.mk A130
  clear A130
  have HC14 := Aside0.mk H
  clear H
  go_upto_region 11 with (first | ((with_reducible refine gate_callee (f := 17) rfl ?_); refine goesL_ (some 31) rfl rfl Try.func17 (by kernel_rfl) rfl #[.slice A0 l0.length c0] rfl mp_ ?_; (with_reducible refine (laws_toIntS.calls k _ _ l0 t294 _ ?side1 ?side2 A8.out).mono ?_); (case side1 => exact pc_ (Kd.C_below HR0.out HB.out)); (case side2 => exact HC0.out); rintro e w15 ⟨v295, rfl, ho0, hb⟩; refine ⟨_, rfl, ?_⟩; have n0_ := Aside0.mk (Kd.R_lower ho0 (below_size (pb_ HB.out))); have n1_ := Aside0.mk (below_step (pb_ HB.out) hb); clear HB; have HO296 := n0_; have HB := n1_; clear n0_ n1_; (try clear hb); (try clear hb2); (try clear hk); (try clear hi); (try clear ho0)) | ((with_reducible refine gate_callee (f := 18) rfl ?_); refine goesL_ (some 33) rfl rfl Try.func18 (by kernel_rfl) rfl #[.slice A1 l1.length c1] rfl mp_ ?_; (with_reducible refine (laws_toIntSS.calls k _ _ l1 t297 _ ?side1 ?side2 A9.out).mono ?_); (case side1 => exact pc_ (Kd.C_below HR1.out HB.out)); (case side2 => exact HC1.out); rintro e w16 ⟨v298, rfl, ho0, hb⟩; refine ⟨_, rfl, ?_⟩; have n0_ := Aside0.mk (Kd.R_below (pr_ HO296.out) hb); have n1_ := Aside0.mk (Kd.S_lower (Kd.S_new' ho0 (Kd.R_lt (pr_ HO296.out))) (below_size (pb_ HB.out))); have n2_ := Aside0.mk (below_step (pb_ HB.out) hb); clear HO296; clear HB; have HO296 := n0_; have HO299 := n1_; have HB := n2_; clear n0_ n1_ n2_; (try clear hb); (try clear hb2); (try clear hk); (try clear hi); (try clear ho0); obtain ⟨Ao17, co17, eo17⟩ := Kd.R_slice HO296.out; subst eo17; obtain ⟨Ao18, co18, eo18⟩ := Kd.S_slice HO299.out; subst eo18) | ((with_reducible refine gate_callee (f := 31) rfl ?_); refine goesL_ (some 36) rfl rfl Try.func31 (by kernel_rfl) rfl #[.slice Ao17 t294.length co17, .slice Ao18 t297.length co18, .int .i64 a2, .int .i64 a3] rfl mp_ ?_; (with_reducible refine (spec_RetireVersion.calls k _ _ t294 _ _ t297 a2 a3 t300 t301 _ ?side1 ?side2 ?side3 ?side4 A10.out).mono ?_); (case side1 => exact pc_ ((Kd.R_reads' HO296.out).2.2)); (case side2 => exact (Kd.R_reads' HO296.out).2.1); (case side3 => exact pc_ ((Kd.S_reads' HO299.out).2.2)); (case side4 => exact (Kd.S_reads' HO299.out).2.1); rintro e w19 ⟨v302, rfl, ho0, hb⟩; refine ⟨_, rfl, ?_⟩; have n0_ := Aside0.mk (Kd.R_elder' (pr_ HO296.out) (Kd.R_base ho0) hb); have n1_ := Aside0.mk (Kd.S_elder' (ps_ HO299.out) (Kd.R_base ho0) hb); have n2_ := Aside0.mk (Kd.R_lower (Kd.R_new' ho0 (Kd.R_lt (pr_ HO296.out))) (below_size (pb_ HB.out))); have n3_ := Aside0.mk (below_step (pb_ HB.out) hb); clear HO296; clear HO299; clear HB; have HO296 := n0_; have HO299 := n1_; have HO303 := n2_; have HB := n3_; clear n0_ n1_ n2_ n3_; (try clear hb); (try clear hb2); (try clear hk); (try clear hi); (try clear ho0)) | ((with_reducible refine gate_callee (f := 17) rfl ?_); refine goesL_ (some 40) rfl rfl Try.func17 (by kernel_rfl) rfl #[.slice A0 l0.length c0] rfl mp_ ?_; (with_reducible refine (laws_toIntS.calls k _ _ l0 t304 _ ?side1 ?side2 A11.out).mono ?_); (case side1 => exact pc_ (Kd.C_below HR0.out HB.out)); (case side2 => exact HC0.out); rintro e w20 ⟨v305, rfl, ho0, hb⟩; refine ⟨_, rfl, ?_⟩; have n0_ := Aside0.mk (Kd.R_elder' (pr_ HO296.out) (Kd.R_base ho0) hb); have n1_ := Aside0.mk (Kd.S_elder' (ps_ HO299.out) (Kd.R_base ho0) hb); have n2_ := Aside0.mk (Kd.R_elder' (pr_ HO303.out) (Kd.R_base ho0) hb); have n3_ := Aside0.mk (Kd.R_lower (Kd.R_new' (Kd.R_new' ho0 (Kd.R_lt (pr_ HO296.out))) (Kd.R_lt (pr_ HO303.out))) (below_size (pb_ HB.out))); have n4_ := Aside0.mk (below_step (pb_ HB.out) hb); clear HO296; clear HO299; clear HO303; clear HB; have HO296 := n0_; have HO299 := n1_; have HO303 := n2_; have HO306 := n3_; have HB := n4_; clear n0_ n1_ n2_ n3_ n4_; (try clear hb); (try clear hb2); (try clear hk); (try clear hi); (try clear ho0)) | ((with_reducible refine gate_callee (f := 18) rfl ?_); refine goesL_ (some 42) rfl rfl Try.func18 (by kernel_rfl) rfl #[.slice A1 l1.length c1] rfl mp_ ?_; (with_reducible refine (laws_toIntSS.calls k _ _ l1 t307 _ ?side1 ?side2 A12.out).mono ?_); (case side1 => exact pc_ (Kd.C_below HR1.out HB.out)); (case side2 => exact HC1.out); rintro e w21 ⟨v308, rfl, ho0, hb⟩; refine ⟨_, rfl, ?_⟩; have n0_ := Aside0.mk (Kd.R_below (pr_ HO296.out) hb); have n1_ := Aside0.mk (Kd.S_elder' (ps_ HO299.out) (Kd.S_base ho0) hb); have n2_ := Aside0.mk (Kd.R_below (pr_ HO303.out) hb); have n3_ := Aside0.mk (Kd.R_below (pr_ HO306.out) hb); have n4_ := Aside0.mk (Kd.S_lower (Kd.S_new' (Kd.S_new' (Kd.S_new' (Kd.S_new' ho0 (Kd.R_lt (pr_ HO296.out))) (Kd.S_lt (ps_ HO299.out))) (Kd.R_lt (pr_ HO303.out))) (Kd.R_lt (pr_ HO306.out))) (below_size (pb_ HB.out))); have n5_ := Aside0.mk (below_step (pb_ HB.out) hb); clear HO296; clear HO299; clear HO303; clear HO306; clear HB; have HO296 := n0_; have HO299 := n1_; have HO303 := n2_; have HO306 := n3_; have HO309 := n4_; have HB := n5_; clear n0_ n1_ n2_ n3_ n4_ n5_; (try clear hb); (try clear hb2); (try clear hk); (try clear hi); (try clear ho0); obtain ⟨Ao22, co22, eo22⟩ := Kd.R_slice HO306.out; subst eo22; obtain ⟨Ao23, co23, eo23⟩ := Kd.S_slice HO309.out; subst eo23) | ((with_reducible refine gate_callee (f := 32) rfl ?_); refine goesL_ (some 48) rfl rfl Try.func32 (by kernel_rfl) rfl #[.slice Ao22 t304.length co22, .slice Ao23 t307.length co23, .int .i64 a2, .int .i64 a3] rfl mp_ ?_; (with_reducible refine (impl_RetireVersion.calls k _ _ t304 _ _ t307 a2 a3 t310 t311 _ ?side1 ?side2 ?side3 ?side4 A13.out).mono ?_); (case side1 => exact pc_ ((Kd.R_reads' HO306.out).2.2)); (case side2 => exact (Kd.R_reads' HO306.out).2.1); (case side3 => exact pc_ ((Kd.S_reads' HO309.out).2.2)); (case side4 => exact (Kd.S_reads' HO309.out).2.1); rintro e w24 ⟨v312, rfl, ho0, hb⟩; refine ⟨_, rfl, ?_⟩; have n0_ := Aside0.mk (Kd.R_elder' (pr_ HO296.out) (Kd.R_base ho0) hb); have n1_ := Aside0.mk (Kd.S_elder' (ps_ HO299.out) (Kd.R_base ho0) hb); have n2_ := Aside0.mk (Kd.R_elder' (pr_ HO303.out) (Kd.R_base ho0) hb); have n3_ := Aside0.mk (Kd.R_elder' (pr_ HO306.out) (Kd.R_base ho0) hb); have n4_ := Aside0.mk (Kd.S_elder' (ps_ HO309.out) (Kd.R_base ho0) hb); have n5_ := Aside0.mk (Kd.R_lower (Kd.R_new' (Kd.R_new' (Kd.R_new' ho0 (Kd.R_lt (pr_ HO296.out))) (Kd.R_lt (pr_ HO303.out))) (Kd.R_lt (pr_ HO306.out))) (below_size (pb_ HB.out))); have n6_ := Aside0.mk (below_step (pb_ HB.out) hb); clear HO296; clear HO299; clear HO303; clear HO306; clear HO309; clear HB; have HO296 := n0_; have HO299 := n1_; have HO303 := n2_; have HO306 := n3_; have HO309 := n4_; have HO313 := n5_; have HB := n6_; clear n0_ n1_ n2_ n3_ n4_ n5_ n6_; (try clear hb); (try clear hb2); (try clear hk); (try clear hi); (try clear ho0)))
  (try simp only [Act.put, List.setIfInBounds_toArray, List.set_cons_zero, List.set_cons_succ])
  go_cut [59] (fun v59 wc => ∃ (kq : Nat) (x59_13 : Bool), v59 = .bool x59_13 ∧ Aside0 (laws_FnExactRetireVersion.j0 kq l0 l1 a2 a3 t300 t301 t304 t307 t310 t311 x59_13 = some r) ∧ Aside0 (kq ≤ k) ∧ Aside0 (Kd.R (Kd.int .i64) 3 wc w.heap.size (fun k_ => some k_ ≠ ((.slice Ao22 t304.length co22) : Value).ownBlock ∧ some k_ ≠ (v312 : Value).ownBlock) v302 t300) ∧ Aside0 (Kd.R (Kd.int .i64) 3 wc w.heap.size (fun k_ => some k_ ≠ (v302 : Value).ownBlock ∧ some k_ ≠ (v312 : Value).ownBlock) (.slice Ao22 t304.length co22) t304) ∧ Aside0 (Kd.S (Kd.slice 3 (Kd.int .i64)) 22 wc w.heap.size (fun k_ => some k_ ≠ (v302 : Value).ownBlock ∧ some k_ ≠ ((.slice Ao22 t304.length co22) : Value).ownBlock ∧ some k_ ≠ (v312 : Value).ownBlock) (.slice Ao23 t307.length co23) t307) ∧ Aside0 (Kd.R (Kd.int .i64) 3 wc w.heap.size (fun k_ => some k_ ≠ (v302 : Value).ownBlock ∧ some k_ ≠ ((.slice Ao22 t304.length co22) : Value).ownBlock) v312 t310) ∧ Aside0 (Below w.heap.size w wc))
  case first =>
    have H := HC14.out
    clear HC14
    replace H := Option.bind_eq_some_iff.mp H
    obtain ⟨t314, A250, H⟩ := H
    (try dsimp only at H)
    have A25 := Aside0.mk A250
    clear A250
    by_cases c26 : t314 = true
    rotate_left
    · replace c26 := Bool.eq_false_iff.mpr c26
      subst c26
      rw [if_neg (show ¬ (false = true) by decide)] at H
      have H' := Aside0.mk H
      clear H
      obtain ⟨Ao27, co27, eo27⟩ := Kd.R_slice HO313.out
      subst eo27
      obtain ⟨Ao28, co28, eo28⟩ := Kd.R_slice HO303.out
      subst eo28
      go_wp2_with (first | ((with_reducible refine gate_callee (f := 20) rfl ?_); refine goesL_ (some 53) rfl rfl Try.func20 (by kernel_rfl) rfl #[.slice Ao27 t310.length co27, .slice Ao28 t300.length co28] rfl mp_ ?_; (with_reducible refine (laws_eqIntS.calls k _ _ t310 _ _ t300 false _ ?side1 ?side2 ?side3 ?side4 A25.out).mono ?_); (case side1 => exact pc_ ((Kd.R_reads' HO313.out).2.2)); (case side2 => exact (Kd.R_reads' HO313.out).2.1); (case side3 => exact pc_ ((Kd.R_reads' HO303.out).2.2)); (case side4 => exact (Kd.R_reads' HO303.out).2.1); rintro e w' ⟨rfl, ⟨nd, rfl⟩⟩; refine ⟨_, rfl, ?_⟩))
      go_meet
      case rel => exact ⟨_, (true), el_, H', ⟨by first | omega | exact Nat.le_refl _⟩, ⟨by (with_reducible repeat (first | apply Kd.R_alloc | apply Kd.R_drewN | apply Kd.R_drew)); exact Kd.R_mono HO303.out (fun _ hk => ⟨hk.1.2, hk.2⟩)⟩, ⟨by (with_reducible repeat (first | apply Kd.R_alloc | apply Kd.R_drewN | apply Kd.R_drew)); exact Kd.R_mono HO306.out (fun _ hk => ⟨hk.1.2, hk.2⟩)⟩, ⟨by (with_reducible repeat (first | apply Kd.S_alloc | apply Kd.S_drewN | apply Kd.S_drew)); exact Kd.S_mono HO309.out (fun _ hk => ⟨hk.1.1.2, ⟨hk.1.2, hk.2⟩⟩)⟩, ⟨by (with_reducible repeat (first | apply Kd.R_alloc | apply Kd.R_drewN | apply Kd.R_drew)); exact Kd.R_mono HO313.out (fun _ hk => ⟨hk.1.2, hk.2⟩)⟩, ⟨pb_ HB.out⟩⟩
    subst c26
    rw [if_pos rfl] at H
    have H' := Aside0.mk H
    clear H
    obtain ⟨Ao29, co29, eo29⟩ := Kd.R_slice HO313.out
    subst eo29
    obtain ⟨Ao30, co30, eo30⟩ := Kd.R_slice HO303.out
    subst eo30
    go_wp2_with (first | ((with_reducible refine gate_callee (f := 20) rfl ?_); refine goesL_ (some 53) rfl rfl Try.func20 (by kernel_rfl) rfl #[.slice Ao29 t310.length co29, .slice Ao30 t300.length co30] rfl mp_ ?_; (with_reducible refine (laws_eqIntS.calls k _ _ t310 _ _ t300 true _ ?side1 ?side2 ?side3 ?side4 A25.out).mono ?_); (case side1 => exact pc_ ((Kd.R_reads' HO313.out).2.2)); (case side2 => exact (Kd.R_reads' HO313.out).2.1); (case side3 => exact pc_ ((Kd.R_reads' HO303.out).2.2)); (case side4 => exact (Kd.R_reads' HO303.out).2.1); rintro e w' ⟨rfl, ⟨nd, rfl⟩⟩; refine ⟨_, rfl, ?_⟩))
    go_meet
    case rel => exact ⟨_, ((t311 != t301)), el_, H', ⟨by first | omega | exact Nat.le_refl _⟩, ⟨by (with_reducible repeat (first | apply Kd.R_alloc | apply Kd.R_drewN | apply Kd.R_drew)); exact Kd.R_mono HO303.out (fun _ hk => ⟨hk.1.2, hk.2⟩)⟩, ⟨by (with_reducible repeat (first | apply Kd.R_alloc | apply Kd.R_drewN | apply Kd.R_drew)); exact Kd.R_mono HO306.out (fun _ hk => ⟨hk.1.2, hk.2⟩)⟩, ⟨by (with_reducible repeat (first | apply Kd.S_alloc | apply Kd.S_drewN | apply Kd.S_drew)); exact Kd.S_mono HO309.out (fun _ hk => ⟨hk.1.1.2, ⟨hk.1.2, hk.2⟩⟩)⟩, ⟨by (with_reducible repeat (first | apply Kd.R_alloc | apply Kd.R_drewN | apply Kd.R_drew)); exact Kd.R_mono HO313.out (fun _ hk => ⟨hk.1.2, hk.2⟩)⟩, ⟨pb_ HB.out⟩⟩
  clear HC14
  try clear c1
  try clear c2
  try clear p2
  try clear c3
  try clear c5
  try clear c5b0
  try clear c5b1
  try clear c7
  try clear c7b0
  try clear c15
  try clear c17
  try clear c18
  try clear c20
  try clear c26
  obtain ⟨kq, x59_13, rfl, HA, HJ13, HO_10, HO_12, HO_13, HO_14, HB⟩ := hcut
  rcases kq with _ | kj13
  · exact absurd HA.out (by simp [laws_FnExactRetireVersion.j0])
  have H := HA.out
  clear HA
  simp only [laws_FnExactRetireVersion.j0] at H
  by_cases c31 : x59_13 = true
  · subst c31
    rw [if_pos rfl] at H
    obtain rfl := Option.some.inj H
    go_wp2
    go_ret
    exact ⟨er_, pb_ HB.out⟩
  replace c31 := Bool.eq_false_iff.mpr c31
  subst c31
  rw [if_neg (show ¬ (false = true) by decide)] at H
  replace H := Option.bind_eq_some_iff.mp H
  obtain ⟨t315, A320, H⟩ := H
  (try dsimp only at H)
  have A32 := Aside0.mk A320
  clear A320
  replace H := Option.bind_eq_some_iff.mp H
  obtain ⟨t318, A330, H⟩ := H
  (try dsimp only at H)
  have A33 := Aside0.mk A330
  clear A330
  have HS_ := Aside0.mk H
  clear H
  go_upto_if 64 with (first | ((with_reducible refine gate_callee (f := 17) rfl ?_); refine goesL_ (some 62) rfl rfl Try.func17 (by kernel_rfl) rfl #[.slice A0 l0.length c0] rfl mp_ ?_; (with_reducible refine (laws_toIntS.calls kj13 _ _ l0 t315 _ ?side1 ?side2 A32.out).mono ?_); (case side1 => exact pc_ (Kd.C_below HR0.out HB.out)); (case side2 => exact HC0.out); rintro e w34 ⟨v316, rfl, ho0, hb⟩; refine ⟨_, rfl, ?_⟩; have n0_ := Aside0.mk (Kd.R_elder' (pr_ HO_10.out) (Kd.R_base ho0) hb); have n1_ := Aside0.mk (Kd.R_elder' (pr_ HO_12.out) (Kd.R_base ho0) hb); have n2_ := Aside0.mk (Kd.S_elder' (ps_ HO_13.out) (Kd.R_base ho0) hb); have n3_ := Aside0.mk (Kd.R_elder' (pr_ HO_14.out) (Kd.R_base ho0) hb); have n4_ := Aside0.mk (Kd.R_lower (Kd.R_new' (Kd.R_new' (Kd.R_new' ho0 (Kd.R_lt (pr_ HO_10.out))) (Kd.R_lt (pr_ HO_12.out))) (Kd.R_lt (pr_ HO_14.out))) (below_size (pb_ HB.out))); have n5_ := Aside0.mk (below_step (pb_ HB.out) hb); clear HO_10; clear HO_12; clear HO_13; clear HO_14; clear HB; have HO_10 := n0_; have HO_12 := n1_; have HO_13 := n2_; have HO_14 := n3_; have HO317 := n4_; have HB := n5_; clear n0_ n1_ n2_ n3_ n4_ n5_; (try clear hb); (try clear hb2); (try clear hk); (try clear hi); (try clear ho0); obtain ⟨Ao35, co35, eo35⟩ := Kd.R_slice HO317.out; subst eo35) | ((with_reducible refine gate_callee (f := 20) rfl ?_); refine goesL_ (some 63) rfl rfl Try.func20 (by kernel_rfl) rfl #[.slice Ao22 t304.length co22, .slice Ao35 t315.length co35] rfl mp_ ?_; (with_reducible refine (laws_eqIntS.calls kj13 _ _ t304 _ _ t315 t318 _ ?side1 ?side2 ?side3 ?side4 A33.out).mono ?_); (case side1 => exact pc_ ((Kd.R_reads' HO_12.out).2.2)); (case side2 => exact (Kd.R_reads' HO_12.out).2.1); (case side3 => exact pc_ ((Kd.R_reads' HO317.out).2.2)); (case side4 => exact (Kd.R_reads' HO317.out).2.1); rintro e w' ⟨rfl, ⟨nd, rfl⟩⟩; refine ⟨_, rfl, ?_⟩))
  (try simp only [Act.put, List.setIfInBounds_toArray, List.set_cons_zero, List.set_cons_succ])
  have H := HS_.out
  clear HS_
  by_cases c36 : t318 = true
  rotate_left
  · replace c36 := Bool.eq_false_iff.mpr c36
    subst c36
    rw [if_neg (show ¬ (false = true) by decide)] at H
    obtain rfl := Option.some.inj H
    go_wp2
    go_ret
    exact ⟨er_, pb_ HB.out⟩
  subst c36
  rw [if_pos rfl] at H
  replace H := Option.bind_eq_some_iff.mp H
  obtain ⟨t319, A370, H⟩ := H
  (try dsimp only at H)
  have A37 := Aside0.mk A370
  clear A370
  replace H := Option.bind_eq_some_iff.mp H
  obtain ⟨t322, A380, H⟩ := H
  (try dsimp only at H)
  have A38 := Aside0.mk A380
  clear A380
  have HS_ := Aside0.mk H
  clear H
  go_upto_if 69 with (first | ((with_reducible refine gate_callee (f := 18) rfl ?_); refine goesL_ (some 67) rfl rfl Try.func18 (by kernel_rfl) rfl #[.slice A1 l1.length c1] rfl mp_ ?_; (with_reducible refine (laws_toIntSS.calls kj13 _ _ l1 t319 _ ?side1 ?side2 A37.out).mono ?_); (case side1 => exact pc_ (Kd.C_below HR1.out HB.out)); (case side2 => exact HC1.out); rintro e w39 ⟨v320, rfl, ho0, hb⟩; refine ⟨_, rfl, ?_⟩; have n0_ := Aside0.mk (Kd.R_below (pr_ HO_10.out) hb); have n1_ := Aside0.mk (Kd.R_below (pr_ HO_12.out) hb); have n2_ := Aside0.mk (Kd.S_elder' (ps_ HO_13.out) (Kd.S_base ho0) hb); have n3_ := Aside0.mk (Kd.R_below (pr_ HO_14.out) hb); have n4_ := Aside0.mk (Kd.R_below (pr_ HO317.out) hb); have n5_ := Aside0.mk (Kd.S_lower (Kd.S_new' (Kd.S_new' (Kd.S_new' (Kd.S_new' (Kd.S_new' ho0 (Kd.R_lt (pr_ HO_10.out))) (Kd.R_lt (pr_ HO_12.out))) (Kd.S_lt (ps_ HO_13.out))) (Kd.R_lt (pr_ HO_14.out))) (Kd.R_lt (pr_ HO317.out))) (below_size (pb_ HB.out))); have n6_ := Aside0.mk (below_step (pb_ HB.out) hb); clear HO_10; clear HO_12; clear HO_13; clear HO_14; clear HO317; clear HB; have HO_10 := n0_; have HO_12 := n1_; have HO_13 := n2_; have HO_14 := n3_; have HO317 := n4_; have HO321 := n5_; have HB := n6_; clear n0_ n1_ n2_ n3_ n4_ n5_ n6_; (try clear hb); (try clear hb2); (try clear hk); (try clear hi); (try clear ho0); obtain ⟨Ao40, co40, eo40⟩ := Kd.S_slice HO321.out; subst eo40) | ((with_reducible refine gate_callee (f := 21) rfl ?_); refine goesL_ (some 68) rfl rfl Try.func21 (by kernel_rfl) rfl #[.slice Ao23 t307.length co23, .slice Ao40 t319.length co40] rfl mp_ ?_; (with_reducible refine (laws_eqIntSS.calls kj13 _ _ t307 _ _ t319 t322 _ ?side1 ?side2 ?side3 ?side4 A38.out).mono ?_); (case side1 => exact pc_ ((Kd.S_reads' HO_13.out).2.2)); (case side2 => exact (Kd.S_reads' HO_13.out).2.1); (case side3 => exact pc_ ((Kd.S_reads' HO321.out).2.2)); (case side4 => exact (Kd.S_reads' HO321.out).2.1); rintro e w' ⟨rfl, ⟨nd, rfl⟩⟩; refine ⟨_, rfl, ?_⟩))
  (try simp only [Act.put, List.setIfInBounds_toArray, List.set_cons_zero, List.set_cons_succ])
  have H := HS_.out
  clear HS_
  by_cases c41 : t322 = true
  rotate_left
  · replace c41 := Bool.eq_false_iff.mpr c41
    subst c41
    rw [if_neg (show ¬ (false = true) by decide)] at H
    obtain rfl := Option.some.inj H
    go_wp2
    go_ret
    exact ⟨er_, pb_ HB.out⟩
  subst c41
  rw [if_pos rfl] at H
  replace H := Option.bind_eq_some_iff.mp H
  obtain ⟨⟨t323, t324⟩, A420, H⟩ := H
  (try dsimp only at H)
  have A42 := Aside0.mk A420
  clear A420
  replace H := Option.bind_eq_some_iff.mp H
  obtain ⟨t325, A430, H⟩ := H
  (try dsimp only at H)
  have A43 := Aside0.mk A430
  clear A430
  have HC44 := Aside0.mk H
  clear H
  go_upto_region 20 with (first | ((with_reducible refine gate_callee (f := 26) rfl ?_); refine goesL_ (some 72) rfl rfl Try.func26 (by kernel_rfl) rfl #[.slice Ao22 t304.length co22, .int .i64 1] rfl mp_ ?_; (with_reducible refine (laws_markIntS.calls kj13 (fun k_ => some k_ = (.slice Ao22 t304.length co22 : Value).ownBlock) (.slice Ao22 t304.length co22) t304 1 t323 t324 w _ ?side1 ?side2 A42.out).mono ?_); (case side1 => repeat (first | (with_reducible first | exact HB.out | apply below_alloc | apply pw_below_drewN | apply below_drew1) | exact HB.out)); (case side2 => exact Kd.R_tight rfl HO_12.out); rintro e w45 ⟨rfl, hy0, hb, hkp⟩; refine ⟨_, rfl, ?_⟩; have n0_ := Aside0.mk (Kd.R_mono (ok' := fun k_ => some k_ ≠ (.slice Ao22 t304.length co22 : Value).ownBlock ∧ some k_ ≠ (v312 : Value).ownBlock ∧ some k_ ≠ (.slice Ao35 t315.length co35 : Value).ownBlock) (Kd.R_keptB (HO_10.out) hkp (fun k_ hk_ hs_ => (hk_.1.1) hs_)) (fun k_ hk_ => ⟨hk_.1.1.1, hk_.1.1.2, hk_.1.2⟩)); have n1_ := Aside0.mk (Kd.R_reok rfl hy0 (fun k_ e_ => HO_12.out.1 k_ e_)); have n2_ := Aside0.mk (Kd.S_mono (ok' := fun k_ => some k_ ≠ (v302 : Value).ownBlock ∧ some k_ ≠ (.slice Ao22 t304.length co22 : Value).ownBlock ∧ some k_ ≠ (v312 : Value).ownBlock ∧ some k_ ≠ (.slice Ao35 t315.length co35 : Value).ownBlock ∧ some k_ ≠ (.slice Ao40 t319.length co40 : Value).ownBlock) (Kd.S_keptB (HO_13.out) hkp (fun k_ hk_ hs_ => (hk_.1.1.2.1) hs_)) (fun k_ hk_ => ⟨hk_.1.1.1.1, hk_.1.1.1.2.1, hk_.1.1.1.2.2, hk_.1.1.2, hk_.1.2⟩)); have n3_ := Aside0.mk (Kd.R_mono (ok' := fun k_ => some k_ ≠ (v302 : Value).ownBlock ∧ some k_ ≠ (.slice Ao22 t304.length co22 : Value).ownBlock ∧ some k_ ≠ (.slice Ao35 t315.length co35 : Value).ownBlock) (Kd.R_keptB (HO_14.out) hkp (fun k_ hk_ hs_ => (hk_.1.2) hs_)) (fun k_ hk_ => ⟨hk_.1.1.1, hk_.1.1.2, hk_.1.2⟩)); have n4_ := Aside0.mk (Kd.R_mono (ok' := fun k_ => some k_ ≠ (v302 : Value).ownBlock ∧ some k_ ≠ (.slice Ao22 t304.length co22 : Value).ownBlock ∧ some k_ ≠ (v312 : Value).ownBlock) (Kd.R_keptB (HO317.out) hkp (fun k_ hk_ hs_ => (hk_.1.2) hs_)) (fun k_ hk_ => ⟨hk_.1.1.1.2, hk_.1.1.2, hk_.1.2⟩)); have n5_ := Aside0.mk (Kd.S_mono (ok' := fun k_ => some k_ ≠ (v302 : Value).ownBlock ∧ some k_ ≠ (.slice Ao22 t304.length co22 : Value).ownBlock ∧ some k_ ≠ (.slice Ao23 t307.length co23 : Value).ownBlock ∧ some k_ ≠ (v312 : Value).ownBlock ∧ some k_ ≠ (.slice Ao35 t315.length co35 : Value).ownBlock) (Kd.S_keptB (HO321.out) hkp (fun k_ hk_ hs_ => (hk_.1.1.1.2) hs_)) (fun k_ hk_ => ⟨hk_.1.1.1.1.1.2, hk_.1.1.1.1.2, hk_.1.1.1.2, hk_.1.1.2, hk_.1.2⟩)); have n6_ := Aside0.mk (hb); clear HO_10; clear HO_12; clear HO_13; clear HO_14; clear HO317; clear HO321; clear HB; have HO_10 := n0_; have HO_12 := n1_; have HO_13 := n2_; have HO_14 := n3_; have HO317 := n4_; have HO321 := n5_; have HB := n6_; clear n0_ n1_ n2_ n3_ n4_ n5_ n6_; (try clear hb); (try clear hkp); (try clear hy0)) | ((with_reducible refine gate_callee (f := 27) rfl ?_); refine goesL_ (some 75) rfl rfl Try.func27 (by kernel_rfl) rfl #[.slice Ao23 t307.length co23, .int .i64 t323] rfl mp_ ?_; (with_reducible refine (laws_markIntSS.calls kj13 (fun k_ => (some k_ ≠ (v302 : Value).ownBlock ∧ (some k_ ≠ (.slice Ao22 t304.length co22 : Value).ownBlock ∧ (some k_ ≠ (v312 : Value).ownBlock ∧ (some k_ ≠ (.slice Ao35 t315.length co35 : Value).ownBlock ∧ some k_ ≠ (.slice Ao40 t319.length co40 : Value).ownBlock))))) (.slice Ao23 t307.length co23) t307 t323 t325 w _ ?side1 ?side2 A43.out).mono ?_); (case side1 => repeat (first | (with_reducible first | exact HB.out | apply below_alloc | apply pw_below_drewN | apply below_drew1) | exact HB.out)); (case side2 => exact HO_13.out); rintro e w46 ⟨rfl, hb, hkp⟩; refine ⟨_, rfl, ?_⟩; have n0_ := Aside0.mk (Kd.R_mono (ok' := fun k_ => some k_ ≠ (.slice Ao22 t304.length co22 : Value).ownBlock ∧ some k_ ≠ (v312 : Value).ownBlock ∧ some k_ ≠ (.slice Ao35 t315.length co35 : Value).ownBlock) (Kd.R_keptB ((Kd.R_mono (ok' := fun k_ => ((some k_ ≠ (.slice Ao22 t304.length co22 : Value).ownBlock ∧ (some k_ ≠ (v312 : Value).ownBlock ∧ some k_ ≠ (.slice Ao35 t315.length co35 : Value).ownBlock))) ∧ ¬ ((some k_ ≠ (v302 : Value).ownBlock ∧ (some k_ ≠ (.slice Ao22 t304.length co22 : Value).ownBlock ∧ (some k_ ≠ (v312 : Value).ownBlock ∧ (some k_ ≠ (.slice Ao35 t315.length co35 : Value).ownBlock ∧ some k_ ≠ (.slice Ao40 t319.length co40 : Value).ownBlock)))))) (Kd.R_tight2 rfl HO_10.out) (fun k_ hk => ⟨hk.2, fun e_ => (e_.1) hk.1⟩))) hkp (fun k_ hk_ hs_ => (hk_.2) hs_)) (fun k_ hk_ => ⟨hk_.1.1.1, hk_.1.1.2.1, hk_.1.1.2.2⟩)); have n1_ := Aside0.mk (Kd.R_mono (ok' := fun k_ => some k_ ≠ (v302 : Value).ownBlock ∧ some k_ ≠ (v312 : Value).ownBlock ∧ some k_ ≠ (.slice Ao35 t315.length co35 : Value).ownBlock) (Kd.R_keptB ((Kd.R_mono (ok' := fun k_ => (((some k_ ≠ (v302 : Value).ownBlock ∧ some k_ ≠ (v312 : Value).ownBlock) ∧ some k_ ≠ (.slice Ao35 t315.length co35 : Value).ownBlock)) ∧ ¬ ((some k_ ≠ (v302 : Value).ownBlock ∧ (some k_ ≠ (.slice Ao22 t304.length co22 : Value).ownBlock ∧ (some k_ ≠ (v312 : Value).ownBlock ∧ (some k_ ≠ (.slice Ao35 t315.length co35 : Value).ownBlock ∧ some k_ ≠ (.slice Ao40 t319.length co40 : Value).ownBlock)))))) (Kd.R_tight2 rfl HO_12.out) (fun k_ hk => ⟨hk.2, fun e_ => (e_.2.1) hk.1⟩))) hkp (fun k_ hk_ hs_ => (hk_.2) hs_)) (fun k_ hk_ => ⟨hk_.1.1.1.1, hk_.1.1.1.2, hk_.1.1.2⟩)); have n2_ := Aside0.mk (Kd.R_mono (ok' := fun k_ => some k_ ≠ (v302 : Value).ownBlock ∧ some k_ ≠ (.slice Ao22 t304.length co22 : Value).ownBlock ∧ some k_ ≠ (.slice Ao35 t315.length co35 : Value).ownBlock) (Kd.R_keptB ((Kd.R_mono (ok' := fun k_ => ((some k_ ≠ (v302 : Value).ownBlock ∧ (some k_ ≠ (.slice Ao22 t304.length co22 : Value).ownBlock ∧ some k_ ≠ (.slice Ao35 t315.length co35 : Value).ownBlock))) ∧ ¬ ((some k_ ≠ (v302 : Value).ownBlock ∧ (some k_ ≠ (.slice Ao22 t304.length co22 : Value).ownBlock ∧ (some k_ ≠ (v312 : Value).ownBlock ∧ (some k_ ≠ (.slice Ao35 t315.length co35 : Value).ownBlock ∧ some k_ ≠ (.slice Ao40 t319.length co40 : Value).ownBlock)))))) (Kd.R_tight2 rfl HO_14.out) (fun k_ hk => ⟨hk.2, fun e_ => (e_.2.2.1) hk.1⟩))) hkp (fun k_ hk_ hs_ => (hk_.2) hs_)) (fun k_ hk_ => ⟨hk_.1.1.1, hk_.1.1.2.1, hk_.1.1.2.2⟩)); have n3_ := Aside0.mk (Kd.R_mono (ok' := fun k_ => some k_ ≠ (v302 : Value).ownBlock ∧ some k_ ≠ (.slice Ao22 t304.length co22 : Value).ownBlock ∧ some k_ ≠ (v312 : Value).ownBlock) (Kd.R_keptB ((Kd.R_mono (ok' := fun k_ => ((some k_ ≠ (v302 : Value).ownBlock ∧ (some k_ ≠ (.slice Ao22 t304.length co22 : Value).ownBlock ∧ some k_ ≠ (v312 : Value).ownBlock))) ∧ ¬ ((some k_ ≠ (v302 : Value).ownBlock ∧ (some k_ ≠ (.slice Ao22 t304.length co22 : Value).ownBlock ∧ (some k_ ≠ (v312 : Value).ownBlock ∧ (some k_ ≠ (.slice Ao35 t315.length co35 : Value).ownBlock ∧ some k_ ≠ (.slice Ao40 t319.length co40 : Value).ownBlock)))))) (Kd.R_tight2 rfl HO317.out) (fun k_ hk => ⟨hk.2, fun e_ => (e_.2.2.2.1) hk.1⟩))) hkp (fun k_ hk_ hs_ => (hk_.2) hs_)) (fun k_ hk_ => ⟨hk_.1.1.1, hk_.1.1.2.1, hk_.1.1.2.2⟩)); have n4_ := Aside0.mk (hb); clear HO_10; clear HO_12; clear HO_14; clear HO317; clear HB; clear HO321; clear HO_13; have HO_10 := n0_; have HO_12 := n1_; have HO_14 := n2_; have HO317 := n3_; have HB := n4_; clear n0_ n1_ n2_ n3_ n4_; (try clear hb); (try clear hkp)))
  (try simp only [Act.put, List.setIfInBounds_toArray, List.set_cons_zero, List.set_cons_succ])
  go_cut [88] (fun v88 wc => ∃ (kq : Nat) (x88_43 : Bool), v88 = .bool x88_43 ∧ Aside0 (laws_FnExactRetireVersion.j1 kq l0 l1 a2 a3 t300 t301 t310 x88_43 = some r) ∧ Aside0 (kq ≤ kj13) ∧ Aside0 (Kd.R (Kd.int .i64) 3 wc w.heap.size (fun k_ => some k_ ≠ (v312 : Value).ownBlock) v302 t300) ∧ Aside0 (Kd.R (Kd.int .i64) 3 wc w.heap.size (fun k_ => some k_ ≠ (v302 : Value).ownBlock) v312 t310) ∧ Aside0 (Below w.heap.size w wc))
  case first =>
    have H := HC44.out
    clear HC44
    by_cases c47 : t325 < 0
    · rw [if_pos c47] at H
      have c47b0 : decide (t325 < 0) = true := decide_eq_true c47
      clear c47
      (first | rw [c47b0] | (simp only [i64_w, i32_w]; rw [c47b0]) | skip)
      have H' := Aside0.mk H
      clear H
      go_wp2
      go_meet
      case rel => exact ⟨_, (true), el_, H', ⟨by have := HJ13.out; first | omega | exact Nat.le_refl _⟩, ⟨pr_ (Kd.R_mono HO_10.out (fun _ hk => hk.2.1))⟩, ⟨pr_ (Kd.R_mono HO_14.out (fun _ hk => hk.1))⟩, ⟨pb_ HB.out⟩⟩
    rw [if_neg c47] at H
    have c47b0 : decide (t325 < 0) = false := decide_eq_false c47
    clear c47
    (first | rw [c47b0] | (simp only [i64_w, i32_w]; rw [c47b0]) | skip)
    replace H := Option.bind_eq_some_iff.mp H
    obtain ⟨t326, A480, H⟩ := H
    (try dsimp only at H)
    have A48 := Aside0.mk A480
    clear A480
    by_cases c49 : t326 = true
    rotate_left
    · replace c49 := Bool.eq_false_iff.mpr c49
      subst c49
      rw [if_neg (show ¬ (false = true) by decide)] at H
      have H' := Aside0.mk H
      clear H
      obtain ⟨Ao50, co50, eo50⟩ := Kd.R_slice HO_14.out
      subst eo50
      obtain ⟨Ao51, co51, eo51⟩ := Kd.R_slice HO_10.out
      subst eo51
      go_wp2_with (first | (go_at_call 20; (with_reducible refine (laws_eqIntS.calls kj13 _ _ t310 _ _ t300 false _ ?side1 ?side2 ?side3 ?side4 A48.out).mono ?_); (case side1 => exact pc_ ((Kd.R_reads' HO_14.out).2.2)); (case side2 => exact (Kd.R_reads' HO_14.out).2.1); (case side3 => exact pc_ ((Kd.R_reads' HO_10.out).2.2)); (case side4 => exact (Kd.R_reads' HO_10.out).2.1); rintro e w' ⟨rfl, ⟨nd, rfl⟩⟩))
      go_meet
      case rel => exact ⟨_, (true), el_, H', ⟨by have := HJ13.out; first | omega | exact Nat.le_refl _⟩, ⟨pr_ (Kd.R_mono HO_10.out (fun _ hk => hk.2.1))⟩, ⟨pr_ (Kd.R_mono HO_14.out (fun _ hk => hk.1))⟩, ⟨pb_ HB.out⟩⟩
    subst c49
    rw [if_pos rfl] at H
    have H' := Aside0.mk H
    clear H
    obtain ⟨Ao52, co52, eo52⟩ := Kd.R_slice HO_14.out
    subst eo52
    obtain ⟨Ao53, co53, eo53⟩ := Kd.R_slice HO_10.out
    subst eo53
    go_wp2_with (first | (go_at_call 20; (with_reducible refine (laws_eqIntS.calls kj13 _ _ t310 _ _ t300 true _ ?side1 ?side2 ?side3 ?side4 A48.out).mono ?_); (case side1 => exact pc_ ((Kd.R_reads' HO_14.out).2.2)); (case side2 => exact (Kd.R_reads' HO_14.out).2.1); (case side3 => exact pc_ ((Kd.R_reads' HO_10.out).2.2)); (case side4 => exact (Kd.R_reads' HO_10.out).2.1); rintro e w' ⟨rfl, ⟨nd, rfl⟩⟩))
    go_meet
    case rel => exact ⟨_, ((t311 != t301)), el_, H', ⟨by have := HJ13.out; first | omega | exact Nat.le_refl _⟩, ⟨pr_ (Kd.R_mono HO_10.out (fun _ hk => hk.2.1))⟩, ⟨pr_ (Kd.R_mono HO_14.out (fun _ hk => hk.1))⟩, ⟨pb_ HB.out⟩⟩
  clear HC44
  try clear c1
  try clear c2
  try clear p2
  try clear c3
  try clear c4
  try clear c5
  try clear c5b0
  try clear c5b1
  try clear c7
  try clear c7b0
  try clear c15
  try clear c17
  try clear c18
  try clear c20
  try clear c21
  try clear c26
  try clear c27
  try clear c31
  try clear c32
  try clear c36
  try clear c41
  try clear c47
  try clear c47b0
  try clear c49
  try clear p2
  obtain ⟨kq, x88_43, rfl, HA, HJ43, HO_10, HO_14, HB⟩ := hcut
  rcases kq with _ | kj43
  · exact absurd HA.out (by simp [laws_FnExactRetireVersion.j1])
  have H := HA.out
  clear HA
  simp only [laws_FnExactRetireVersion.j1] at H
  by_cases c54 : x88_43 = true
  · subst c54
    rw [if_pos rfl] at H
    obtain rfl := Option.some.inj H
    go_wp2
    go_ret
    exact ⟨er_, pb_ HB.out⟩
  replace c54 := Bool.eq_false_iff.mpr c54
  subst c54
  rw [if_neg (show ¬ (false = true) by decide)] at H
  replace H := Option.bind_eq_some_iff.mp H
  obtain ⟨⟨t327, t328⟩, A550, H⟩ := H
  (try dsimp only at H)
  have A55 := Aside0.mk A550
  clear A550
  have HS_ := Aside0.mk H
  clear H
  obtain ⟨Ao56, co56, eo56⟩ := Kd.R_slice HO_14.out
  subst eo56
  go_upto_region 25 with (first | ((with_reducible refine gate_callee (f := 26) rfl ?_); refine goesL_ (some 91) rfl rfl Try.func26 (by kernel_rfl) rfl #[.slice Ao56 t310.length co56, .int .i64 1] rfl mp_ ?_; (with_reducible refine (laws_markIntS.calls kj43 (fun k_ => some k_ = (.slice Ao56 t310.length co56 : Value).ownBlock) (.slice Ao56 t310.length co56) t310 1 t327 t328 w _ ?side1 ?side2 A55.out).mono ?_); (case side1 => repeat (first | (with_reducible first | exact HB.out | apply below_alloc | apply pw_below_drewN | apply below_drew1) | exact HB.out)); (case side2 => exact Kd.R_tight rfl HO_14.out); rintro e w57 ⟨rfl, hy0, hb, hkp⟩; refine ⟨_, rfl, ?_⟩; have n0_ := Aside0.mk (Kd.R_mono (ok' := fun k_ => some k_ ≠ (.slice Ao56 t310.length co56 : Value).ownBlock) (Kd.R_keptB (HO_10.out) hkp (fun k_ hk_ hs_ => (hk_) hs_)) (fun k_ hk_ => hk_.1)); have n1_ := Aside0.mk (Kd.R_reok rfl hy0 (fun k_ e_ => HO_14.out.1 k_ e_)); have n2_ := Aside0.mk (hb); clear HO_10; clear HO_14; clear HB; have HO_10 := n0_; have HO_14 := n1_; have HB := n2_; clear n0_ n1_ n2_; (try clear hb); (try clear hkp); (try clear hy0)))
  (try simp only [Act.put, List.setIfInBounds_toArray, List.set_cons_zero, List.set_cons_succ])
  have H := HS_.out
  clear HS_
  replace H := Option.bind_eq_some_iff.mp H
  obtain ⟨t329, A580, H⟩ := H
  (try dsimp only at H)
  have A58 := Aside0.mk A580
  clear A580
  have HS_ := Aside0.mk H
  clear H
  go_upto_if 96 with (first | ((with_reducible refine gate_callee (f := 28) rfl ?_); refine goesL_ (some 94) rfl rfl Try.func28 (by kernel_rfl) rfl #[.slice Ao56 t328.length co56, .int .i64 1] rfl (by (try simp only [List.map_toArray, List.map_cons, List.map_nil]); first | done | (rw [show t328.length = t310.length from (Kd.R_reads' HO_14.out).1.symm] <;> rfl) | rfl | (simp only [List.length_drop, List.length_take]; rfl)) ?_; (with_reducible refine (laws_heldIntS.calls kj43 _ _ t328 1 t329 _ ?side1 ?side2 A58.out).mono ?_); (case side1 => exact pc_ ((Kd.R_reads' HO_14.out).2.2)); (case side2 => rw [show t328.length = t310.length from (Kd.R_reads' HO_14.out).1.symm]; exact (Kd.R_reads' HO_14.out).2.1); rintro e w' ⟨rfl, ⟨nd, rfl⟩⟩; refine ⟨_, rfl, ?_⟩))
  (try simp only [Act.put, List.setIfInBounds_toArray, List.set_cons_zero, List.set_cons_succ])
  have H := HS_.out
  clear HS_
  by_cases c59 : t329 < 0
  · rw [if_pos c59] at H
    have c59b0 : decide (t329 < 0) = true := decide_eq_true c59
    clear c59
    (first | rw [c59b0] | (simp only [i64_w, i32_w]; rw [c59b0]) | skip)
    obtain rfl := Option.some.inj H
    go_wp2
    go_ret
    exact ⟨er_, pb_ HB.out⟩
  rw [if_neg c59] at H
  have c59b0 : decide (t329 < 0) = false := decide_eq_false c59
  clear c59
  (first | rw [c59b0] | (simp only [i64_w, i32_w]; rw [c59b0]) | skip)
  by_cases c60 : t329 = t327
  rotate_left
  · rw [if_neg c60] at H
    have c60b0 : (t329 == t327) = false := beq_eq_false_iff_ne.mpr c60
    have c60b1 : (t329 != t327) = true := bne_iff_ne.mpr c60
    obtain rfl := Option.some.inj H
    go_wp2
    go_ret
    exact ⟨er_, pb_ HB.out⟩
  rw [if_pos c60] at H
  have c60b0 : (t329 == t327) = true := beq_iff_eq.mpr c60
  have c60b1 : (t329 != t327) = false := bne_eq_false_iff_eq.mpr c60
  clear c60
  replace H := Option.bind_eq_some_iff.mp H
  obtain ⟨t330, A610, H⟩ := H
  (try dsimp only at H)
  have A61 := Aside0.mk A610
  clear A610
  replace H := Option.bind_eq_some_iff.mp H
  obtain ⟨t333, A620, H⟩ := H
  (try dsimp only at H)
  have A62 := Aside0.mk A620
  clear A620
  replace H := Option.bind_eq_some_iff.mp H
  obtain ⟨⟨t336, t337⟩, A630, H⟩ := H
  (try dsimp only at H)
  have A63 := Aside0.mk A630
  clear A630
  have HC64 := Aside0.mk H
  clear H
  go_upto_region 31 with (first | ((with_reducible refine gate_callee (f := 17) rfl ?_); refine goesL_ (some 102) rfl rfl Try.func17 (by kernel_rfl) rfl #[.slice A0 l0.length c0] rfl mp_ ?_; (with_reducible refine (laws_toIntS.calls kj43 _ _ l0 t330 _ ?side1 ?side2 A61.out).mono ?_); (case side1 => exact pc_ (Kd.C_below HR0.out HB.out)); (case side2 => exact HC0.out); rintro e w65 ⟨v331, rfl, ho0, hb⟩; refine ⟨_, rfl, ?_⟩; have n0_ := Aside0.mk (Kd.R_elder' (pr_ HO_10.out) (Kd.R_base ho0) hb); have n1_ := Aside0.mk (Kd.R_elder' (pr_ HO_14.out) (Kd.R_base ho0) hb); have n2_ := Aside0.mk (Kd.R_lower (Kd.R_new' (Kd.R_new' ho0 (Kd.R_lt (pr_ HO_10.out))) (Kd.R_lt (pr_ HO_14.out))) (below_size (pb_ HB.out))); have n3_ := Aside0.mk (below_step (pb_ HB.out) hb); clear HO_10; clear HO_14; clear HB; have HO_10 := n0_; have HO_14 := n1_; have HO332 := n2_; have HB := n3_; clear n0_ n1_ n2_ n3_; (try clear hb); (try clear hb2); (try clear hk); (try clear hi); (try clear ho0)) | ((with_reducible refine gate_callee (f := 18) rfl ?_); refine goesL_ (some 104) rfl rfl Try.func18 (by kernel_rfl) rfl #[.slice A1 l1.length c1] rfl mp_ ?_; (with_reducible refine (laws_toIntSS.calls kj43 _ _ l1 t333 _ ?side1 ?side2 A62.out).mono ?_); (case side1 => exact pc_ (Kd.C_below HR1.out HB.out)); (case side2 => exact HC1.out); rintro e w66 ⟨v334, rfl, ho0, hb⟩; refine ⟨_, rfl, ?_⟩; have n0_ := Aside0.mk (Kd.R_below (pr_ HO_10.out) hb); have n1_ := Aside0.mk (Kd.R_below (pr_ HO_14.out) hb); have n2_ := Aside0.mk (Kd.R_below (pr_ HO332.out) hb); have n3_ := Aside0.mk (Kd.S_lower (Kd.S_new' (Kd.S_new' (Kd.S_new' ho0 (Kd.R_lt (pr_ HO_10.out))) (Kd.R_lt (pr_ HO_14.out))) (Kd.R_lt (pr_ HO332.out))) (below_size (pb_ HB.out))); have n4_ := Aside0.mk (below_step (pb_ HB.out) hb); clear HO_10; clear HO_14; clear HO332; clear HB; have HO_10 := n0_; have HO_14 := n1_; have HO332 := n2_; have HO335 := n3_; have HB := n4_; clear n0_ n1_ n2_ n3_ n4_; (try clear hb); (try clear hb2); (try clear hk); (try clear hi); (try clear ho0); obtain ⟨Ao67, co67, eo67⟩ := Kd.R_slice HO332.out; subst eo67; obtain ⟨Ao68, co68, eo68⟩ := Kd.S_slice HO335.out; subst eo68) | ((with_reducible refine gate_callee (f := 32) rfl ?_); refine goesL_ (some 107) rfl rfl Try.func32 (by kernel_rfl) rfl #[.slice Ao67 t330.length co67, .slice Ao68 t333.length co68, .int .i64 a2, .int .i64 a3] rfl mp_ ?_; (with_reducible refine (impl_RetireVersion.calls kj43 _ _ t330 _ _ t333 a2 a3 t336 t337 _ ?side1 ?side2 ?side3 ?side4 A63.out).mono ?_); (case side1 => exact pc_ ((Kd.R_reads' HO332.out).2.2)); (case side2 => exact (Kd.R_reads' HO332.out).2.1); (case side3 => exact pc_ ((Kd.S_reads' HO335.out).2.2)); (case side4 => exact (Kd.S_reads' HO335.out).2.1); rintro e w69 ⟨v338, rfl, ho0, hb⟩; refine ⟨_, rfl, ?_⟩; have n0_ := Aside0.mk (Kd.R_elder' (pr_ HO_10.out) (Kd.R_base ho0) hb); have n1_ := Aside0.mk (Kd.R_elder' (pr_ HO_14.out) (Kd.R_base ho0) hb); have n2_ := Aside0.mk (Kd.R_elder' (pr_ HO332.out) (Kd.R_base ho0) hb); have n3_ := Aside0.mk (Kd.S_elder' (ps_ HO335.out) (Kd.R_base ho0) hb); have n4_ := Aside0.mk (Kd.R_lower (Kd.R_new' (Kd.R_new' (Kd.R_new' ho0 (Kd.R_lt (pr_ HO_10.out))) (Kd.R_lt (pr_ HO_14.out))) (Kd.R_lt (pr_ HO332.out))) (below_size (pb_ HB.out))); have n5_ := Aside0.mk (below_step (pb_ HB.out) hb); clear HO_10; clear HO_14; clear HO332; clear HO335; clear HB; have HO_10 := n0_; have HO_14 := n1_; have HO332 := n2_; have HO335 := n3_; have HO339 := n4_; have HB := n5_; clear n0_ n1_ n2_ n3_ n4_ n5_; (try clear hb); (try clear hb2); (try clear hk); (try clear hi); (try clear ho0)))
  (try simp only [Act.put, List.setIfInBounds_toArray, List.set_cons_zero, List.set_cons_succ])
  go_cut [118] (fun v118 wc => ∃ (kq : Nat) (x118_63 : Bool), v118 = .bool x118_63 ∧ Aside0 (laws_FnExactRetireVersion.j2 kq t328 t327 x118_63 = some r) ∧ Aside0 (kq ≤ kj43) ∧ Aside0 (Kd.R (Kd.int .i64) 3 wc w.heap.size (fun _ => True) (.slice Ao56 t310.length co56) t328) ∧ Aside0 (Below w.heap.size w wc))
  case first =>
    have H := HC64.out
    clear HC64
    replace H := Option.bind_eq_some_iff.mp H
    obtain ⟨t340, A700, H⟩ := H
    (try dsimp only at H)
    have A70 := Aside0.mk A700
    clear A700
    by_cases c71 : t340 = true
    rotate_left
    · replace c71 := Bool.eq_false_iff.mpr c71
      subst c71
      rw [if_neg (show ¬ (false = true) by decide)] at H
      have H' := Aside0.mk H
      clear H
      obtain ⟨Ao72, co72, eo72⟩ := Kd.R_slice HO339.out
      subst eo72
      obtain ⟨Ao73, co73, eo73⟩ := Kd.R_slice HO_10.out
      subst eo73
      go_wp2_with (first | ((with_reducible refine gate_callee (f := 20) rfl ?_); refine goesL_ (some 112) rfl rfl Try.func20 (by kernel_rfl) rfl #[.slice Ao72 t336.length co72, .slice Ao73 t300.length co73] rfl mp_ ?_; (with_reducible refine (laws_eqIntS.calls kj43 _ _ t336 _ _ t300 false _ ?side1 ?side2 ?side3 ?side4 A70.out).mono ?_); (case side1 => exact pc_ ((Kd.R_reads' HO339.out).2.2)); (case side2 => exact (Kd.R_reads' HO339.out).2.1); (case side3 => exact pc_ ((Kd.R_reads' HO_10.out).2.2)); (case side4 => exact (Kd.R_reads' HO_10.out).2.1); rintro e w' ⟨rfl, ⟨nd, rfl⟩⟩; refine ⟨_, rfl, ?_⟩))
      go_meet
      case rel => exact ⟨_, (true), el_, H', ⟨by have := HJ13.out; have := HJ43.out; first | omega | exact Nat.le_refl _⟩, ⟨pr_ (Kd.R_mono HO_14.out (fun _ hk => trivial))⟩, ⟨pb_ HB.out⟩⟩
    subst c71
    rw [if_pos rfl] at H
    have H' := Aside0.mk H
    clear H
    obtain ⟨Ao74, co74, eo74⟩ := Kd.R_slice HO339.out
    subst eo74
    obtain ⟨Ao75, co75, eo75⟩ := Kd.R_slice HO_10.out
    subst eo75
    go_wp2_with (first | ((with_reducible refine gate_callee (f := 20) rfl ?_); refine goesL_ (some 112) rfl rfl Try.func20 (by kernel_rfl) rfl #[.slice Ao74 t336.length co74, .slice Ao75 t300.length co75] rfl mp_ ?_; (with_reducible refine (laws_eqIntS.calls kj43 _ _ t336 _ _ t300 true _ ?side1 ?side2 ?side3 ?side4 A70.out).mono ?_); (case side1 => exact pc_ ((Kd.R_reads' HO339.out).2.2)); (case side2 => exact (Kd.R_reads' HO339.out).2.1); (case side3 => exact pc_ ((Kd.R_reads' HO_10.out).2.2)); (case side4 => exact (Kd.R_reads' HO_10.out).2.1); rintro e w' ⟨rfl, ⟨nd, rfl⟩⟩; refine ⟨_, rfl, ?_⟩))
    go_meet
    case rel => exact ⟨_, ((t337 != t301)), el_, H', ⟨by have := HJ13.out; have := HJ43.out; first | omega | exact Nat.le_refl _⟩, ⟨pr_ (Kd.R_mono HO_14.out (fun _ hk => trivial))⟩, ⟨pb_ HB.out⟩⟩
  clear HC64
  try clear c1
  try clear c2
  try clear p2
  try clear c3
  try clear c4
  try clear c5
  try clear c5b0
  try clear c5b1
  try clear c6
  try clear c7
  try clear c7b0
  try clear c15
  try clear c17
  try clear c18
  try clear c20
  try clear c21
  try clear c26
  try clear c27
  try clear c28
  try clear c31
  try clear c32
  try clear c36
  try clear c41
  try clear c47
  try clear c47b0
  try clear c49
  try clear c54
  try clear c59
  try clear c59b0
  try clear c60
  try clear c60b0
  try clear c60b1
  try clear c71
  try clear p2
  obtain ⟨kq, x118_63, rfl, HA, HJ63, HO_14, HB⟩ := hcut
  have hl14_63 := (Kd.R_reads' HO_14.out).1
  rw [hl14_63] at HO_14
  (try simp only [hl14_63])
  rcases kq with _ | kj63
  · exact absurd HA.out (by simp [laws_FnExactRetireVersion.j2])
  have H := HA.out
  clear HA
  simp only [laws_FnExactRetireVersion.j2] at H
  by_cases c76 : x118_63 = true
  · subst c76
    rw [if_pos rfl] at H
    obtain rfl := Option.some.inj H
    go_wp2
    go_ret
    exact ⟨er_, pb_ HB.out⟩
  replace c76 := Bool.eq_false_iff.mpr c76
  subst c76
  rw [if_neg (show ¬ (false = true) by decide)] at H
  replace H := Option.bind_eq_some_iff.mp H
  obtain ⟨t341, A770, H⟩ := H
  (try dsimp only at H)
  have A77 := Aside0.mk A770
  clear A770
  have HS_ := Aside0.mk H
  clear H
  go_upto_if 123 with (first | ((with_reducible refine gate_callee (f := 28) rfl ?_); refine goesL_ (some 121) rfl rfl Try.func28 (by kernel_rfl) rfl #[.slice Ao56 t328.length co56, .int .i64 1] rfl mp_ ?_; (with_reducible refine (laws_heldIntS.calls kj63 _ _ t328 1 t341 _ ?side1 ?side2 A77.out).mono ?_); (case side1 => exact pc_ ((Kd.R_reads' HO_14.out).2.2)); (case side2 => exact (Kd.R_reads' HO_14.out).2.1); rintro e w' ⟨rfl, ⟨nd, rfl⟩⟩; refine ⟨_, rfl, ?_⟩))
  (try simp only [Act.put, List.setIfInBounds_toArray, List.set_cons_zero, List.set_cons_succ])
  have H := HS_.out
  clear HS_
  by_cases c78 : t341 < 0
  · rw [if_pos c78] at H
    have c78b0 : decide (t341 < 0) = true := decide_eq_true c78
    clear c78
    (first | rw [c78b0] | (simp only [i64_w, i32_w]; rw [c78b0]) | skip)
    obtain rfl := Option.some.inj H
    go_wp2
    go_ret
    exact ⟨er_, pb_ HB.out⟩
  rw [if_neg c78] at H
  have c78b0 : decide (t341 < 0) = false := decide_eq_false c78
  clear c78
  (first | rw [c78b0] | (simp only [i64_w, i32_w]; rw [c78b0]) | skip)
  by_cases c79 : t341 = t327
  rotate_left
  · rw [if_neg c79] at H
    have c79b0 : (t341 == t327) = false := beq_eq_false_iff_ne.mpr c79
    have c79b1 : (t341 != t327) = true := bne_iff_ne.mpr c79
    obtain rfl := Option.some.inj H
    go_wp2
    go_ret
    exact ⟨er_, pb_ HB.out⟩
  rw [if_pos c79] at H
  have c79b0 : (t341 == t327) = true := beq_iff_eq.mpr c79
  have c79b1 : (t341 != t327) = false := bne_eq_false_iff_eq.mpr c79
  clear c79
  obtain rfl := Option.some.inj H
  go_wp2
  go_ret
  exact ⟨er_, pb_ HB.out⟩

/-- THE ONE PURE STATEMENT of laws_FnExactRetireVersion: yours. -/
def laws_FnExactRetireVersion.Pure : Prop := ∀ (x0 : List Int) (x1 : List (List Int)) (x2 : Int) (x3 : Int), (x0.length * 8 ≤ 140737488351232 ∧ ∀ y ∈ x0, (Lit.int .i64 y).wf = true) → (x1.length * 24 ≤ 140737488351232 ∧ ∀ y ∈ x1, (y.length * 8 ≤ 140737488351232 ∧ ∀ yy ∈ y, (Lit.int .i64 yy).wf = true)) → (Lit.int .i64 x2).wf = true → (Lit.int .i64 x3).wf = true → ∃ k, laws_FnExactRetireVersion.f k x0 x1 x2 x3 = some true

end Go.Proofs.Ytdoefkloanpliaa.Print
