-- Written by a program of this session (printx.py) out of the translation; Lean checks it.
import Derived.Test.YtlcpaebidnaolaaPrint0
import Derived.Test.YtlcpaebidnaolaaPrint1
import Derived.Test.YtlcpaebidnaolaaPrint8
import Derived.Test.YtlcpaebidnaolaaPrint9
import Derived.Test.YtlcpaebidnaolaaPrint10
import Derived.Test.YtlcpaebidnaolaaPrint11
namespace Go.Proofs.Ytlcpaebidnaolaa.Print
open Go.RowKit Go.Proofs.YtlcpaebidnaolaaW.PrintWords Go.Proofs.YtlcpaebidnaolaaW.PrintLast Go.Proofs.YtlcpaebidnaolaaW.PrintMore Go.Proofs.Ytlcpaebidnaolaa.Short
attribute [local go_sem] max2_int min2_int max_two min_two max_three min_three max_four min_four   -- for this text's walks alone
set_option linter.unusedVariables false
set_option maxHeartbeats 8000000
set_option maxRecDepth 100000
set_option linter.unusedSimpArgs false

/-! ### laws_FnMemory: function 3 -/
mutual
def laws_FnMemory.j0 : Nat → List Int → List (S61) → Int → List Int → Int → List (S61) → Bool → Option (Bool)
 | 0, _, _, _, _, _, _, _ => none
 | k + 1, x0, x3, x4, x5, x6, x7, x37 => if x37 = true then ((impl_Recall.f k x7 x4 x6).bind fun t583 => ((impl_EqualInts.f k t583 x5).bind fun t586 => (if t586 = true then ((impl_Recall.f k x7 x4 (wrap64 (x6 + 20))).bind fun t587 => ((impl_EqualInts.f k t587 x5).bind fun t590 => (if t590 = true then ((impl_Recall.f k x7 x4 (wrap64 ((wrap64 (x6 + 20)) + 1))).bind fun t591 => (if (t591.length : Int) > 0 then (some false) else (if (x7.length : Int) > (wrap64 ((x3.length : Int) + 1)) then (some false) else (laws_FnMemory.j1 k x0)))) else (some false)))) else (some false)))) else (laws_FnMemory.j1 k x0)
def laws_FnMemory.j1 : Nat → List Int → Option (Bool)
 | 0, _ => none
 | k + 1, x0 => (spec_DrawForgetOld.f k x0).bind fun bt594 => ((impl_ForgetOld.f k bt594.1 bt594.2).bind fun t598 => (laws_FnMemory.l0 k x0 bt594.1 bt594.2 t598 0))
def laws_FnMemory.l0 : Nat → List Int → List (S61) → Int → List (S61) → Int → Option (Bool)
 | 0, _, _, _, _, _ => none
 | k + 1, x0, x8, x9, x10, x11 => if x11 < 6 then ((impl_Recall.f k x10 x11 x9).bind fun t607 => ((impl_Recall.f k x8 x11 x9).bind fun t610 => ((impl_EqualInts.f k t607 t610).bind fun t613 => (if t613 = true then (laws_FnMemory.l0 k x0 x8 x9 x10 (wrap64 (x11 + 1))) else (some false))))) else ((spec_DrawIsMemory.f k x0).bind fun bt601 => (if (x10.length : Int) ≤ (x8.length : Int) then ((impl_IsMemory.f k bt601.1 bt601.2).bind fun t605 => (if t605 = true then ((impl_CountStates.f k bt601.1).bind fun t606 => (some (decide (t606 ≤ 6)))) else (some true))) else (some false)))
end
def laws_FnMemory.f (k : Nat) (l0 : List Int) : Option (Bool) := (laws_big.f l0).bind fun t571 => (if t571 = true then (some true) else ((spec_DrawRemember.f k l0).bind fun bt572 => ((impl_Remember.f k bt572.1 bt572.2.1 bt572.2.2.1 bt572.2.2.2).bind fun t580 => (if bt572.2.1 ≥ 0 then (if bt572.2.1 < 6 then (laws_FnMemory.j0 k l0 bt572.1 bt572.2.1 bt572.2.2.1 bt572.2.2.2 t580 (decide (bt572.2.2.2 ≥ 0))) else (laws_FnMemory.j0 k l0 bt572.1 bt572.2.1 bt572.2.2.1 bt572.2.2.2 t580 false)) else (laws_FnMemory.j0 k l0 bt572.1 bt572.2.1 bt572.2.2.1 bt572.2.2.2 t580 false)))))
theorem laws_FnMemory.mono_l : ∀ k, (∀ y0 y1 y2 y3 y4 y5 y6, LeO (laws_FnMemory.j0 k y0 y1 y2 y3 y4 y5 y6) (laws_FnMemory.j0 (k + 1) y0 y1 y2 y3 y4 y5 y6)) ∧ (∀ y0, LeO (laws_FnMemory.j1 k y0) (laws_FnMemory.j1 (k + 1) y0)) ∧ (∀ y0 y1 y2 y3 y4, LeO (laws_FnMemory.l0 k y0 y1 y2 y3 y4) (laws_FnMemory.l0 (k + 1) y0 y1 y2 y3 y4))
 | 0 => ⟨fun _ _ _ _ _ _ _ r h => by simp [laws_FnMemory.j0] at h, fun _ r h => by simp [laws_FnMemory.j1] at h, fun _ _ _ _ _ r h => by simp [laws_FnMemory.l0] at h⟩
 | k + 1 => by
  obtain ⟨ih0, ih1, ih2⟩ := laws_FnMemory.mono_l k
  refine ⟨?_, ?_, ?_⟩
  ·intro y0 y1 y2 y3 y4 y5 y6
   unfold laws_FnMemory.j0
   repeat' first
   | (with_reducible exact ih0 _ _ _ _ _ _ _)
   | (with_reducible exact ih1 _)
   | (with_reducible exact ih2 _ _ _ _ _)
   | (with_reducible exact impl_CountStates.mono _ _)
   | (with_reducible exact impl_EqualInts.mono _ _ _)
   | (with_reducible exact impl_ForgetOld.mono _ _ _)
   | (with_reducible exact impl_IsMemory.mono _ _ _)
   | (with_reducible exact impl_Recall.mono _ _ _ _)
   | (with_reducible exact impl_Remember.mono _ _ _ _ _)
   | (with_reducible exact spec_DrawForgetOld.mono _ _)
   | (with_reducible exact spec_DrawIsMemory.mono _ _)
   | (with_reducible exact spec_DrawRemember.mono _ _)
   | (with_reducible exact LeO.refl _)
   | (with_reducible exact LeO.none _)
   | (with_reducible refine LeO.ite ?_ ?_)
   | (with_reducible refine LeO.bind ?_ (fun _ => ?_))
   | exact ih0 _ _ _ _ _ _ _
   | exact ih1 _
   | exact ih2 _ _ _ _ _
   | exact impl_CountStates.mono _ _
   | exact impl_EqualInts.mono _ _ _
   | exact impl_ForgetOld.mono _ _ _
   | exact impl_IsMemory.mono _ _ _
   | exact impl_Recall.mono _ _ _ _
   | exact impl_Remember.mono _ _ _ _ _
   | exact spec_DrawForgetOld.mono _ _
   | exact spec_DrawIsMemory.mono _ _
   | exact spec_DrawRemember.mono _ _
   | exact LeO.none _
   | refine LeO.ite ?_ ?_
   | refine LeO.bind ?_ (fun _ => ?_)
  ·intro y0
   unfold laws_FnMemory.j1
   repeat' first
   | (with_reducible exact ih0 _ _ _ _ _ _ _)
   | (with_reducible exact ih1 _)
   | (with_reducible exact ih2 _ _ _ _ _)
   | (with_reducible exact impl_CountStates.mono _ _)
   | (with_reducible exact impl_EqualInts.mono _ _ _)
   | (with_reducible exact impl_ForgetOld.mono _ _ _)
   | (with_reducible exact impl_IsMemory.mono _ _ _)
   | (with_reducible exact impl_Recall.mono _ _ _ _)
   | (with_reducible exact impl_Remember.mono _ _ _ _ _)
   | (with_reducible exact spec_DrawForgetOld.mono _ _)
   | (with_reducible exact spec_DrawIsMemory.mono _ _)
   | (with_reducible exact spec_DrawRemember.mono _ _)
   | (with_reducible exact LeO.refl _)
   | (with_reducible exact LeO.none _)
   | (with_reducible refine LeO.ite ?_ ?_)
   | (with_reducible refine LeO.bind ?_ (fun _ => ?_))
   | exact ih0 _ _ _ _ _ _ _
   | exact ih1 _
   | exact ih2 _ _ _ _ _
   | exact impl_CountStates.mono _ _
   | exact impl_EqualInts.mono _ _ _
   | exact impl_ForgetOld.mono _ _ _
   | exact impl_IsMemory.mono _ _ _
   | exact impl_Recall.mono _ _ _ _
   | exact impl_Remember.mono _ _ _ _ _
   | exact spec_DrawForgetOld.mono _ _
   | exact spec_DrawIsMemory.mono _ _
   | exact spec_DrawRemember.mono _ _
   | exact LeO.none _
   | refine LeO.ite ?_ ?_
   | refine LeO.bind ?_ (fun _ => ?_)
  ·intro y0 y1 y2 y3 y4
   unfold laws_FnMemory.l0
   repeat' first
   | (with_reducible exact ih0 _ _ _ _ _ _ _)
   | (with_reducible exact ih1 _)
   | (with_reducible exact ih2 _ _ _ _ _)
   | (with_reducible exact impl_CountStates.mono _ _)
   | (with_reducible exact impl_EqualInts.mono _ _ _)
   | (with_reducible exact impl_ForgetOld.mono _ _ _)
   | (with_reducible exact impl_IsMemory.mono _ _ _)
   | (with_reducible exact impl_Recall.mono _ _ _ _)
   | (with_reducible exact impl_Remember.mono _ _ _ _ _)
   | (with_reducible exact spec_DrawForgetOld.mono _ _)
   | (with_reducible exact spec_DrawIsMemory.mono _ _)
   | (with_reducible exact spec_DrawRemember.mono _ _)
   | (with_reducible exact LeO.refl _)
   | (with_reducible exact LeO.none _)
   | (with_reducible refine LeO.ite ?_ ?_)
   | (with_reducible refine LeO.bind ?_ (fun _ => ?_))
   | exact ih0 _ _ _ _ _ _ _
   | exact ih1 _
   | exact ih2 _ _ _ _ _
   | exact impl_CountStates.mono _ _
   | exact impl_EqualInts.mono _ _ _
   | exact impl_ForgetOld.mono _ _ _
   | exact impl_IsMemory.mono _ _ _
   | exact impl_Recall.mono _ _ _ _
   | exact impl_Remember.mono _ _ _ _ _
   | exact spec_DrawForgetOld.mono _ _
   | exact spec_DrawIsMemory.mono _ _
   | exact spec_DrawRemember.mono _ _
   | exact LeO.none _
   | refine LeO.ite ?_ ?_
   | refine LeO.bind ?_ (fun _ => ?_)
theorem laws_FnMemory.mono : ∀ a0 k, LeO (laws_FnMemory.f k a0) (laws_FnMemory.f (k + 1) a0) := by
 intro a0 k
 obtain ⟨ih0, ih1, ih2⟩ := laws_FnMemory.mono_l k
 unfold laws_FnMemory.f
 repeat' first
   | (with_reducible exact ih0 _ _ _ _ _ _ _)
   | (with_reducible exact ih1 _)
   | (with_reducible exact ih2 _ _ _ _ _)
   | (with_reducible exact impl_CountStates.mono _ _)
   | (with_reducible exact impl_EqualInts.mono _ _ _)
   | (with_reducible exact impl_ForgetOld.mono _ _ _)
   | (with_reducible exact impl_IsMemory.mono _ _ _)
   | (with_reducible exact impl_Recall.mono _ _ _ _)
   | (with_reducible exact impl_Remember.mono _ _ _ _ _)
   | (with_reducible exact spec_DrawForgetOld.mono _ _)
   | (with_reducible exact spec_DrawIsMemory.mono _ _)
   | (with_reducible exact spec_DrawRemember.mono _ _)
   | (with_reducible exact LeO.refl _)
   | (with_reducible exact LeO.none _)
   | (with_reducible refine LeO.ite ?_ ?_)
   | (with_reducible refine LeO.bind ?_ (fun _ => ?_))
   | exact ih0 _ _ _ _ _ _ _
   | exact ih1 _
   | exact ih2 _ _ _ _ _
   | exact impl_CountStates.mono _ _
   | exact impl_EqualInts.mono _ _ _
   | exact impl_ForgetOld.mono _ _ _
   | exact impl_IsMemory.mono _ _ _
   | exact impl_Recall.mono _ _ _ _
   | exact impl_Remember.mono _ _ _ _ _
   | exact spec_DrawForgetOld.mono _ _
   | exact spec_DrawIsMemory.mono _ _
   | exact spec_DrawRemember.mono _ _
   | exact LeO.none _
   | refine LeO.ite ?_ ?_
   | refine LeO.bind ?_ (fun _ => ?_)
theorem laws_FnMemory.calls (k : Nat) (A0 : Option Addr) (c0 : Nat) (l0 : List Int) (r : Bool) (w : World) (hr0 : Kd.C (Kd.int .u8) w A0 l0.length l0) (hc0 : l0.length ≤ c0) (h : laws_FnMemory.f k l0 = some r) :
  Calls Try.prog 3 #[.slice A0 l0.length c0] w fun e w' => e = .returned (.bool r) ∧ Below w.heap.size w w' := by
 have HR0 := Q_ hr0
 have HC0 := Q_ hc0
 clear hr0 hc0
 have HB := Q_ (Below.refl w.heap.size w)
 have H : ((laws_big.f l0).bind fun t571 => (if t571 = true then (some true) else ((spec_DrawRemember.f k l0).bind fun bt572 => ((impl_Remember.f k bt572.1 bt572.2.1 bt572.2.2.1 bt572.2.2.2).bind fun t580 => (if bt572.2.1 ≥ 0 then (if bt572.2.1 < 6 then (laws_FnMemory.j0 k l0 bt572.1 bt572.2.1 bt572.2.2.1 bt572.2.2.2 t580 (decide (bt572.2.2.2 ≥ 0))) else (laws_FnMemory.j0 k l0 bt572.1 bt572.2.1 bt572.2.2.1 bt572.2.2.2 t580 false)) else (laws_FnMemory.j0 k l0 bt572.1 bt572.2.1 bt572.2.2.1 bt572.2.2.2 t580 false)))))) = some r := h
 clear h
 replace H := Option.bind_eq_some_iff.mp H
 obtain ⟨t571, A20, H⟩ := H
 (try dsimp only at H)
 have A2 := Q_ A20
 clear A20
 have HS_ := Q_ H
 clear H
 go_enter Try.func3, Try.ntmps3
 go_upto_if 15 with (first | ((with_reducible refine gate_callee (f := 5) rfl ?_); refine gl_ (some 15) Try.func5 #[.slice A0 l0.length c0] ?_; (with_reducible refine (laws_big.calls _ _ l0 t571 _ ?side1 ?side2 A2.out).mono ?_); (case side1 => exact pc_ HR0.out); (case side2 => exact HC0.out); rintro e w' ⟨rfl, ⟨nd, rfl⟩⟩; refine ⟨_, rfl, ?_⟩))
 (try simp only [Act.put, List.setIfInBounds_toArray, List.set_cons_zero, List.set_cons_succ])
 have H := HS_.out
 clear HS_
 by_cases c3 : t571 = true
 ·subst c3
  rw [if_pos rfl] at H
  obtain rfl := Option.some.inj H
  go_wp2
  go_ret
  exact ⟨er_, pb_ HB.out⟩
 replace c3 := bf_ c3
 subst c3
 rw [if_neg ff_] at H
 replace H := Option.bind_eq_some_iff.mp H
 obtain ⟨⟨t572, t573, t574, t575⟩, A40, H⟩ := H
 (try dsimp only at H)
 have A4 := Q_ A40
 clear A40
 replace H := Option.bind_eq_some_iff.mp H
 obtain ⟨t580, A50, H⟩ := H
 (try dsimp only at H)
 have A5 := Q_ A50
 clear A50
 have HC6 := Q_ H
 clear H
 go_upto_region 5 with (first | ((with_reducible refine gate_callee (f := 6) rfl ?_); refine gl_ (some 18) Try.func6 #[.slice A0 l0.length c0] ?_; (with_reducible refine (spec_DrawRemember.calls k _ _ l0 t572 t573 t574 t575 _ ?side1 ?side2 A4.out).mono ?_); (case side1 => exact pc_ (Kd.C_below HR0.out (pb_ HB.out))); (case side2 => exact HC0.out); rintro e w7 ⟨v576, v578, rfl, ho0, ho1, hb⟩; refine ⟨_, rfl, ?_⟩; have _ := Q_ (Kd.S_lower ho0 (below_size (pb_ HB.out))); have _ := Q_ (Kd.R_lower ho1 (below_size (pb_ HB.out))); have _ := Q_ (below_step (pb_ HB.out) hb); clear HB; rename_i HO577 HO579 HB; (try clear hb); (try clear hb2); (try clear hk); (try clear hi); (try clear ho0); (try clear ho1); obtain ⟨Ao8, co8, eo8⟩ := Kd.S_slice HO577.out; subst eo8; obtain ⟨Ao9, co9, eo9⟩ := Kd.R_slice HO579.out; subst eo9) | ((with_reducible refine gate_callee (f := 7) rfl ?_); refine gl_ (some 27) Try.func7 #[.slice Ao8 t572.length co8, .int .i64 t573, .slice Ao9 t574.length co9, .int .i64 t575] ?_; (with_reducible refine (impl_Remember.calls k _ _ t572 t573 _ _ t574 t575 t580 _ ?side1 ?side2 ?side3 ?side4 A5.out).mono ?_); (case side1 => exact pc_ ((Kd.S_reads' HO577.out).2.2)); (case side2 => exact (Kd.S_reads' HO577.out).2.1); (case side3 => exact pc_ ((Kd.R_reads' HO579.out).2.2)); (case side4 => exact (Kd.R_reads' HO579.out).2.1); rintro e w10 ⟨v581, rfl, ho0, hb⟩; refine ⟨_, rfl, ?_⟩; have _ := Q_ (Kd.S_elder' (ps_ HO577.out) (Kd.S_base ho0) hb); have _ := Q_ (Kd.R_below (pr_ HO579.out) hb); have _ := Q_ (Kd.S_lower (Kd.S_new' (Kd.S_new' ho0 (Kd.S_lt (ps_ HO577.out))) (Kd.R_lt (pr_ HO579.out))) (below_size (pb_ HB.out))); have _ := Q_ (below_step (pb_ HB.out) hb); clear HO577 HO579 HB; rename_i HO577 HO579 HO582 HB; (try clear hb); (try clear hb2); (try clear hk); (try clear hi); (try clear ho0)))
 (try simp only [Act.put, List.setIfInBounds_toArray, List.set_cons_zero, List.set_cons_succ])
 go_cut [37] (fun v37 wc => ∃ (kq : Nat) (x37_5 : Bool), v37 = .bool x37_5 ∧ Aside0 (laws_FnMemory.j0 kq l0 t572 t573 t574 t575 t580 x37_5 = some r) ∧ Aside0 (kq ≤ k) ∧ Aside0 (Kd.S k61 61 wc w.heap.size (fun k_ => some k_ ≠ ((.slice Ao9 t574.length co9) : Value).ownBlock ∧ some k_ ≠ (v581 : Value).ownBlock) (.slice Ao8 t572.length co8) t572) ∧ Aside0 (Kd.R (Kd.int .i64) 3 wc w.heap.size (fun _ => True) (.slice Ao9 t574.length co9) t574) ∧ Aside0 (Kd.S k61 61 wc w.heap.size (fun k_ => some k_ ≠ ((.slice Ao8 t572.length co8) : Value).ownBlock ∧ some k_ ≠ ((.slice Ao9 t574.length co9) : Value).ownBlock) v581 t580) ∧ Aside0 (Below w.heap.size w wc))
 case first =>
  have H := HC6.out
  clear HC6
  by_cases c11 : t573 ≥ 0
  rotate_left
  ·rw [if_neg c11] at H
   have c11b0 : decide (0 ≤ t573) = false := decide_eq_false c11
   clear c11
   (first | rw [c11b0] | (simp only [i64_w, i32_w]; rw [c11b0]) | skip)
   have H' := Q_ H
   clear H
   go_wp2
   go_meet
   case rel => exact ⟨_, (false), el_, H', ⟨by first | omega | exact Nat.le_refl _⟩, ⟨ps_ HO577.out⟩, ⟨pr_ HO579.out⟩, ⟨by (with_reducible repeat (first | apply Kd.S_alloc | apply Kd.S_drewN | apply Kd.S_drew)); exact Kd.S_mono HO582.out (fun _ hk => ⟨hk.1.2, hk.2⟩)⟩, ⟨pb_ HB.out⟩⟩
  rw [if_pos c11] at H
  have c11b0 : decide (0 ≤ t573) = true := decide_eq_true c11
  clear c11
  (first | rw [c11b0] | (simp only [i64_w, i32_w]; rw [c11b0]) | skip)
  by_cases c12 : t573 < 6
  rotate_left
  ·rw [if_neg c12] at H
   have c12b0 : decide (t573 < 6) = false := decide_eq_false c12
   clear c12
   have H' := Q_ H
   clear H
   go_wp2
   go_meet
   case rel => exact ⟨_, (false), el_, H', ⟨by first | omega | exact Nat.le_refl _⟩, ⟨ps_ HO577.out⟩, ⟨pr_ HO579.out⟩, ⟨by (with_reducible repeat (first | apply Kd.S_alloc | apply Kd.S_drewN | apply Kd.S_drew)); exact Kd.S_mono HO582.out (fun _ hk => ⟨hk.1.2, hk.2⟩)⟩, ⟨pb_ HB.out⟩⟩
  rw [if_pos c12] at H
  have c12b0 : decide (t573 < 6) = true := decide_eq_true c12
  clear c12
  have H' := Q_ H
  clear H
  go_wp2
  go_meet
  case rel => exact ⟨_, (decide (t575 ≥ 0)), el_, H', ⟨by first | omega | exact Nat.le_refl _⟩, ⟨ps_ HO577.out⟩, ⟨pr_ HO579.out⟩, ⟨by (with_reducible repeat (first | apply Kd.S_alloc | apply Kd.S_drewN | apply Kd.S_drew)); exact Kd.S_mono HO582.out (fun _ hk => ⟨hk.1.2, hk.2⟩)⟩, ⟨pb_ HB.out⟩⟩
 clear HC6
 try clear c1
 try clear p2
 try clear c3
 try clear c5
 try clear c6
 try clear c7
 try clear c11
 try clear c11b0
 try clear c12
 try clear c12b0
 obtain ⟨kq, x37_5, rfl, HA, HJ5, HO_3, HO_5, HO_7, HB⟩ := hcut
 rcases kq with _ | kj5
 ·exact absurd HA.out (by simp [laws_FnMemory.j0])
 have H := HA.out
 clear HA
 simp only [laws_FnMemory.j0] at H
 have HC13 := Q_ H
 clear H
 go_upto_if 37 with (fail)
 go_cut [] (fun wc => ∃ (kq : Nat), Aside0 (laws_FnMemory.j1 kq l0 = some r) ∧ Aside0 (kq ≤ kj5) ∧ Aside0 (Below w.heap.size w wc))
 case first =>
  have H := HC13.out
  clear HC13
  by_cases c14 : x37_5 = true
  rotate_left
  ·replace c14 := bf_ c14
   subst c14
   rw [if_neg ff_] at H
   have H' := Q_ H
   clear H
   go_wp2
   go_meet
   case rel => exact ⟨_, H', ⟨by have := HJ5.out; first | omega | exact Nat.le_refl _⟩, ⟨pb_ HB.out⟩⟩
  subst c14
  rw [if_pos rfl] at H
  replace H := Option.bind_eq_some_iff.mp H
  obtain ⟨t583, A150, H⟩ := H
  (try dsimp only at H)
  have A15 := Q_ A150
  clear A150
  replace H := Option.bind_eq_some_iff.mp H
  obtain ⟨t586, A160, H⟩ := H
  (try dsimp only at H)
  have A16 := Q_ A160
  clear A160
  by_cases c17 : t586 = true
  rotate_left
  ·replace c17 := bf_ c17
   subst c17
   rw [if_neg ff_] at H
   obtain rfl := Option.some.inj H
   obtain ⟨Ao18, co18, eo18⟩ := Kd.S_slice HO_7.out
   subst eo18
   go_wp2_with (first | ((with_reducible refine gate_callee (f := 9) rfl ?_); refine gl_ (some 41) Try.func9 #[.slice Ao18 t580.length co18, .int .i64 t573, .int .i64 t575] ?_; (with_reducible refine (impl_Recall.calls kj5 _ _ t580 t573 t575 t583 _ ?side1 ?side2 A15.out).mono ?_); (case side1 => exact pc_ ((Kd.S_reads' HO_7.out).2.2)); (case side2 => exact (Kd.S_reads' HO_7.out).2.1); rintro e w19 ⟨v584, rfl, ho0, hb⟩; refine ⟨_, rfl, ?_⟩; have _ := Q_ (Kd.S_elder' (ps_ HO_3.out) (Kd.R_base ho0) hb); have _ := Q_ (Kd.R_elder' (pr_ HO_5.out) (Kd.R_base ho0) hb); have _ := Q_ (Kd.S_elder' (ps_ HO_7.out) (Kd.R_base ho0) hb); have _ := Q_ (Kd.R_lower (Kd.R_new' ho0 (Kd.R_lt (pr_ HO_5.out))) (below_size (pb_ HB.out))); have _ := Q_ (below_step (pb_ HB.out) hb); clear HO_3 HO_5 HO_7 HB; rename_i HO_3 HO_5 HO_7 HO585 HB; (try clear hb); (try clear hb2); (try clear hk); (try clear hi); (try clear ho0); obtain ⟨Ao20, co20, eo20⟩ := Kd.R_slice HO585.out; subst eo20) | ((with_reducible refine gate_callee (f := 8) rfl ?_); refine gl_ (some 43) Try.func8 #[.slice Ao20 t583.length co20, .slice Ao9 t574.length co9] ?_; (with_reducible refine (impl_EqualInts.calls kj5 _ _ t583 _ _ t574 false _ ?side1 ?side2 ?side3 ?side4 A16.out).mono ?_); (case side1 => exact pc_ ((Kd.R_reads' HO585.out).2.2)); (case side2 => exact (Kd.R_reads' HO585.out).2.1); (case side3 => exact pc_ ((Kd.R_reads' HO_5.out).2.2)); (case side4 => exact (Kd.R_reads' HO_5.out).2.1); rintro e w' ⟨rfl, ⟨nd, rfl⟩⟩; refine ⟨_, rfl, ?_⟩))
   go_ret
   exact ⟨er_, pb_ HB.out⟩
  subst c17
  rw [if_pos rfl] at H
  replace H := Option.bind_eq_some_iff.mp H
  obtain ⟨t587, A210, H⟩ := H
  (try dsimp only at H)
  have A21 := Q_ A210
  clear A210
  replace H := Option.bind_eq_some_iff.mp H
  obtain ⟨t590, A220, H⟩ := H
  (try dsimp only at H)
  have A22 := Q_ A220
  clear A220
  by_cases c23 : t590 = true
  rotate_left
  ·replace c23 := bf_ c23
   subst c23
   rw [if_neg ff_] at H
   obtain rfl := Option.some.inj H
   obtain ⟨Ao24, co24, eo24⟩ := Kd.S_slice HO_7.out
   subst eo24
   go_wp2_with (first | ((with_reducible refine gate_callee (f := 9) rfl ?_); refine gl_ (some 41) Try.func9 #[.slice Ao24 t580.length co24, .int .i64 t573, .int .i64 t575] ?_; (with_reducible refine (impl_Recall.calls kj5 _ _ t580 t573 t575 t583 _ ?side1 ?side2 A15.out).mono ?_); (case side1 => exact pc_ ((Kd.S_reads' HO_7.out).2.2)); (case side2 => exact (Kd.S_reads' HO_7.out).2.1); rintro e w25 ⟨v584, rfl, ho0, hb⟩; refine ⟨_, rfl, ?_⟩; have _ := Q_ (Kd.S_elder' (ps_ HO_3.out) (Kd.R_base ho0) hb); have _ := Q_ (Kd.R_elder' (pr_ HO_5.out) (Kd.R_base ho0) hb); have _ := Q_ (Kd.S_elder' (ps_ HO_7.out) (Kd.R_base ho0) hb); have _ := Q_ (Kd.R_lower (Kd.R_new' ho0 (Kd.R_lt (pr_ HO_5.out))) (below_size (pb_ HB.out))); have _ := Q_ (below_step (pb_ HB.out) hb); clear HO_3 HO_5 HO_7 HB; rename_i HO_3 HO_5 HO_7 HO585 HB; (try clear hb); (try clear hb2); (try clear hk); (try clear hi); (try clear ho0); obtain ⟨Ao26, co26, eo26⟩ := Kd.R_slice HO585.out; subst eo26) | ((with_reducible refine gate_callee (f := 8) rfl ?_); refine gl_ (some 43) Try.func8 #[.slice Ao26 t583.length co26, .slice Ao9 t574.length co9] ?_; (with_reducible refine (impl_EqualInts.calls kj5 _ _ t583 _ _ t574 true _ ?side1 ?side2 ?side3 ?side4 A16.out).mono ?_); (case side1 => exact pc_ ((Kd.R_reads' HO585.out).2.2)); (case side2 => exact (Kd.R_reads' HO585.out).2.1); (case side3 => exact pc_ ((Kd.R_reads' HO_5.out).2.2)); (case side4 => exact (Kd.R_reads' HO_5.out).2.1); rintro e w' ⟨rfl, ⟨nd, rfl⟩⟩; refine ⟨_, rfl, ?_⟩) | (go_at_call 9; (with_reducible refine (impl_Recall.calls kj5 _ _ t580 t573 (wrap64 (t575 + 20)) t587 _ ?side1 ?side2 A21.out).mono ?_); (case side1 => exact pc_ ((Kd.S_reads' HO_7.out).2.2)); (case side2 => exact (Kd.S_reads' HO_7.out).2.1); rintro e w27 ⟨v588, rfl, ho0, hb⟩; have _ := Q_ (Kd.S_elder' (ps_ HO_3.out) (Kd.R_base ho0) hb); have _ := Q_ (Kd.R_elder' (pr_ HO_5.out) (Kd.R_base ho0) hb); have _ := Q_ (Kd.S_elder' (ps_ HO_7.out) (Kd.R_base ho0) hb); have _ := Q_ (Kd.R_elder' (pr_ HO585.out) (Kd.R_base ho0) hb); have _ := Q_ (Kd.R_lower (Kd.R_new' (Kd.R_new' ho0 (Kd.R_lt (pr_ HO_5.out))) (Kd.R_lt (pr_ HO585.out))) (below_size (pb_ HB.out))); have _ := Q_ (below_step (pb_ HB.out) hb); clear HO_3 HO_5 HO_7 HO585 HB; rename_i HO_3 HO_5 HO_7 HO585 HO589 HB; (try clear hb); (try clear hb2); (try clear hk); (try clear hi); (try clear ho0); obtain ⟨Ao28, co28, eo28⟩ := Kd.R_slice HO589.out; subst eo28) | (go_at_call 8; (with_reducible refine (impl_EqualInts.calls kj5 _ _ t587 _ _ t574 false _ ?side1 ?side2 ?side3 ?side4 A22.out).mono ?_); (case side1 => exact pc_ ((Kd.R_reads' HO589.out).2.2)); (case side2 => exact (Kd.R_reads' HO589.out).2.1); (case side3 => exact pc_ ((Kd.R_reads' HO_5.out).2.2)); (case side4 => exact (Kd.R_reads' HO_5.out).2.1); rintro e w' ⟨rfl, ⟨nd, rfl⟩⟩))
   go_ret
   exact ⟨er_, pb_ HB.out⟩
  subst c23
  rw [if_pos rfl] at H
  replace H := Option.bind_eq_some_iff.mp H
  obtain ⟨t591, A290, H⟩ := H
  (try dsimp only at H)
  have A29 := Q_ A290
  clear A290
  by_cases c30 : (t591.length : Int) > 0
  ·rw [if_pos c30] at H
   have c30b0 : decide (0 < (t591.length : Int)) = true := decide_eq_true c30
   have c30b1 : decide (0 < t591.length) = true := decide_eq_true (by omega)
   clear c30
   (first | rw [c30b0] | (simp only [i64_w, i32_w]; rw [c30b0]) | rw [c30b1] | skip)
   obtain rfl := Option.some.inj H
   obtain ⟨Ao31, co31, eo31⟩ := Kd.S_slice HO_7.out
   subst eo31
   go_wp2_with (first | ((with_reducible refine gate_callee (f := 9) rfl ?_); refine gl_ (some 41) Try.func9 #[.slice Ao31 t580.length co31, .int .i64 t573, .int .i64 t575] ?_; (with_reducible refine (impl_Recall.calls kj5 _ _ t580 t573 t575 t583 _ ?side1 ?side2 A15.out).mono ?_); (case side1 => exact pc_ ((Kd.S_reads' HO_7.out).2.2)); (case side2 => exact (Kd.S_reads' HO_7.out).2.1); rintro e w32 ⟨v584, rfl, ho0, hb⟩; refine ⟨_, rfl, ?_⟩; have _ := Q_ (Kd.S_elder' (ps_ HO_3.out) (Kd.R_base ho0) hb); have _ := Q_ (Kd.R_elder' (pr_ HO_5.out) (Kd.R_base ho0) hb); have _ := Q_ (Kd.S_elder' (ps_ HO_7.out) (Kd.R_base ho0) hb); have _ := Q_ (Kd.R_lower (Kd.R_new' ho0 (Kd.R_lt (pr_ HO_5.out))) (below_size (pb_ HB.out))); have _ := Q_ (below_step (pb_ HB.out) hb); clear HO_3 HO_5 HO_7 HB; rename_i HO_3 HO_5 HO_7 HO585 HB; (try clear hb); (try clear hb2); (try clear hk); (try clear hi); (try clear ho0); obtain ⟨Ao33, co33, eo33⟩ := Kd.R_slice HO585.out; subst eo33) | ((with_reducible refine gate_callee (f := 8) rfl ?_); refine gl_ (some 43) Try.func8 #[.slice Ao33 t583.length co33, .slice Ao9 t574.length co9] ?_; (with_reducible refine (impl_EqualInts.calls kj5 _ _ t583 _ _ t574 true _ ?side1 ?side2 ?side3 ?side4 A16.out).mono ?_); (case side1 => exact pc_ ((Kd.R_reads' HO585.out).2.2)); (case side2 => exact (Kd.R_reads' HO585.out).2.1); (case side3 => exact pc_ ((Kd.R_reads' HO_5.out).2.2)); (case side4 => exact (Kd.R_reads' HO_5.out).2.1); rintro e w' ⟨rfl, ⟨nd, rfl⟩⟩; refine ⟨_, rfl, ?_⟩) | (go_at_call 9; (with_reducible refine (impl_Recall.calls kj5 _ _ t580 t573 (wrap64 (t575 + 20)) t587 _ ?side1 ?side2 A21.out).mono ?_); (case side1 => exact pc_ ((Kd.S_reads' HO_7.out).2.2)); (case side2 => exact (Kd.S_reads' HO_7.out).2.1); rintro e w34 ⟨v588, rfl, ho0, hb⟩; have _ := Q_ (Kd.S_elder' (ps_ HO_3.out) (Kd.R_base ho0) hb); have _ := Q_ (Kd.R_elder' (pr_ HO_5.out) (Kd.R_base ho0) hb); have _ := Q_ (Kd.S_elder' (ps_ HO_7.out) (Kd.R_base ho0) hb); have _ := Q_ (Kd.R_elder' (pr_ HO585.out) (Kd.R_base ho0) hb); have _ := Q_ (Kd.R_lower (Kd.R_new' (Kd.R_new' ho0 (Kd.R_lt (pr_ HO_5.out))) (Kd.R_lt (pr_ HO585.out))) (below_size (pb_ HB.out))); have _ := Q_ (below_step (pb_ HB.out) hb); clear HO_3 HO_5 HO_7 HO585 HB; rename_i HO_3 HO_5 HO_7 HO585 HO589 HB; (try clear hb); (try clear hb2); (try clear hk); (try clear hi); (try clear ho0); obtain ⟨Ao35, co35, eo35⟩ := Kd.R_slice HO589.out; subst eo35) | (go_at_call 8; (with_reducible refine (impl_EqualInts.calls kj5 _ _ t587 _ _ t574 true _ ?side1 ?side2 ?side3 ?side4 A22.out).mono ?_); (case side1 => exact pc_ ((Kd.R_reads' HO589.out).2.2)); (case side2 => exact (Kd.R_reads' HO589.out).2.1); (case side3 => exact pc_ ((Kd.R_reads' HO_5.out).2.2)); (case side4 => exact (Kd.R_reads' HO_5.out).2.1); rintro e w' ⟨rfl, ⟨nd, rfl⟩⟩) | (go_at_call 9; (with_reducible refine (impl_Recall.calls kj5 _ _ t580 t573 (wrap64 ((wrap64 (t575 + 20)) + 1)) t591 _ ?side1 ?side2 A29.out).mono ?_); (case side1 => exact pc_ ((Kd.S_reads' HO_7.out).2.2)); (case side2 => exact (Kd.S_reads' HO_7.out).2.1); rintro e w36 ⟨v592, rfl, ho0, hb⟩; have _ := Q_ (Kd.S_elder' (ps_ HO_3.out) (Kd.R_base ho0) hb); have _ := Q_ (Kd.R_elder' (pr_ HO_5.out) (Kd.R_base ho0) hb); have _ := Q_ (Kd.S_elder' (ps_ HO_7.out) (Kd.R_base ho0) hb); have _ := Q_ (Kd.R_elder' (pr_ HO585.out) (Kd.R_base ho0) hb); have _ := Q_ (Kd.R_elder' (pr_ HO589.out) (Kd.R_base ho0) hb); have _ := Q_ (Kd.R_lower (Kd.R_new' (Kd.R_new' (Kd.R_new' ho0 (Kd.R_lt (pr_ HO_5.out))) (Kd.R_lt (pr_ HO585.out))) (Kd.R_lt (pr_ HO589.out))) (below_size (pb_ HB.out))); have _ := Q_ (below_step (pb_ HB.out) hb); clear HO_3 HO_5 HO_7 HO585 HO589 HB; rename_i HO_3 HO_5 HO_7 HO585 HO589 HO593 HB; (try clear hb); (try clear hb2); (try clear hk); (try clear hi); (try clear ho0); obtain ⟨Ao37, co37, eo37⟩ := Kd.R_slice HO593.out; subst eo37))
   go_ret
   exact ⟨er_, pb_ HB.out⟩
  rw [if_neg c30] at H
  have c30b0 : decide (0 < (t591.length : Int)) = false := decide_eq_false c30
  have c30b1 : decide (0 < t591.length) = false := decide_eq_false (by omega)
  clear c30
  (first | rw [c30b0] | (simp only [i64_w, i32_w]; rw [c30b0]) | rw [c30b1] | skip)
  have HS_ := Q_ H
  clear H
  obtain ⟨Ao38, co38, eo38⟩ := Kd.S_slice HO_7.out
  subst eo38
  go_upto_if 72 with (first | ((with_reducible refine gate_callee (f := 9) rfl ?_); refine gl_ (some 41) Try.func9 #[.slice Ao38 t580.length co38, .int .i64 t573, .int .i64 t575] ?_; (with_reducible refine (impl_Recall.calls kj5 _ _ t580 t573 t575 t583 _ ?side1 ?side2 A15.out).mono ?_); (case side1 => exact pc_ ((Kd.S_reads' HO_7.out).2.2)); (case side2 => exact (Kd.S_reads' HO_7.out).2.1); rintro e w39 ⟨v584, rfl, ho0, hb⟩; refine ⟨_, rfl, ?_⟩; have _ := Q_ (Kd.S_elder' (ps_ HO_3.out) (Kd.R_base ho0) hb); have _ := Q_ (Kd.R_elder' (pr_ HO_5.out) (Kd.R_base ho0) hb); have _ := Q_ (Kd.S_elder' (ps_ HO_7.out) (Kd.R_base ho0) hb); have _ := Q_ (Kd.R_lower (Kd.R_new' ho0 (Kd.R_lt (pr_ HO_5.out))) (below_size (pb_ HB.out))); have _ := Q_ (below_step (pb_ HB.out) hb); clear HO_3 HO_5 HO_7 HB; rename_i HO_3 HO_5 HO_7 HO585 HB; (try clear hb); (try clear hb2); (try clear hk); (try clear hi); (try clear ho0); obtain ⟨Ao40, co40, eo40⟩ := Kd.R_slice HO585.out; subst eo40) | ((with_reducible refine gate_callee (f := 8) rfl ?_); refine gl_ (some 43) Try.func8 #[.slice Ao40 t583.length co40, .slice Ao9 t574.length co9] ?_; (with_reducible refine (impl_EqualInts.calls kj5 _ _ t583 _ _ t574 true _ ?side1 ?side2 ?side3 ?side4 A16.out).mono ?_); (case side1 => exact pc_ ((Kd.R_reads' HO585.out).2.2)); (case side2 => exact (Kd.R_reads' HO585.out).2.1); (case side3 => exact pc_ ((Kd.R_reads' HO_5.out).2.2)); (case side4 => exact (Kd.R_reads' HO_5.out).2.1); rintro e w' ⟨rfl, ⟨nd, rfl⟩⟩; refine ⟨_, rfl, ?_⟩) | (go_at_call 9; (with_reducible refine (impl_Recall.calls kj5 _ _ t580 t573 (wrap64 (t575 + 20)) t587 _ ?side1 ?side2 A21.out).mono ?_); (case side1 => exact pc_ ((Kd.S_reads' HO_7.out).2.2)); (case side2 => exact (Kd.S_reads' HO_7.out).2.1); rintro e w41 ⟨v588, rfl, ho0, hb⟩; have _ := Q_ (Kd.S_elder' (ps_ HO_3.out) (Kd.R_base ho0) hb); have _ := Q_ (Kd.R_elder' (pr_ HO_5.out) (Kd.R_base ho0) hb); have _ := Q_ (Kd.S_elder' (ps_ HO_7.out) (Kd.R_base ho0) hb); have _ := Q_ (Kd.R_elder' (pr_ HO585.out) (Kd.R_base ho0) hb); have _ := Q_ (Kd.R_lower (Kd.R_new' (Kd.R_new' ho0 (Kd.R_lt (pr_ HO_5.out))) (Kd.R_lt (pr_ HO585.out))) (below_size (pb_ HB.out))); have _ := Q_ (below_step (pb_ HB.out) hb); clear HO_3 HO_5 HO_7 HO585 HB; rename_i HO_3 HO_5 HO_7 HO585 HO589 HB; (try clear hb); (try clear hb2); (try clear hk); (try clear hi); (try clear ho0); obtain ⟨Ao42, co42, eo42⟩ := Kd.R_slice HO589.out; subst eo42) | (go_at_call 8; (with_reducible refine (impl_EqualInts.calls kj5 _ _ t587 _ _ t574 true _ ?side1 ?side2 ?side3 ?side4 A22.out).mono ?_); (case side1 => exact pc_ ((Kd.R_reads' HO589.out).2.2)); (case side2 => exact (Kd.R_reads' HO589.out).2.1); (case side3 => exact pc_ ((Kd.R_reads' HO_5.out).2.2)); (case side4 => exact (Kd.R_reads' HO_5.out).2.1); rintro e w' ⟨rfl, ⟨nd, rfl⟩⟩) | (go_at_call 9; (with_reducible refine (impl_Recall.calls kj5 _ _ t580 t573 (wrap64 ((wrap64 (t575 + 20)) + 1)) t591 _ ?side1 ?side2 A29.out).mono ?_); (case side1 => exact pc_ ((Kd.S_reads' HO_7.out).2.2)); (case side2 => exact (Kd.S_reads' HO_7.out).2.1); rintro e w43 ⟨v592, rfl, ho0, hb⟩; have _ := Q_ (Kd.S_elder' (ps_ HO_3.out) (Kd.R_base ho0) hb); have _ := Q_ (Kd.R_elder' (pr_ HO_5.out) (Kd.R_base ho0) hb); have _ := Q_ (Kd.S_elder' (ps_ HO_7.out) (Kd.R_base ho0) hb); have _ := Q_ (Kd.R_elder' (pr_ HO585.out) (Kd.R_base ho0) hb); have _ := Q_ (Kd.R_elder' (pr_ HO589.out) (Kd.R_base ho0) hb); have _ := Q_ (Kd.R_lower (Kd.R_new' (Kd.R_new' (Kd.R_new' ho0 (Kd.R_lt (pr_ HO_5.out))) (Kd.R_lt (pr_ HO585.out))) (Kd.R_lt (pr_ HO589.out))) (below_size (pb_ HB.out))); have _ := Q_ (below_step (pb_ HB.out) hb); clear HO_3 HO_5 HO_7 HO585 HO589 HB; rename_i HO_3 HO_5 HO_7 HO585 HO589 HO593 HB; (try clear hb); (try clear hb2); (try clear hk); (try clear hi); (try clear ho0); obtain ⟨Ao44, co44, eo44⟩ := Kd.R_slice HO593.out; subst eo44))
  (try simp only [Act.put, List.setIfInBounds_toArray, List.set_cons_zero, List.set_cons_succ])
  have H := HS_.out
  clear HS_
  by_cases c45 : (t580.length : Int) > (wrap64 ((t572.length : Int) + 1))
  rotate_left
  ·rw [if_neg c45] at H
   have c45b0 : decide ((wrap64 ((t572.length : Int) + 1)) < (t580.length : Int)) = false := decide_eq_false c45
   clear c45
   (first | rw [c45b0] | (simp only [i64_w, i32_w]; rw [c45b0]) | skip)
   have H' := Q_ H
   clear H
   go_wp2
   go_meet
   case rel => exact ⟨_, H', ⟨by have := HJ5.out; first | omega | exact Nat.le_refl _⟩, ⟨pb_ HB.out⟩⟩
  rw [if_pos c45] at H
  have c45b0 : decide ((wrap64 ((t572.length : Int) + 1)) < (t580.length : Int)) = true := decide_eq_true c45
  clear c45
  (first | rw [c45b0] | (simp only [i64_w, i32_w]; rw [c45b0]) | skip)
  obtain rfl := Option.some.inj H
  go_wp2
  go_ret
  exact ⟨er_, pb_ HB.out⟩
 clear HC13
 try clear c1
 try clear c2
 try clear p2
 try clear c3
 try clear c4
 try clear c5
 try clear c6
 try clear p6
 try clear c7
 try clear c8
 try clear c9
 try clear c11
 try clear c11b0
 try clear c12
 try clear c12b0
 try clear c14
 try clear c17
 try clear c23
 try clear c30
 try clear c30b0
 try clear c30b1
 try clear c45
 try clear c45b0
 try clear p2
 obtain ⟨kq, HA, HJ12, HB⟩ := hcut
 rcases kq with _ | kj12
 ·exact absurd HA.out (by simp [laws_FnMemory.j1])
 have H := HA.out
 clear HA
 simp only [laws_FnMemory.j1] at H
 replace H := Option.bind_eq_some_iff.mp H
 obtain ⟨⟨t594, t595⟩, A460, H⟩ := H
 (try dsimp only at H)
 have A46 := Q_ A460
 clear A460
 replace H := Option.bind_eq_some_iff.mp H
 obtain ⟨t598, A470, H⟩ := H
 replace H : (laws_FnMemory.l0 kj12 l0 t594 t595 t598 0) = some r := H
 have A47 := Q_ A470
 clear A470
 have H' := Q_ H
 clear H
 go_wp2_with (first | ((with_reducible refine gate_callee (f := 10) rfl ?_); refine gl_ (some 75) Try.func10 #[.slice A0 l0.length c0] ?_; (with_reducible refine (spec_DrawForgetOld.calls kj12 _ _ l0 t594 t595 _ ?side1 ?side2 A46.out).mono ?_); (case side1 => exact cb_ HR0 HB); (case side2 => exact HC0.out); rintro e w48 ⟨v596, rfl, ho0, hb⟩; refine ⟨_, rfl, ?_⟩; have _ := Q_ (Kd.S_lower ho0 (below_size (pb_ HB.out))); have _ := Q_ (below_step (pb_ HB.out) hb); clear HB; rename_i HO597 HB; (try clear hb); (try clear hb2); (try clear hk); (try clear hi); (try clear ho0); obtain ⟨Ao49, co49, eo49⟩ := Kd.S_slice HO597.out; subst eo49) | ((with_reducible refine gate_callee (f := 11) rfl ?_); refine gl_ (some 80) Try.func11 #[.slice Ao49 t594.length co49, .int .i64 t595] ?_; (with_reducible refine (impl_ForgetOld.calls kj12 _ _ t594 t595 t598 _ ?side1 ?side2 A47.out).mono ?_); (case side1 => exact pc_ ((Kd.S_reads' HO597.out).2.2)); (case side2 => exact (Kd.S_reads' HO597.out).2.1); rintro e w50 ⟨v599, rfl, ho0, hb⟩; refine ⟨_, rfl, ?_⟩; have _ := Q_ (Kd.S_elder' (ps_ HO597.out) (Kd.S_base ho0) hb); have _ := Q_ (Kd.S_lower (Kd.S_new' ho0 (Kd.S_lt (ps_ HO597.out))) (below_size (pb_ HB.out))); have _ := Q_ (below_step (pb_ HB.out) hb); clear HO597 HB; rename_i HO597 HO600 HB; (try clear hb); (try clear hb2); (try clear hk); (try clear hi); (try clear ho0)))
 (try simp only [Act.put, List.setIfInBounds_toArray, List.set_cons_zero, List.set_cons_succ])
 go_loopg [11] kj12 (fun kq v11 w' => ∃ (x11_3 : Int), v11 = .int .i64 x11_3 ∧ Aside0 (laws_FnMemory.l0 kq l0 t594 t595 t598 x11_3 = some r) ∧ Aside0 (kq ≤ kj12) ∧ Aside0 (Kd.S k61 61 w' w.heap.size (fun k_ => some k_ ≠ (v599 : Value).ownBlock) (.slice Ao49 t594.length co49) t594) ∧ Aside0 (Kd.S k61 61 w' w.heap.size (fun k_ => some k_ ≠ ((.slice Ao49 t594.length co49) : Value).ownBlock) v599 t598) ∧ Aside0 (Below w.heap.size w w'))
 case atStart => exact ⟨(0), el_, H', ⟨Nat.le_refl _⟩, ⟨ps_ (Kd.S_mono HO597.out (fun _ hk => hk.2))⟩, ⟨ps_ (Kd.S_mono HO600.out (fun _ hk => hk.2))⟩, ⟨pb_ HB.out⟩⟩
 clear H'
 try clear c1
 try clear c2
 try clear p2
 try clear c3
 try clear c4
 try clear c5
 try clear c6
 try clear p6
 try clear c7
 try clear c8
 try clear c9
 try clear c10
 try clear c11
 try clear c11b0
 try clear c12
 try clear c12b0
 try clear c14
 try clear c17
 try clear c23
 try clear c30
 try clear c30b0
 try clear c30b1
 try clear c45
 try clear c45b0
 try clear p2
 try clear p6
 obtain ⟨x11_3, rfl, HA, HK3, HO_8, HO_10, HB⟩ := hrel
 rcases gk with _ | k3
 ·exact absurd HA.out (by simp [laws_FnMemory.l0])
 have H := HA.out
 clear HA
 simp only [laws_FnMemory.l0] at H
 by_cases c51 : x11_3 < 6
 ·rw [if_pos c51] at H
  have c51b0 : decide (x11_3 < 6) = true := decide_eq_true c51
  clear c51
  replace H := Option.bind_eq_some_iff.mp H
  obtain ⟨t607, A520, H⟩ := H
  (try dsimp only at H)
  have A52 := Q_ A520
  clear A520
  replace H := Option.bind_eq_some_iff.mp H
  obtain ⟨t610, A530, H⟩ := H
  (try dsimp only at H)
  have A53 := Q_ A530
  clear A530
  replace H := Option.bind_eq_some_iff.mp H
  obtain ⟨t613, A540, H⟩ := H
  (try dsimp only at H)
  have A54 := Q_ A540
  clear A540
  have HS_ := Q_ H
  clear H
  obtain ⟨Ao55, co55, eo55⟩ := Kd.S_slice HO_10.out
  subst eo55
  go_upto_if 94 with (first | ((with_reducible refine gate_callee (f := 9) rfl ?_); refine gl_ (some 88) Try.func9 #[.slice Ao55 t598.length co55, .int .i64 x11_3, .int .i64 t595] ?_; (with_reducible refine (impl_Recall.calls k3 _ _ t598 x11_3 t595 t607 _ ?side1 ?side2 A52.out).mono ?_); (case side1 => exact pc_ ((Kd.S_reads' HO_10.out).2.2)); (case side2 => exact (Kd.S_reads' HO_10.out).2.1); rintro e w56 ⟨v608, rfl, ho0, hb⟩; refine ⟨_, rfl, ?_⟩; have _ := Q_ (Kd.S_elder' (ps_ HO_8.out) (Kd.R_base ho0) hb); have _ := Q_ (Kd.S_elder' (ps_ HO_10.out) (Kd.R_base ho0) hb); have _ := Q_ (Kd.R_lower ho0 (below_size (pb_ HB.out))); have _ := Q_ (below_step (pb_ HB.out) hb); clear HO_8 HO_10 HB; rename_i HO_8 HO_10 HO609 HB; (try clear hb); (try clear hb2); (try clear hk); (try clear hi); (try clear ho0)) | ((with_reducible refine gate_callee (f := 9) rfl ?_); refine gl_ (some 92) Try.func9 #[.slice Ao49 t594.length co49, .int .i64 x11_3, .int .i64 t595] ?_; (with_reducible refine (impl_Recall.calls k3 _ _ t594 x11_3 t595 t610 _ ?side1 ?side2 A53.out).mono ?_); (case side1 => exact pc_ ((Kd.S_reads' HO_8.out).2.2)); (case side2 => exact (Kd.S_reads' HO_8.out).2.1); rintro e w57 ⟨v611, rfl, ho0, hb⟩; refine ⟨_, rfl, ?_⟩; have _ := Q_ (Kd.S_elder' (ps_ HO_8.out) (Kd.R_base ho0) hb); have _ := Q_ (Kd.S_elder' (ps_ HO_10.out) (Kd.R_base ho0) hb); have _ := Q_ (Kd.R_elder' (pr_ HO609.out) (Kd.R_base ho0) hb); have _ := Q_ (Kd.R_lower (Kd.R_new' ho0 (Kd.R_lt (pr_ HO609.out))) (below_size (pb_ HB.out))); have _ := Q_ (below_step (pb_ HB.out) hb); clear HO_8 HO_10 HO609 HB; rename_i HO_8 HO_10 HO609 HO612 HB; (try clear hb); (try clear hb2); (try clear hk); (try clear hi); (try clear ho0); obtain ⟨Ao58, co58, eo58⟩ := Kd.R_slice HO609.out; subst eo58; obtain ⟨Ao59, co59, eo59⟩ := Kd.R_slice HO612.out; subst eo59) | ((with_reducible refine gate_callee (f := 8) rfl ?_); refine gl_ (some 93) Try.func8 #[.slice Ao58 t607.length co58, .slice Ao59 t610.length co59] ?_; (with_reducible refine (impl_EqualInts.calls k3 _ _ t607 _ _ t610 t613 _ ?side1 ?side2 ?side3 ?side4 A54.out).mono ?_); (case side1 => exact pc_ ((Kd.R_reads' HO609.out).2.2)); (case side2 => exact (Kd.R_reads' HO609.out).2.1); (case side3 => exact pc_ ((Kd.R_reads' HO612.out).2.2)); (case side4 => exact (Kd.R_reads' HO612.out).2.1); rintro e w' ⟨rfl, ⟨nd, rfl⟩⟩; refine ⟨_, rfl, ?_⟩))
  (try simp only [Act.put, List.setIfInBounds_toArray, List.set_cons_zero, List.set_cons_succ])
  have H := HS_.out
  clear HS_
  by_cases c60 : t613 = true
  rotate_left
  ·replace c60 := bf_ c60
   subst c60
   rw [if_neg ff_] at H
   obtain rfl := Option.some.inj H
   go_wp2
   go_ret
   exact ⟨er_, pb_ HB.out⟩
  subst c60
  rw [if_pos rfl] at H
  have H' := Q_ H
  clear H
  go_wp2
  go_roundg k3
  case measure => have := HJ5.out; have := HJ12.out; have := HK3.out; omega
  case rel => exact ⟨(wrap64 (x11_3 + 1)), el_, H', ⟨by have := HJ5.out; have := HJ12.out; have := HK3.out; omega⟩, ⟨ps_ (Kd.S_mono HO_8.out (fun _ hk => hk.1.1))⟩, ⟨ps_ (Kd.S_mono HO_10.out (fun _ hk => hk.1.1))⟩, ⟨pb_ HB.out⟩⟩
 rw [if_neg c51] at H
 have c51b0 : decide (x11_3 < 6) = false := decide_eq_false c51
 clear c51
 replace H := Option.bind_eq_some_iff.mp H
 obtain ⟨⟨t601, t602⟩, A610, H⟩ := H
 (try dsimp only at H)
 have A61 := Q_ A610
 clear A610
 have HS_ := Q_ H
 clear H
 go_upto_region 16 with (first | ((with_reducible refine gate_callee (f := 12) rfl ?_); refine gl_ (some 97) Try.func12 #[.slice A0 l0.length c0] ?_; (with_reducible refine (spec_DrawIsMemory.calls k3 _ _ l0 t601 t602 _ ?side1 ?side2 A61.out).mono ?_); (case side1 => exact cb_ HR0 HB); (case side2 => exact HC0.out); rintro e w62 ⟨v603, rfl, ho0, hb⟩; refine ⟨_, rfl, ?_⟩; have _ := Q_ (Kd.S_elder' (ps_ HO_8.out) (Kd.S_base ho0) hb); have _ := Q_ (Kd.S_elder' (ps_ HO_10.out) (Kd.S_base ho0) hb); have _ := Q_ (Kd.S_lower (Kd.S_new' (Kd.S_new' ho0 (Kd.S_lt (ps_ HO_8.out))) (Kd.S_lt (ps_ HO_10.out))) (below_size (pb_ HB.out))); have _ := Q_ (below_step (pb_ HB.out) hb); clear HO_8 HO_10 HB; rename_i HO_8 HO_10 HO604 HB; (try clear hb); (try clear hb2); (try clear hk); (try clear hi); (try clear ho0)))
 (try simp only [Act.put, List.setIfInBounds_toArray, List.set_cons_zero, List.set_cons_succ])
 have H := HS_.out
 clear HS_
 by_cases c63 : (t598.length : Int) ≤ (t594.length : Int)
 rotate_left
 ·rw [if_neg c63] at H
  have c63b0 : decide ((t598.length : Int) ≤ (t594.length : Int)) = false := decide_eq_false c63
  have c63b1 : decide (t598.length ≤ t594.length) = false := decide_eq_false (fun h => c63 (Int.ofNat_le.mpr h))
  clear c63
  (first | rw [c63b0] | (simp only [i64_w, i32_w]; rw [c63b0]) | rw [c63b1] | skip)
  obtain rfl := Option.some.inj H
  obtain ⟨Ao64, co64, eo64⟩ := Kd.S_slice HO_10.out
  subst eo64
  go_wp2
  go_ret
  exact ⟨er_, pb_ HB.out⟩
 rw [if_pos c63] at H
 have c63b0 : decide ((t598.length : Int) ≤ (t594.length : Int)) = true := decide_eq_true c63
 have c63b1 : decide (t598.length ≤ t594.length) = true := decide_eq_true (Int.ofNat_le.mp c63)
 clear c63
 (first | rw [c63b0] | (simp only [i64_w, i32_w]; rw [c63b0]) | rw [c63b1] | skip)
 replace H := Option.bind_eq_some_iff.mp H
 obtain ⟨t605, A650, H⟩ := H
 (try dsimp only at H)
 have A65 := Q_ A650
 clear A650
 by_cases c66 : t605 = true
 rotate_left
 ·replace c66 := bf_ c66
  subst c66
  rw [if_neg ff_] at H
  obtain rfl := Option.some.inj H
  obtain ⟨Ao67, co67, eo67⟩ := Kd.S_slice HO_10.out
  subst eo67
  obtain ⟨Ao68, co68, eo68⟩ := Kd.S_slice HO604.out
  subst eo68
  go_wp2_with (first | (go_at_call 13; (with_reducible refine (impl_IsMemory.calls k3 _ _ t601 t602 false _ ?side1 ?side2 A65.out).mono ?_); (case side1 => exact pc_ ((Kd.S_reads' HO604.out).2.2)); (case side2 => exact (Kd.S_reads' HO604.out).2.1); rintro e w69 ⟨rfl, hb⟩; have _ := Q_ (Kd.S_below (ps_ HO_8.out) hb); have _ := Q_ (Kd.S_below (ps_ HO_10.out) hb); have _ := Q_ (Kd.S_below (ps_ HO604.out) hb); have _ := Q_ (below_step (pb_ HB.out) hb); clear HO_8 HO_10 HO604 HB; rename_i HO_8 HO_10 HO604 HB; (try clear hb); (try clear hb2); (try clear hk); (try clear hi)))
  go_ret
  exact ⟨er_, pb_ HB.out⟩
 subst c66
 rw [if_pos rfl] at H
 replace H := Option.bind_eq_some_iff.mp H
 obtain ⟨t606, A700, H⟩ := H
 replace H : (some (decide (t606 ≤ 6))) = some r := H
 have A70 := Q_ A700
 clear A700
 obtain rfl := Option.some.inj H
 obtain ⟨Ao71, co71, eo71⟩ := Kd.S_slice HO_10.out
 subst eo71
 obtain ⟨Ao72, co72, eo72⟩ := Kd.S_slice HO604.out
 subst eo72
 go_wp2_with (first | (go_at_call 13; (with_reducible refine (impl_IsMemory.calls k3 _ _ t601 t602 true _ ?side1 ?side2 A65.out).mono ?_); (case side1 => exact pc_ ((Kd.S_reads' HO604.out).2.2)); (case side2 => exact (Kd.S_reads' HO604.out).2.1); rintro e w73 ⟨rfl, hb⟩; have _ := Q_ (Kd.S_below (ps_ HO_8.out) hb); have _ := Q_ (Kd.S_below (ps_ HO_10.out) hb); have _ := Q_ (Kd.S_below (ps_ HO604.out) hb); have _ := Q_ (below_step (pb_ HB.out) hb); clear HO_8 HO_10 HO604 HB; rename_i HO_8 HO_10 HO604 HB; (try clear hb); (try clear hb2); (try clear hk); (try clear hi)) | (go_at_call 14; (with_reducible refine (impl_CountStates.calls k3 _ _ t601 t606 _ ?side1 ?side2 A70.out).mono ?_); (case side1 => exact pc_ ((Kd.S_reads' HO604.out).2.2)); (case side2 => exact (Kd.S_reads' HO604.out).2.1); rintro e w74 ⟨rfl, hb⟩; have _ := Q_ (Kd.S_below (ps_ HO_8.out) hb); have _ := Q_ (Kd.S_below (ps_ HO_10.out) hb); have _ := Q_ (Kd.S_below (ps_ HO604.out) hb); have _ := Q_ (below_step (pb_ HB.out) hb); clear HO_8 HO_10 HO604 HB; rename_i HO_8 HO_10 HO604 HB; (try clear hb); (try clear hb2); (try clear hk); (try clear hi)))
 go_ret
 exact ⟨er_, pb_ HB.out⟩

/-- THE ONE PURE STATEMENT of laws_FnMemory: yours. -/
def laws_FnMemory.Pure : Prop := ∀ (l0 : List Int), l0.length ≤ maxLen → l0.length * 1 ≤ 140737488351232 → (∀ x ∈ l0, (Lit.int .u8 x).wf = true) → ∃ k, laws_FnMemory.f k l0 = some true
theorem laws_FnMemory.walk (P : laws_FnMemory.Pure) (a0 : Option Addr) (len0 cap0 : Nat) (z0 : List Int) (w : World) (w0 : (a0 = none ∧ len0 = 0 ∧ cap0 = 0 ∧ z0 = []) ∨ ∃ x, a0 = some x ∧ len0 ≤ cap0 ∧ cap0 ≤ maxLen ∧ z0.length = cap0 ∧ (∀ i, i < z0.length → w.cell? (x.add i) = some (.int .u8 (z0.getD i 0))) ∧ ∀ n ∈ z0, (Lit.int .u8 n).wf = true) (y0 : len0 * 1 ≤ 140737488351232) :
  Calls Try.prog 3 #[.slice a0 len0 cap0] w fun e w' => e = .returned (.bool true) ∧ Below w.heap.size w w' := by
 obtain ⟨l0, rfl, hr0, hm0, hw0, hc0⟩ := ReadsInt.ofRowC w0
 obtain ⟨k, h⟩ := P l0 hm0 y0 hw0
 refine (laws_FnMemory.calls k _ _ l0 true w (Kd.C_of_reads (d := (0 : Int)) (h1 := fun _ => rfl) hr0) hc0 h).mono ?_
 rintro e w' ⟨rfl, hd⟩
 exact ⟨rfl, hd⟩

end Go.Proofs.Ytlcpaebidnaolaa.Print
