-- Written by a program of this session (printx.py) out of the translation; Lean checks it.
import Derived.Test.YtdoefkloanpliaaPrint0
import Derived.Test.YtdoefkloanpliaaPrint9
import Derived.Test.YtdoefkloanpliaaPrint10
namespace Go.Proofs.Ytdoefkloanpliaa.Print
open Go.RowKit Go.Proofs.YtdoefkloanpliaaW.PrintWords Go.Proofs.YtdoefkloanpliaaW.PrintLast Go.Proofs.YtdoefkloanpliaaW.PrintMore Go.Proofs.Ytdoefkloanpliaa.Short
attribute [local go_sem] max2_int min2_int max_two min_two max_three min_three max_four min_four   -- for this text's walks alone
set_option linter.unusedVariables false
set_option linter.unusedSimpArgs false

/-! ### laws_FnExactMaskedBy: function 9 -/
def laws_FnExactMaskedBy.j0 : Nat → List (S94) → List (S97) → Bool → Option (Bool)
  | 0, _, _, _ => none
  | k + 1, x0, x8, x38 => if x38 = true then (some false) else ((laws_toDialedS.f k x0).bind fun t589 => ((laws_eqDialedS.f k x8 t589).bind fun t592 => (if t592 = true then (some true) else (some false))))
def laws_FnExactMaskedBy.f (k : Nat) (l0 : List (S94)) (a1 : Int) : Option (Bool) := (laws_szDialedS.f k l0 1048576).bind fun t578 => (if t578 < 0 then (some true) else ((laws_toDialedS.f k l0).bind fun t579 => ((spec_MaskedBy.f k t579 a1).bind fun bt582 => ((laws_toDialedS.f k l0).bind fun t584 => ((impl_MaskedBy.f k t584 a1).bind fun bt587 => (if bt587.1 = bt582.1 then (laws_FnExactMaskedBy.j0 k l0 t584 (bt587.2 != bt582.2)) else (laws_FnExactMaskedBy.j0 k l0 t584 true)))))))
theorem laws_FnExactMaskedBy.mono_l : ∀ k, (∀ y0 y1 y2, LeO (laws_FnExactMaskedBy.j0 k y0 y1 y2) (laws_FnExactMaskedBy.j0 (k + 1) y0 y1 y2))
  | 0 => fun _ _ _ r h => by simp [laws_FnExactMaskedBy.j0] at h
  | k + 1 => by
    have ih0 := laws_FnExactMaskedBy.mono_l k
    · intro y0 y1 y2
      unfold laws_FnExactMaskedBy.j0
      repeat' first
      | (with_reducible exact ih0 _ _ _)
      | (with_reducible exact impl_MaskedBy.mono _ _ _)
      | (with_reducible exact laws_eqDialedS.mono _ _ _)
      | (with_reducible exact laws_szDialedS.mono _ _ _)
      | (with_reducible exact laws_toDialedS.mono _ _)
      | (with_reducible exact spec_MaskedBy.mono _ _ _)
      | (with_reducible exact LeO.refl _)
      | (with_reducible exact LeO.none _)
      | (with_reducible refine LeO.ite ?_ ?_)
      | (with_reducible refine LeO.bind ?_ (fun _ => ?_))
      | exact ih0 _ _ _
      | exact impl_MaskedBy.mono _ _ _
      | exact laws_eqDialedS.mono _ _ _
      | exact laws_szDialedS.mono _ _ _
      | exact laws_toDialedS.mono _ _
      | exact spec_MaskedBy.mono _ _ _
      | exact LeO.none _
      | refine LeO.ite ?_ ?_
      | refine LeO.bind ?_ (fun _ => ?_)
theorem laws_FnExactMaskedBy.mono : ∀ a0 a1 k, LeO (laws_FnExactMaskedBy.f k a0 a1) (laws_FnExactMaskedBy.f (k + 1) a0 a1) := by
  intro a0 a1 k
  have ih0 := laws_FnExactMaskedBy.mono_l k
  unfold laws_FnExactMaskedBy.f
  repeat' first
      | (with_reducible exact ih0 _ _ _)
      | (with_reducible exact impl_MaskedBy.mono _ _ _)
      | (with_reducible exact laws_eqDialedS.mono _ _ _)
      | (with_reducible exact laws_szDialedS.mono _ _ _)
      | (with_reducible exact laws_toDialedS.mono _ _)
      | (with_reducible exact spec_MaskedBy.mono _ _ _)
      | (with_reducible exact LeO.refl _)
      | (with_reducible exact LeO.none _)
      | (with_reducible refine LeO.ite ?_ ?_)
      | (with_reducible refine LeO.bind ?_ (fun _ => ?_))
      | exact ih0 _ _ _
      | exact impl_MaskedBy.mono _ _ _
      | exact laws_eqDialedS.mono _ _ _
      | exact laws_szDialedS.mono _ _ _
      | exact laws_toDialedS.mono _ _
      | exact spec_MaskedBy.mono _ _ _
      | exact LeO.none _
      | refine LeO.ite ?_ ?_
      | refine LeO.bind ?_ (fun _ => ?_)
set_option maxHeartbeats 8000000 in
set_option maxRecDepth 100000 in
theorem laws_FnExactMaskedBy.calls (k : Nat) (A0 : Option Addr) (c0 : Nat) (l0 : List (S94)) (a1 : Int) (r : Bool) (w : World) (hr0 : Kd.C k94 w A0 l0.length l0) (hc0 : l0.length ≤ c0) (h : laws_FnExactMaskedBy.f k l0 a1 = some r) :
    Calls Try.prog 9 #[.slice A0 l0.length c0, .int .i64 a1] w fun e w' => e = .returned (.bool r) ∧ Below w.heap.size w w' := by
  have HR0 := Aside0.mk hr0
  have HC0 := Aside0.mk hc0
  clear hr0 hc0
  have HB := Aside0.mk (Below.refl w.heap.size w)
  have H : ((laws_szDialedS.f k l0 1048576).bind fun t578 => (if t578 < 0 then (some true) else ((laws_toDialedS.f k l0).bind fun t579 => ((spec_MaskedBy.f k t579 a1).bind fun bt582 => ((laws_toDialedS.f k l0).bind fun t584 => ((impl_MaskedBy.f k t584 a1).bind fun bt587 => (if bt587.1 = bt582.1 then (laws_FnExactMaskedBy.j0 k l0 t584 (bt587.2 != bt582.2)) else (laws_FnExactMaskedBy.j0 k l0 t584 true)))))))) = some r := h
  clear h
  replace H := Option.bind_eq_some_iff.mp H
  obtain ⟨t578, A30, H⟩ := H
  (try dsimp only at H)
  have A3 := Aside0.mk A30
  clear A30
  have HS_ := Aside0.mk H
  clear H
  go_enter Try.func9, Try.ntmps9
  go_upto_if 15 with (first | ((with_reducible refine gate_callee (f := 38) rfl ?_); refine goesL_ (some 13) rfl rfl Try.func38 (by kernel_rfl) rfl #[.slice A0 l0.length c0, .int .i64 1048576] rfl mp_ ?_; (with_reducible refine (laws_szDialedS.calls k _ _ l0 1048576 t578 _ ?side1 ?side2 A3.out).mono ?_); (case side1 => exact pc_ HR0.out); (case side2 => exact HC0.out); rintro e w4 ⟨rfl, hb⟩; refine ⟨_, rfl, ?_⟩; have n0_ := Aside0.mk (below_step (pb_ HB.out) hb); clear HB; have HB := n0_; clear n0_; (try clear hb); (try clear hb2); (try clear hk); (try clear hi)))
  (try simp only [Act.put, List.setIfInBounds_toArray, List.set_cons_zero, List.set_cons_succ])
  have H := HS_.out
  clear HS_
  by_cases c5 : t578 < 0
  · rw [if_pos c5] at H
    have c5b0 : decide (t578 < 0) = true := decide_eq_true c5
    clear c5
    (first | rw [c5b0] | (simp only [i64_w, i32_w]; rw [c5b0]) | skip)
    obtain rfl := Option.some.inj H
    go_wp2
    go_ret
    exact ⟨er_, pb_ HB.out⟩
  rw [if_neg c5] at H
  have c5b0 : decide (t578 < 0) = false := decide_eq_false c5
  clear c5
  (first | rw [c5b0] | (simp only [i64_w, i32_w]; rw [c5b0]) | skip)
  replace H := Option.bind_eq_some_iff.mp H
  obtain ⟨t579, A60, H⟩ := H
  (try dsimp only at H)
  have A6 := Aside0.mk A60
  clear A60
  replace H := Option.bind_eq_some_iff.mp H
  obtain ⟨⟨t582, t583⟩, A70, H⟩ := H
  (try dsimp only at H)
  have A7 := Aside0.mk A70
  clear A70
  replace H := Option.bind_eq_some_iff.mp H
  obtain ⟨t584, A80, H⟩ := H
  (try dsimp only at H)
  have A8 := Aside0.mk A80
  clear A80
  replace H := Option.bind_eq_some_iff.mp H
  obtain ⟨⟨t587, t588⟩, A90, H⟩ := H
  (try dsimp only at H)
  have A9 := Aside0.mk A90
  clear A90
  have HC10 := Aside0.mk H
  clear H
  go_upto_region 8 with (first | ((with_reducible refine gate_callee (f := 40) rfl ?_); refine goesL_ (some 18) rfl rfl Try.func40 (by kernel_rfl) rfl #[.slice A0 l0.length c0] rfl mp_ ?_; (with_reducible refine (laws_toDialedS.calls k _ _ l0 t579 _ ?side1 ?side2 A6.out).mono ?_); (case side1 => exact pc_ (Kd.C_below HR0.out HB.out)); (case side2 => exact HC0.out); rintro e w11 ⟨v580, rfl, ho0, hb⟩; refine ⟨_, rfl, ?_⟩; have n0_ := Aside0.mk (Kd.S_lower ho0 (below_size (pb_ HB.out))); have n1_ := Aside0.mk (below_step (pb_ HB.out) hb); clear HB; have HO581 := n0_; have HB := n1_; clear n0_ n1_; (try clear hb); (try clear hb2); (try clear hk); (try clear hi); (try clear ho0); obtain ⟨Ao12, co12, eo12⟩ := Kd.S_slice HO581.out; subst eo12) | ((with_reducible refine gate_callee (f := 39) rfl ?_); refine goesL_ (some 20) rfl rfl Try.func39 (by kernel_rfl) rfl #[.slice Ao12 t579.length co12, .int .i64 a1] rfl mp_ ?_; (with_reducible refine (spec_MaskedBy.calls k _ _ t579 a1 t582 t583 _ ?side1 ?side2 A7.out).mono ?_); (case side1 => exact pc_ ((Kd.S_reads' HO581.out).2.2)); (case side2 => exact (Kd.S_reads' HO581.out).2.1); rintro e w13 ⟨rfl, hb⟩; refine ⟨_, rfl, ?_⟩; have n0_ := Aside0.mk (Kd.S_below (ps_ HO581.out) hb); have n1_ := Aside0.mk (below_step (pb_ HB.out) hb); clear HO581; clear HB; have HO581 := n0_; have HB := n1_; clear n0_ n1_; (try clear hb); (try clear hb2); (try clear hk); (try clear hi)) | ((with_reducible refine gate_callee (f := 40) rfl ?_); refine goesL_ (some 24) rfl rfl Try.func40 (by kernel_rfl) rfl #[.slice A0 l0.length c0] rfl mp_ ?_; (with_reducible refine (laws_toDialedS.calls k _ _ l0 t584 _ ?side1 ?side2 A8.out).mono ?_); (case side1 => exact pc_ (Kd.C_below HR0.out HB.out)); (case side2 => exact HC0.out); rintro e w14 ⟨v585, rfl, ho0, hb⟩; refine ⟨_, rfl, ?_⟩; have n0_ := Aside0.mk (Kd.S_elder' (ps_ HO581.out) (Kd.S_base ho0) hb); have n1_ := Aside0.mk (Kd.S_lower (Kd.S_new' ho0 (Kd.S_lt (ps_ HO581.out))) (below_size (pb_ HB.out))); have n2_ := Aside0.mk (below_step (pb_ HB.out) hb); clear HO581; clear HB; have HO581 := n0_; have HO586 := n1_; have HB := n2_; clear n0_ n1_ n2_; (try clear hb); (try clear hb2); (try clear hk); (try clear hi); (try clear ho0); obtain ⟨Ao15, co15, eo15⟩ := Kd.S_slice HO586.out; subst eo15) | ((with_reducible refine gate_callee (f := 41) rfl ?_); refine goesL_ (some 28) rfl rfl Try.func41 (by kernel_rfl) rfl #[.slice Ao15 t584.length co15, .int .i64 a1] rfl mp_ ?_; (with_reducible refine (impl_MaskedBy.calls k _ _ t584 a1 t587 t588 _ ?side1 ?side2 A9.out).mono ?_); (case side1 => exact pc_ ((Kd.S_reads' HO586.out).2.2)); (case side2 => exact (Kd.S_reads' HO586.out).2.1); rintro e w16 ⟨rfl, hb⟩; refine ⟨_, rfl, ?_⟩; have n0_ := Aside0.mk (Kd.S_below (ps_ HO581.out) hb); have n1_ := Aside0.mk (Kd.S_below (ps_ HO586.out) hb); have n2_ := Aside0.mk (below_step (pb_ HB.out) hb); clear HO581; clear HO586; clear HB; have HO581 := n0_; have HO586 := n1_; have HB := n2_; clear n0_ n1_ n2_; (try clear hb); (try clear hb2); (try clear hk); (try clear hi)))
  (try simp only [Act.put, List.setIfInBounds_toArray, List.set_cons_zero, List.set_cons_succ])
  go_cut [38] (fun v38 wc => ∃ (kq : Nat) (x38_9 : Bool), v38 = .bool x38_9 ∧ Aside0 (laws_FnExactMaskedBy.j0 kq l0 t584 x38_9 = some r) ∧ Aside0 (kq ≤ k) ∧ Aside0 (Kd.S k97 97 wc w.heap.size (fun _ => True) (.slice Ao15 t584.length co15) t584) ∧ Aside0 (Below w.heap.size w wc))
  case first =>
    have H := HC10.out
    clear HC10
    by_cases c17 : t587 = t582
    rotate_left
    · rw [if_neg c17] at H
      have c17b0 : (t587 == t582) = false := beq_eq_false_iff_ne.mpr c17
      have c17b1 : (t587 != t582) = true := bne_iff_ne.mpr c17
      (first | rw [c17b0] | (simp only [i64_w, i32_w]; rw [c17b0]) | rw [c17b1] | (have c_ := c17b1; rw [bne] at c_; rw [c_]; clear c_) | skip)
      have H' := Aside0.mk H
      clear H
      go_wp2
      go_meet
      case rel => exact ⟨_, (true), el_, H', ⟨by first | omega | exact Nat.le_refl _⟩, ⟨ps_ (Kd.S_mono HO586.out (fun _ hk => trivial))⟩, ⟨pb_ HB.out⟩⟩
    rw [if_pos c17] at H
    have c17b0 : (t587 == t582) = true := beq_iff_eq.mpr c17
    have c17b1 : (t587 != t582) = false := bne_eq_false_iff_eq.mpr c17
    clear c17
    (first | rw [c17b0] | (simp only [i64_w, i32_w]; rw [c17b0]) | rw [c17b1] | (have c_ := c17b1; rw [bne] at c_; rw [c_]; clear c_) | skip)
    have H' := Aside0.mk H
    clear H
    go_wp2
    go_meet
    case rel => exact ⟨_, ((t588 != t583)), el_, H', ⟨by first | omega | exact Nat.le_refl _⟩, ⟨ps_ (Kd.S_mono HO586.out (fun _ hk => trivial))⟩, ⟨pb_ HB.out⟩⟩
  clear HC10
  try clear c1
  try clear p2
  try clear c3
  try clear c4
  try clear c5
  try clear c5b0
  try clear c9
  try clear c17
  try clear c17b0
  try clear c17b1
  obtain ⟨kq, x38_9, rfl, HA, HJ9, HO_8, HB⟩ := hcut
  rcases kq with _ | kj9
  · exact absurd HA.out (by simp [laws_FnExactMaskedBy.j0])
  have H := HA.out
  clear HA
  simp only [laws_FnExactMaskedBy.j0] at H
  by_cases c18 : x38_9 = true
  · subst c18
    rw [if_pos rfl] at H
    obtain rfl := Option.some.inj H
    go_wp2
    go_ret
    exact ⟨er_, pb_ HB.out⟩
  replace c18 := Bool.eq_false_iff.mpr c18
  subst c18
  rw [if_neg (show ¬ (false = true) by decide)] at H
  replace H := Option.bind_eq_some_iff.mp H
  obtain ⟨t589, A190, H⟩ := H
  (try dsimp only at H)
  have A19 := Aside0.mk A190
  clear A190
  replace H := Option.bind_eq_some_iff.mp H
  obtain ⟨t592, A200, H⟩ := H
  replace H : (if t592 = true then (some true) else (some false)) = some r := H
  have A20 := Aside0.mk A200
  clear A200
  have HS_ := Aside0.mk H
  clear H
  go_upto_if 43 with (first | ((with_reducible refine gate_callee (f := 40) rfl ?_); refine goesL_ (some 41) rfl rfl Try.func40 (by kernel_rfl) rfl #[.slice A0 l0.length c0] rfl mp_ ?_; (with_reducible refine (laws_toDialedS.calls kj9 _ _ l0 t589 _ ?side1 ?side2 A19.out).mono ?_); (case side1 => exact pc_ (Kd.C_below HR0.out HB.out)); (case side2 => exact HC0.out); rintro e w21 ⟨v590, rfl, ho0, hb⟩; refine ⟨_, rfl, ?_⟩; have n0_ := Aside0.mk (Kd.S_elder' (ps_ HO_8.out) (Kd.S_base ho0) hb); have n1_ := Aside0.mk (Kd.S_lower (Kd.S_new' ho0 (Kd.S_lt (ps_ HO_8.out))) (below_size (pb_ HB.out))); have n2_ := Aside0.mk (below_step (pb_ HB.out) hb); clear HO_8; clear HB; have HO_8 := n0_; have HO591 := n1_; have HB := n2_; clear n0_ n1_ n2_; (try clear hb); (try clear hb2); (try clear hk); (try clear hi); (try clear ho0); obtain ⟨Ao22, co22, eo22⟩ := Kd.S_slice HO591.out; subst eo22) | ((with_reducible refine gate_callee (f := 42) rfl ?_); refine goesL_ (some 42) rfl rfl Try.func42 (by kernel_rfl) rfl #[.slice Ao15 t584.length co15, .slice Ao22 t589.length co22] rfl mp_ ?_; (with_reducible refine (laws_eqDialedS.calls kj9 _ _ t584 _ _ t589 t592 _ ?side1 ?side2 ?side3 ?side4 A20.out).mono ?_); (case side1 => exact pc_ ((Kd.S_reads' HO_8.out).2.2)); (case side2 => exact (Kd.S_reads' HO_8.out).2.1); (case side3 => exact pc_ ((Kd.S_reads' HO591.out).2.2)); (case side4 => exact (Kd.S_reads' HO591.out).2.1); rintro e w23 ⟨rfl, hb⟩; refine ⟨_, rfl, ?_⟩; have n0_ := Aside0.mk (Kd.S_below (ps_ HO_8.out) hb); have n1_ := Aside0.mk (Kd.S_below (ps_ HO591.out) hb); have n2_ := Aside0.mk (below_step (pb_ HB.out) hb); clear HO_8; clear HO591; clear HB; have HO_8 := n0_; have HO591 := n1_; have HB := n2_; clear n0_ n1_ n2_; (try clear hb); (try clear hb2); (try clear hk); (try clear hi)))
  (try simp only [Act.put, List.setIfInBounds_toArray, List.set_cons_zero, List.set_cons_succ])
  have H := HS_.out
  clear HS_
  by_cases c24 : t592 = true
  rotate_left
  · replace c24 := Bool.eq_false_iff.mpr c24
    subst c24
    rw [if_neg (show ¬ (false = true) by decide)] at H
    obtain rfl := Option.some.inj H
    go_wp2
    go_ret
    exact ⟨er_, pb_ HB.out⟩
  subst c24
  rw [if_pos rfl] at H
  obtain rfl := Option.some.inj H
  go_wp2
  go_ret
  exact ⟨er_, pb_ HB.out⟩

/-- THE ONE PURE STATEMENT of laws_FnExactMaskedBy: yours. -/
def laws_FnExactMaskedBy.Pure : Prop := ∀ (x0 : List (S94)) (x1 : Int), (x0.length * 72 ≤ 140737488351232 ∧ ∀ y ∈ x0, Q94 y) → (Lit.int .i64 x1).wf = true → ∃ k, laws_FnExactMaskedBy.f k x0 x1 = some true

end Go.Proofs.Ytdoefkloanpliaa.Print
