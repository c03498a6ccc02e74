-- Written by a program of this session (printx.py) out of the translation; Lean checks it.
import Derived.Test.YtdoefkloanpliaaPrint0
import Derived.Test.YtdoefkloanpliaaPrint1
import Derived.Test.YtdoefkloanpliaaPrint2
import Derived.Test.YtdoefkloanpliaaPrint3
import Derived.Test.YtdoefkloanpliaaPrint4
namespace Go.Proofs.Ytdoefkloanpliaa.Print
open Go.RowKit Go.Proofs.YtdoefkloanpliaaW.PrintWords Go.Proofs.YtdoefkloanpliaaW.PrintLast Go.Proofs.YtdoefkloanpliaaW.PrintMore Go.Proofs.Ytdoefkloanpliaa.Short
attribute [local go_sem] max2_int min2_int max_two min_two max_three min_three max_four min_four   -- for this text's walks alone
set_option linter.unusedVariables false
set_option linter.unusedSimpArgs false

/-! ### spec_MayRetire: function 29 -/
def spec_MayRetire.j0 : Nat → List Int → List (List Int) → Int → Int → Bool → Option (Bool)
  | 0, _, _, _, _, _ => none
  | k + 1, x0, x1, x2, x3, x27 => if x27 = true then (some false) else ((spec_Stranded.f k x0 x1 x2).bind fun t244 => (if (t244.length : Int) = 0 then ((spec_UseOf.f k x0 x1 x2).bind fun t247 => (some (decide ((wrap64 (1000 * t247)) ≤ (wrap64 (x3 * (x1.length : Int))))))) else (some false)))
def spec_MayRetire.f (k : Nat) (l0 : List Int) (l1 : List (List Int)) (a2 : Int) (a3 : Int) : Option (Bool) := (spec_AreVersions.f k l0).bind fun t241 => (if t241 = true then ((spec_l9Has.f k l0 a2).bind fun t242 => (if t242 = true then (if (l0.length : Int) = 1 then (spec_MayRetire.j0 k l0 l1 a2 a3 true) else ((spec_l1In.f a3 0 1000).bind fun t243 => (spec_MayRetire.j0 k l0 l1 a2 a3 (!t243)))) else (spec_MayRetire.j0 k l0 l1 a2 a3 true))) else (spec_MayRetire.j0 k l0 l1 a2 a3 true))
theorem spec_MayRetire.mono_l : ∀ k, (∀ y0 y1 y2 y3 y4, LeO (spec_MayRetire.j0 k y0 y1 y2 y3 y4) (spec_MayRetire.j0 (k + 1) y0 y1 y2 y3 y4))
  | 0 => fun _ _ _ _ _ r h => by simp [spec_MayRetire.j0] at h
  | k + 1 => by
    have ih0 := spec_MayRetire.mono_l k
    · intro y0 y1 y2 y3 y4
      unfold spec_MayRetire.j0
      repeat' first
      | (with_reducible exact ih0 _ _ _ _ _)
      | (with_reducible exact spec_AreVersions.mono _ _)
      | (with_reducible exact spec_Stranded.mono _ _ _ _)
      | (with_reducible exact spec_UseOf.mono _ _ _ _)
      | (with_reducible exact spec_l9Has.mono _ _ _)
      | (with_reducible exact LeO.refl _)
      | (with_reducible exact LeO.none _)
      | (with_reducible refine LeO.ite ?_ ?_)
      | (with_reducible refine LeO.bind ?_ (fun _ => ?_))
      | exact ih0 _ _ _ _ _
      | exact spec_AreVersions.mono _ _
      | exact spec_Stranded.mono _ _ _ _
      | exact spec_UseOf.mono _ _ _ _
      | exact spec_l9Has.mono _ _ _
      | exact LeO.none _
      | refine LeO.ite ?_ ?_
      | refine LeO.bind ?_ (fun _ => ?_)
theorem spec_MayRetire.mono : ∀ a0 a1 a2 a3 k, LeO (spec_MayRetire.f k a0 a1 a2 a3) (spec_MayRetire.f (k + 1) a0 a1 a2 a3) := by
  intro a0 a1 a2 a3 k
  have ih0 := spec_MayRetire.mono_l k
  unfold spec_MayRetire.f
  repeat' first
      | (with_reducible exact ih0 _ _ _ _ _)
      | (with_reducible exact spec_AreVersions.mono _ _)
      | (with_reducible exact spec_Stranded.mono _ _ _ _)
      | (with_reducible exact spec_UseOf.mono _ _ _ _)
      | (with_reducible exact spec_l9Has.mono _ _ _)
      | (with_reducible exact LeO.refl _)
      | (with_reducible exact LeO.none _)
      | (with_reducible refine LeO.ite ?_ ?_)
      | (with_reducible refine LeO.bind ?_ (fun _ => ?_))
      | exact ih0 _ _ _ _ _
      | exact spec_AreVersions.mono _ _
      | exact spec_Stranded.mono _ _ _ _
      | exact spec_UseOf.mono _ _ _ _
      | exact spec_l9Has.mono _ _ _
      | exact LeO.none _
      | refine LeO.ite ?_ ?_
      | refine LeO.bind ?_ (fun _ => ?_)
set_option maxHeartbeats 8000000 in
set_option maxRecDepth 100000 in
theorem spec_MayRetire.calls (k : Nat) (A0 : Option Addr) (c0 : Nat) (l0 : List Int) (A1 : Option Addr) (c1 : Nat) (l1 : List (List Int)) (a2 : Int) (a3 : Int) (r : Bool) (w : World) (hr0 : Kd.C (Kd.int .i64) w A0 l0.length l0) (hc0 : l0.length ≤ c0) (hr1 : Kd.C (Kd.slice 3 (Kd.int .i64)) w A1 l1.length l1) (hc1 : l1.length ≤ c1) (h : spec_MayRetire.f k l0 l1 a2 a3 = some r) :
    Calls Try.prog 29 #[.slice A0 l0.length c0, .slice A1 l1.length c1, .int .i64 a2, .int .i64 a3] w fun e w' => e = .returned (.bool r) ∧ Below w.heap.size w w' := by
  have HR0 := Aside0.mk hr0
  have HC0 := Aside0.mk hc0
  clear hr0 hc0
  have HR1 := Aside0.mk hr1
  have HC1 := Aside0.mk hc1
  clear hr1 hc1
  have HB := Aside0.mk (Below.refl w.heap.size w)
  have H : ((spec_AreVersions.f k l0).bind fun t241 => (if t241 = true then ((spec_l9Has.f k l0 a2).bind fun t242 => (if t242 = true then (if (l0.length : Int) = 1 then (spec_MayRetire.j0 k l0 l1 a2 a3 true) else ((spec_l1In.f a3 0 1000).bind fun t243 => (spec_MayRetire.j0 k l0 l1 a2 a3 (!t243)))) else (spec_MayRetire.j0 k l0 l1 a2 a3 true))) else (spec_MayRetire.j0 k l0 l1 a2 a3 true))) = some r := h
  clear h
  have HC5 := Aside0.mk H
  clear H
  go_enter Try.func29, Try.ntmps29
  go_upto_region 1 with (fail)
  go_cut [27] (fun v27 wc => ∃ (kq : Nat) (x27_4 : Bool), v27 = .bool x27_4 ∧ Aside0 (spec_MayRetire.j0 kq l0 l1 a2 a3 x27_4 = some r) ∧ Aside0 (kq ≤ k) ∧ Aside0 (Below w.heap.size w wc))
  case first =>
    have H := HC5.out
    clear HC5
    replace H := Option.bind_eq_some_iff.mp H
    obtain ⟨t241, A60, H⟩ := H
    (try dsimp only at H)
    have A6 := Aside0.mk A60
    clear A60
    by_cases c7 : t241 = true
    rotate_left
    · replace c7 := Bool.eq_false_iff.mpr c7
      subst c7
      rw [if_neg (show ¬ (false = true) by decide)] at H
      have H' := Aside0.mk H
      clear H
      go_wp2_with (first | ((with_reducible refine gate_callee (f := 71) rfl ?_); refine goesL_ (some 10) rfl rfl Try.func71 (by kernel_rfl) rfl #[.slice A0 l0.length c0] rfl mp_ ?_; (with_reducible refine (spec_AreVersions.calls k _ _ l0 false _ ?side1 ?side2 A6.out).mono ?_); (case side1 => exact pc_ (Kd.C_below HR0.out HB.out)); (case side2 => exact HC0.out); rintro e w' ⟨rfl, ⟨nd, rfl⟩⟩; refine ⟨_, rfl, ?_⟩))
      go_meet
      case rel => exact ⟨_, (true), el_, H', ⟨by first | omega | exact Nat.le_refl _⟩, ⟨pb_ HB.out⟩⟩
    subst c7
    rw [if_pos rfl] at H
    replace H := Option.bind_eq_some_iff.mp H
    obtain ⟨t242, A80, H⟩ := H
    (try dsimp only at H)
    have A8 := Aside0.mk A80
    clear A80
    by_cases c9 : t242 = true
    rotate_left
    · replace c9 := Bool.eq_false_iff.mpr c9
      subst c9
      rw [if_neg (show ¬ (false = true) by decide)] at H
      have H' := Aside0.mk H
      clear H
      go_wp2_with (first | ((with_reducible refine gate_callee (f := 71) rfl ?_); refine goesL_ (some 10) rfl rfl Try.func71 (by kernel_rfl) rfl #[.slice A0 l0.length c0] rfl mp_ ?_; (with_reducible refine (spec_AreVersions.calls k _ _ l0 true _ ?side1 ?side2 A6.out).mono ?_); (case side1 => exact pc_ (Kd.C_below HR0.out HB.out)); (case side2 => exact HC0.out); rintro e w' ⟨rfl, ⟨nd, rfl⟩⟩; refine ⟨_, rfl, ?_⟩) | (go_at_call 76; (with_reducible refine (spec_l9Has.calls k _ _ l0 a2 false _ ?side1 ?side2 A8.out).mono ?_); (case side1 => exact pc_ (Kd.C_below HR0.out (pb_ HB.out))); (case side2 => exact HC0.out); rintro e w' ⟨rfl, ⟨nd, rfl⟩⟩))
      go_meet
      case rel => exact ⟨_, (true), el_, H', ⟨by first | omega | exact Nat.le_refl _⟩, ⟨pb_ HB.out⟩⟩
    subst c9
    rw [if_pos rfl] at H
    by_cases c10 : (l0.length : Int) = 1
    · rw [if_pos c10] at H
      have c10b0 : ((l0.length : Int) == 1) = true := beq_iff_eq.mpr c10
      have c10b1 : ((l0.length : Int) != 1) = false := bne_eq_false_iff_eq.mpr c10
      clear c10
      (first | rw [c10b0] | (simp only [i64_w, i32_w]; rw [c10b0]) | rw [c10b1] | (have c_ := c10b1; rw [bne] at c_; rw [c_]; clear c_) | skip)
      have H' := Aside0.mk H
      clear H
      go_wp2_with (first | ((with_reducible refine gate_callee (f := 71) rfl ?_); refine goesL_ (some 10) rfl rfl Try.func71 (by kernel_rfl) rfl #[.slice A0 l0.length c0] rfl mp_ ?_; (with_reducible refine (spec_AreVersions.calls k _ _ l0 true _ ?side1 ?side2 A6.out).mono ?_); (case side1 => exact pc_ (Kd.C_below HR0.out HB.out)); (case side2 => exact HC0.out); rintro e w' ⟨rfl, ⟨nd, rfl⟩⟩; refine ⟨_, rfl, ?_⟩) | (go_at_call 76; (with_reducible refine (spec_l9Has.calls k _ _ l0 a2 true _ ?side1 ?side2 A8.out).mono ?_); (case side1 => exact pc_ (Kd.C_below HR0.out (pb_ HB.out))); (case side2 => exact HC0.out); rintro e w' ⟨rfl, ⟨nd, rfl⟩⟩))
      go_meet
      case rel => exact ⟨_, (true), el_, H', ⟨by first | omega | exact Nat.le_refl _⟩, ⟨pb_ HB.out⟩⟩
    rw [if_neg c10] at H
    have c10b0 : ((l0.length : Int) == 1) = false := beq_eq_false_iff_ne.mpr c10
    have c10b1 : ((l0.length : Int) != 1) = true := bne_iff_ne.mpr c10
    (first | rw [c10b0] | (simp only [i64_w, i32_w]; rw [c10b0]) | rw [c10b1] | (have c_ := c10b1; rw [bne] at c_; rw [c_]; clear c_) | skip)
    replace H := Option.bind_eq_some_iff.mp H
    obtain ⟨t243, A110, H⟩ := H
    replace H : (spec_MayRetire.j0 k l0 l1 a2 a3 (!t243)) = some r := H
    have A11 := Aside0.mk A110
    clear A110
    have H' := Aside0.mk H
    clear H
    go_wp2_with (first | ((with_reducible refine gate_callee (f := 71) rfl ?_); refine goesL_ (some 10) rfl rfl Try.func71 (by kernel_rfl) rfl #[.slice A0 l0.length c0] rfl mp_ ?_; (with_reducible refine (spec_AreVersions.calls k _ _ l0 true _ ?side1 ?side2 A6.out).mono ?_); (case side1 => exact pc_ (Kd.C_below HR0.out HB.out)); (case side2 => exact HC0.out); rintro e w' ⟨rfl, ⟨nd, rfl⟩⟩; refine ⟨_, rfl, ?_⟩) | (go_at_call 76; (with_reducible refine (spec_l9Has.calls k _ _ l0 a2 true _ ?side1 ?side2 A8.out).mono ?_); (case side1 => exact pc_ (Kd.C_below HR0.out (pb_ HB.out))); (case side2 => exact HC0.out); rintro e w' ⟨rfl, ⟨nd, rfl⟩⟩) | (go_at_call 77; (with_reducible refine (spec_l1In.calls a3 0 1000 t243 _ A11.out).mono ?_); rintro e w' ⟨rfl, ⟨nd, rfl⟩⟩))
    go_meet
    case rel => exact ⟨_, (!t243), el_, H', ⟨by first | omega | exact Nat.le_refl _⟩, ⟨pb_ HB.out⟩⟩
  clear HC5
  try clear c1
  try clear c2
  try clear p2
  try clear c7
  try clear c9
  try clear c10
  try clear c10b0
  try clear c10b1
  obtain ⟨kq, x27_4, rfl, HA, HJ4, HB⟩ := hcut
  rcases kq with _ | kj4
  · exact absurd HA.out (by simp [spec_MayRetire.j0])
  have H := HA.out
  clear HA
  simp only [spec_MayRetire.j0] at H
  by_cases c12 : x27_4 = true
  · subst c12
    rw [if_pos rfl] at H
    obtain rfl := Option.some.inj H
    go_wp2
    go_ret
    exact ⟨er_, pb_ HB.out⟩
  replace c12 := Bool.eq_false_iff.mpr c12
  subst c12
  rw [if_neg (show ¬ (false = true) by decide)] at H
  replace H := Option.bind_eq_some_iff.mp H
  obtain ⟨t244, A130, H⟩ := H
  (try dsimp only at H)
  have A13 := Aside0.mk A130
  clear A130
  by_cases c14 : (t244.length : Int) = 0
  rotate_left
  · rw [if_neg c14] at H
    have c14b0 : ((t244.length : Int) == 0) = false := beq_eq_false_iff_ne.mpr c14
    have c14b1 : ((t244.length : Int) != 0) = true := bne_iff_ne.mpr c14
    have c14b2 : ¬ (t244 = []) := fun h_ => c14 (by rw [h_]; rfl)
    obtain rfl := Option.some.inj H
    go_wp2_with (first | ((with_reducible refine gate_callee (f := 24) rfl ?_); refine goesL_ (some 31) rfl rfl Try.func24 (by kernel_rfl) rfl #[.slice A0 l0.length c0, .slice A1 l1.length c1, .int .i64 a2] rfl mp_ ?_; (with_reducible refine (spec_Stranded.calls kj4 _ _ l0 _ _ l1 a2 t244 _ ?side1 ?side2 ?side3 ?side4 A13.out).mono ?_); (case side1 => exact pc_ (Kd.C_below HR0.out HB.out)); (case side2 => exact HC0.out); (case side3 => exact pc_ (Kd.C_below HR1.out HB.out)); (case side4 => exact HC1.out); rintro e w15 ⟨v245, rfl, ho0, hb⟩; refine ⟨_, rfl, ?_⟩; have n0_ := Aside0.mk (Kd.R_lower ho0 (below_size (pb_ HB.out))); have n1_ := Aside0.mk (below_step (pb_ HB.out) hb); clear HB; have HO246 := n0_; have HB := n1_; clear n0_ n1_; (try clear hb); (try clear hb2); (try clear hk); (try clear hi); (try clear ho0); obtain ⟨Ao16, co16, eo16⟩ := Kd.R_slice HO246.out; subst eo16))
    go_ret
    exact ⟨er_, pb_ HB.out⟩
  rw [if_pos c14] at H
  have c14b0 : ((t244.length : Int) == 0) = true := beq_iff_eq.mpr c14
  have c14b1 : ((t244.length : Int) != 0) = false := bne_eq_false_iff_eq.mpr c14
  clear c14
  replace H := Option.bind_eq_some_iff.mp H
  obtain ⟨t247, A170, H⟩ := H
  (try dsimp only at H)
  have A17 := Aside0.mk A170
  clear A170
  obtain rfl := Option.some.inj H
  go_wp2_with (first | ((with_reducible refine gate_callee (f := 24) rfl ?_); refine goesL_ (some 31) rfl rfl Try.func24 (by kernel_rfl) rfl #[.slice A0 l0.length c0, .slice A1 l1.length c1, .int .i64 a2] rfl mp_ ?_; (with_reducible refine (spec_Stranded.calls kj4 _ _ l0 _ _ l1 a2 t244 _ ?side1 ?side2 ?side3 ?side4 A13.out).mono ?_); (case side1 => exact pc_ (Kd.C_below HR0.out HB.out)); (case side2 => exact HC0.out); (case side3 => exact pc_ (Kd.C_below HR1.out HB.out)); (case side4 => exact HC1.out); rintro e w18 ⟨v245, rfl, ho0, hb⟩; refine ⟨_, rfl, ?_⟩; have n0_ := Aside0.mk (Kd.R_lower ho0 (below_size (pb_ HB.out))); have n1_ := Aside0.mk (below_step (pb_ HB.out) hb); clear HB; have HO246 := n0_; have HB := n1_; clear n0_ n1_; (try clear hb); (try clear hb2); (try clear hk); (try clear hi); (try clear ho0); obtain ⟨Ao19, co19, eo19⟩ := Kd.R_slice HO246.out; subst eo19) | (go_at_call 16; (with_reducible refine (spec_UseOf.calls kj4 _ _ l0 _ _ l1 a2 t247 _ ?side1 ?side2 ?side3 ?side4 A17.out).mono ?_); (case side1 => exact pc_ (Kd.C_below HR0.out HB.out)); (case side2 => exact HC0.out); (case side3 => exact pc_ (Kd.C_below HR1.out HB.out)); (case side4 => exact HC1.out); rintro e w20 ⟨rfl, hb⟩; have n0_ := Aside0.mk (Kd.R_below (pr_ HO246.out) hb); have n1_ := Aside0.mk (below_step (pb_ HB.out) hb); clear HO246; clear HB; have HO246 := n0_; have HB := n1_; clear n0_ n1_; (try clear hb); (try clear hb2); (try clear hk); (try clear hi)))
  go_ret
  exact ⟨er_, pb_ HB.out⟩

/-! ### impl_without: function 75 -/
def impl_without.l0 : Nat → List Int → List Int → List Int → Int → Int → Option (List Int)
  | 0, _, _, _, _, _ => none
  | k + 1, x1, x5, x9, x10, x11 => if x11 < x10 then (if 0 ≤ x11 then (if x11 < (x9.length : Int) then ((slices_Contains_int_int.f k x1 (rd x9 x11)).bind fun t252 => (if t252 = true then (impl_without.l0 k x1 x5 x9 x10 (wrap64 (x11 + 1))) else (if x5.length < 17592186044416 then (impl_without.l0 k x1 (x5 ++ [rd x9 x11]) x9 x10 (wrap64 (x11 + 1))) else (none)))) else (none)) else (none)) else (some x5)
def impl_without.f (k : Nat) (l0 : List Int) (l1 : List Int) : Option (List Int) := impl_without.l0 k l1 (([] : List Int)) l0 (l0.length : Int) 0
theorem impl_without.mono_l : ∀ k, (∀ y0 y1 y2 y3 y4, LeO (impl_without.l0 k y0 y1 y2 y3 y4) (impl_without.l0 (k + 1) y0 y1 y2 y3 y4))
  | 0 => fun _ _ _ _ _ r h => by simp [impl_without.l0] at h
  | k + 1 => by
    have ih0 := impl_without.mono_l k
    · intro y0 y1 y2 y3 y4
      unfold impl_without.l0
      repeat' first
      | (with_reducible exact ih0 _ _ _ _ _)
      | (with_reducible exact slices_Contains_int_int.mono _ _ _)
      | (with_reducible exact LeO.refl _)
      | (with_reducible exact LeO.none _)
      | (with_reducible refine LeO.ite ?_ ?_)
      | (with_reducible refine LeO.bind ?_ (fun _ => ?_))
      | exact ih0 _ _ _ _ _
      | exact slices_Contains_int_int.mono _ _ _
      | exact LeO.none _
      | refine LeO.ite ?_ ?_
      | refine LeO.bind ?_ (fun _ => ?_)
theorem impl_without.mono : ∀ a0 a1 k, LeO (impl_without.f k a0 a1) (impl_without.f (k + 1) a0 a1) := by
  intro a0 a1 k
  have ih0 := impl_without.mono_l k
  unfold impl_without.f
  repeat' first
      | (with_reducible exact ih0 _ _ _ _ _)
      | (with_reducible exact slices_Contains_int_int.mono _ _ _)
      | (with_reducible exact LeO.refl _)
      | (with_reducible exact LeO.none _)
      | (with_reducible refine LeO.ite ?_ ?_)
      | (with_reducible refine LeO.bind ?_ (fun _ => ?_))
      | exact ih0 _ _ _ _ _
      | exact slices_Contains_int_int.mono _ _ _
      | exact LeO.none _
      | refine LeO.ite ?_ ?_
      | refine LeO.bind ?_ (fun _ => ?_)
set_option maxHeartbeats 8000000 in
set_option maxRecDepth 100000 in
theorem impl_without.calls (k : Nat) (A0 : Option Addr) (c0 : Nat) (l0 : List Int) (A1 : Option Addr) (c1 : Nat) (l1 : List Int) (r : List Int) (w : World) (hr0 : Kd.C (Kd.int .i64) w A0 l0.length l0) (hc0 : l0.length ≤ c0) (hr1 : Kd.C (Kd.int .i64) w A1 l1.length l1) (hc1 : l1.length ≤ c1) (h : impl_without.f k l0 l1 = some r) :
    Calls Try.prog 75 #[.slice A0 l0.length c0, .slice A1 l1.length c1] w fun e w' => ∃ v0_ : Value, e = .returned (v0_) ∧ Kd.R (Kd.int .i64) 3 w' w.heap.size (fun _ => True) v0_ r ∧ Below w.heap.size w w' := by
  have HR0 := Aside0.mk hr0
  have HC0 := Aside0.mk hc0
  clear hr0 hc0
  have HR1 := Aside0.mk hr1
  have HC1 := Aside0.mk hc1
  clear hr1 hc1
  have HB := Aside0.mk (Below.refl w.heap.size w)
  have H : (impl_without.l0 k l1 (([] : List Int)) l0 (l0.length : Int) 0) = some r := h
  clear h
  obtain ⟨y248, hy248⟩ : ∃ y_ : List Int, y_ = (([] : List Int)) := ⟨_, rfl⟩
  replace H : (impl_without.l0 k l1 y248 l0 (l0.length : Int) 0) = some r := by first | (rw [hy248]; with_reducible exact H) | (have H2_ := (Option.bind_some _ _).symm.trans H; rw [hy248]; with_reducible exact H2_) | (have H2_ := (Option.bind_some _ _).symm.trans H; with_reducible exact H2_) | with_reducible exact H | (rw [hy248]; exact H) | exact H
  have Ny248 := Aside0.mk hy248
  clear hy248
  have H' := Aside0.mk H
  clear H
  go_enter Try.func75, Try.ntmps75
  go_wp2_with (first | ((with_reducible refine gate_dst (N := 8) rfl ?_); refine Kd.R_lit (Kd.int .i64) _ 3 ?hg (N := 8) ?hd (xs := ([] : List Int)) (inner := []) (ok := fun _ => True) (okp := fun _ => True) ?hr ?hp (fun _ hk => hk) trivial (Below.refl _ _) (Nat.le_refl _) (by simp) ?_; (case hd => rfl); (case hg => rfl); (case hr => first | (go_simp; done) | (go_simp; rfl)); (case hp => exact (Reps.none _ _)); intro v249 w3 ho4 hb hg_ hnew_; clear hg_ hnew_; (first | rw [← Ny248.out] at ho4 | (simp only [Int.reduceToNat] at ho4; rw [← Ny248.out] at ho4)); have n0_ := Aside0.mk (Kd.R_lower ho4 (below_size (pb_ HB.out))); have n1_ := Aside0.mk (below_step (pb_ HB.out) hb); clear HB; have HO250 := n0_; have HB := n1_; clear n0_ n1_; clear hb ho4))
  (try simp only [Act.put, List.setIfInBounds_toArray, List.set_cons_zero, List.set_cons_succ])
  go_loopg [5, 11] k (fun kq v5 v11 w' => ∃ (x5_1 : List Int) (x11_1 : Int), v11 = .int .i64 x11_1 ∧ Aside0 (impl_without.l0 kq l1 x5_1 l0 (l0.length : Int) x11_1 = some r) ∧ Aside0 (kq ≤ k) ∧ Aside0 (Kd.R (Kd.int .i64) 3 w' w.heap.size (fun _ => True) v5 x5_1) ∧ Aside0 (Below w.heap.size w w'))
  case atStart => exact ⟨(y248), (0), el_, H', ⟨Nat.le_refl _⟩, ⟨pr_ HO250.out⟩, ⟨pb_ HB.out⟩⟩
  clear H'
  try clear c1
  try clear p2
  obtain ⟨x5_1, x11_1, rfl, HA, HK1, HO_5, HB⟩ := hrel
  rcases gk with _ | k1
  · exact absurd HA.out (by simp [impl_without.l0])
  have H := HA.out
  clear HA
  simp only [impl_without.l0] at H
  by_cases c5 : x11_1 < (l0.length : Int)
  rotate_left
  · rw [if_neg c5] at H
    have c5b0 : decide (x11_1 < (l0.length : Int)) = false := decide_eq_false c5
    clear c5
    obtain rfl := Option.some.inj H
    go_wp2
    go_ret
    exact ⟨_, er_, pr_ HO_5.out, pb_ HB.out⟩
  rw [if_pos c5] at H
  have c5b0 : decide (x11_1 < (l0.length : Int)) = true := decide_eq_true c5
  clear c5
  by_cases c6 : 0 ≤ x11_1
  rotate_left
  · rw [if_neg c6] at H
    exact absurd H (by simp)
  rw [if_pos c6] at H
  have c6b0 : decide (0 ≤ x11_1) = true := decide_eq_true c6
  clear c6
  by_cases c7 : x11_1 < (l0.length : Int)
  rotate_left
  · rw [if_neg c7] at H
    exact absurd H (by simp)
  rw [if_pos c7] at H
  have c7b0 : decide (x11_1 < (l0.length : Int)) = true := decide_eq_true c7
  clear c7
  replace H := Option.bind_eq_some_iff.mp H
  obtain ⟨t252, A80, H⟩ := H
  (try dsimp only at H)
  have A8 := Aside0.mk A80
  clear A80
  have HS_ := Aside0.mk H
  clear H
  have p251 : 0 ≤ (x11_1 : Int) := dt_
  have q251 : x11_1 < (l0.length : Int) := dt_
  obtain ⟨ad251, e251, hx251_0⟩ := Kd.at_int HR0.out x11_1 p251 q251
  cases e251
  replace hx251_0 := (HB.out.cell (World.block_lt_of_cell? w _ hx251_0)).trans hx251_0
  replace p251 := eq_true p251
  replace q251 := eq_true q251
  go_upto_if 18 with (first | ((with_reducible refine gate_callee (f := 78) rfl ?_); refine goesL_ (some 17) rfl rfl Try.func78 (by kernel_rfl) rfl #[.slice A1 l1.length c1, .int .i64 (rd l0 x11_1)] rfl mp_ ?_; (with_reducible refine (slices_Contains_int_int.calls k1 _ _ l1 (rd l0 x11_1) t252 _ ?side1 ?side2 A8.out).mono ?_); (case side1 => exact pc_ (Kd.C_below HR1.out HB.out)); (case side2 => exact HC1.out); rintro e w' ⟨rfl, ⟨nd, rfl⟩⟩; refine ⟨_, rfl, ?_⟩))
  (try simp only [Act.put, List.setIfInBounds_toArray, List.set_cons_zero, List.set_cons_succ])
  have H := HS_.out
  clear HS_
  by_cases c9 : t252 = true
  · subst c9
    rw [if_pos rfl] at H
    have H' := Aside0.mk H
    clear H
    go_wp2
    go_roundg k1
    case measure => have := HK1.out; omega
    case rel => exact ⟨(x5_1), (wrap64 (x11_1 + 1)), el_, H', ⟨by have := HK1.out; omega⟩, ⟨pr_ HO_5.out⟩, ⟨pb_ HB.out⟩⟩
  replace c9 := Bool.eq_false_iff.mpr c9
  subst c9
  rw [if_neg (show ¬ (false = true) by decide)] at H
  by_cases c10 : x5_1.length < 17592186044416
  rotate_left
  · rw [if_neg c10] at H
    exact absurd H (by simp)
  rw [if_pos c10] at H
  have LMc10 := Aside0.mk c10
  clear c10
  obtain ⟨y253, hy253⟩ : ∃ y_ : List Int, y_ = (x5_1 ++ [rd l0 x11_1]) := ⟨_, rfl⟩
  replace H : (impl_without.l0 k1 l1 y253 l0 (l0.length : Int) (wrap64 (x11_1 + 1))) = some r := by first | (rw [hy253]; with_reducible exact H) | (have H2_ := (Option.bind_some _ _).symm.trans H; rw [hy253]; with_reducible exact H2_) | (have H2_ := (Option.bind_some _ _).symm.trans H; with_reducible exact H2_) | with_reducible exact H | (rw [hy253]; exact H) | exact H
  have Ny253 := Aside0.mk hy253
  clear hy253
  have H' := Aside0.mk H
  clear H
  go_wp2_with (first | ((with_reducible refine gate_builtin (b := .append) (xs := #[.tmp 19, .tmp 21]) rfl ?_); at_builtin; refine Kd.R_append (Kd.int .i64) (w0 := w) w.heap.size rfl (.tmp 19) (.tmp 21) 22 3 (.int .i64 0) 8 rfl Try.underlying22 info3 rfl (by decide) (by omega) u5 x5_1 (rd l0 x11_1) [.int .i64 (rd l0 x11_1)] (fun _ => True) (fun _ => False) rfl rfl ?aP (fun _ hk => hk.elim) ?aF ?aO ?aB ?aS ?aL ?_; (case aP => exact rfl); (case aB => exact (pb_ HB.out)); (case aF => exact (fun _ _ => trivial)); (case aO => exact (pr_ HO_5.out)); (case aS => exact (below_size (pb_ HB.out))); (case aL => have := LMc10.out; omega); intro v254 w11 ho hb hg hat; rw [← Ny253.out] at ho; have n0_ := Aside0.mk (hb); have n1_ := Aside0.mk (ho); clear HB; clear HO_5; have HB := n0_; have HO255 := n1_; clear n0_ n1_; clear ho hb hg hat))
  go_roundg k1
  case measure => have := HK1.out; omega
  case rel => exact ⟨(y253), (wrap64 (x11_1 + 1)), el_, H', ⟨by have := HK1.out; omega⟩, ⟨pr_ HO255.out⟩, ⟨pb_ HB.out⟩⟩

/-! ### impl_Stranded: function 25 -/
def impl_Stranded.l0 : Nat → List Int → List Int → List Int → List (List Int) → Int → Int → Option (List Int)
  | 0, _, _, _, _, _, _ => none
  | k + 1, x0, x7, x8, x16, x17, x18 => if x18 < x17 then (if 0 ≤ x18 then (if x18 < (x16.length : Int) then ((impl_BestCommon.f k x0 (rd_L1 x16 x18)).bind fun t266 => (if t266 > 0 then ((impl_BestCommon.f k x8 (rd_L1 x16 x18)).bind fun t267 => (if t267 = 0 then (if x7.length < 17592186044416 then (impl_Stranded.l0 k x0 (x7 ++ [x18]) x8 x16 x17 (wrap64 (x18 + 1))) else (none)) else (impl_Stranded.l0 k x0 x7 x8 x16 x17 (wrap64 (x18 + 1))))) else (impl_Stranded.l0 k x0 x7 x8 x16 x17 (wrap64 (x18 + 1))))) else (none)) else (none)) else (some x7)
def impl_Stranded.f (k : Nat) (l0 : List Int) (l1 : List (List Int)) (a2 : Int) : Option (List Int) := (impl_without.f k l0 (([a2] : List Int))).bind fun t262 => (impl_Stranded.l0 k l0 (([] : List Int)) t262 l1 (l1.length : Int) 0)
theorem impl_Stranded.mono_l : ∀ k, (∀ y0 y1 y2 y3 y4 y5, LeO (impl_Stranded.l0 k y0 y1 y2 y3 y4 y5) (impl_Stranded.l0 (k + 1) y0 y1 y2 y3 y4 y5))
  | 0 => fun _ _ _ _ _ _ r h => by simp [impl_Stranded.l0] at h
  | k + 1 => by
    have ih0 := impl_Stranded.mono_l k
    · intro y0 y1 y2 y3 y4 y5
      unfold impl_Stranded.l0
      repeat' first
      | (with_reducible exact ih0 _ _ _ _ _ _)
      | (with_reducible exact impl_BestCommon.mono _ _ _)
      | (with_reducible exact impl_without.mono _ _ _)
      | (with_reducible exact LeO.refl _)
      | (with_reducible exact LeO.none _)
      | (with_reducible refine LeO.ite ?_ ?_)
      | (with_reducible refine LeO.bind ?_ (fun _ => ?_))
      | exact ih0 _ _ _ _ _ _
      | exact impl_BestCommon.mono _ _ _
      | exact impl_without.mono _ _ _
      | exact LeO.none _
      | refine LeO.ite ?_ ?_
      | refine LeO.bind ?_ (fun _ => ?_)
theorem impl_Stranded.mono : ∀ a0 a1 a2 k, LeO (impl_Stranded.f k a0 a1 a2) (impl_Stranded.f (k + 1) a0 a1 a2) := by
  intro a0 a1 a2 k
  have ih0 := impl_Stranded.mono_l k
  unfold impl_Stranded.f
  repeat' first
      | (with_reducible exact ih0 _ _ _ _ _ _)
      | (with_reducible exact impl_BestCommon.mono _ _ _)
      | (with_reducible exact impl_without.mono _ _ _)
      | (with_reducible exact LeO.refl _)
      | (with_reducible exact LeO.none _)
      | (with_reducible refine LeO.ite ?_ ?_)
      | (with_reducible refine LeO.bind ?_ (fun _ => ?_))
      | exact ih0 _ _ _ _ _ _
      | exact impl_BestCommon.mono _ _ _
      | exact impl_without.mono _ _ _
      | exact LeO.none _
      | refine LeO.ite ?_ ?_
      | refine LeO.bind ?_ (fun _ => ?_)
set_option maxHeartbeats 8000000 in
set_option maxRecDepth 100000 in
theorem impl_Stranded.calls (k : Nat) (A0 : Option Addr) (c0 : Nat) (l0 : List Int) (A1 : Option Addr) (c1 : Nat) (l1 : List (List Int)) (a2 : Int) (r : List Int) (w : World) (hr0 : Kd.C (Kd.int .i64) w A0 l0.length l0) (hc0 : l0.length ≤ c0) (hr1 : Kd.C (Kd.slice 3 (Kd.int .i64)) w A1 l1.length l1) (hc1 : l1.length ≤ c1) (h : impl_Stranded.f k l0 l1 a2 = some r) :
    Calls Try.prog 25 #[.slice A0 l0.length c0, .slice A1 l1.length c1, .int .i64 a2] w fun e w' => ∃ v0_ : Value, e = .returned (v0_) ∧ Kd.R (Kd.int .i64) 3 w' w.heap.size (fun _ => True) v0_ r ∧ Below w.heap.size w w' := by
  have HR0 := Aside0.mk hr0
  have HC0 := Aside0.mk hc0
  clear hr0 hc0
  have HR1 := Aside0.mk hr1
  have HC1 := Aside0.mk hc1
  clear hr1 hc1
  have HB := Aside0.mk (Below.refl w.heap.size w)
  have H : ((impl_without.f k l0 (([a2] : List Int))).bind fun t262 => (impl_Stranded.l0 k l0 (([] : List Int)) t262 l1 (l1.length : Int) 0)) = some r := h
  clear h
  obtain ⟨y256, hy256⟩ : ∃ y_ : List Int, y_ = (([] : List Int)) := ⟨_, rfl⟩
  replace H : ((impl_without.f k l0 (([a2] : List Int))).bind fun t262 => (impl_Stranded.l0 k l0 y256 t262 l1 (l1.length : Int) 0)) = some r := by first | (rw [hy256]; with_reducible exact H) | (have H2_ := (Option.bind_some _ _).symm.trans H; rw [hy256]; with_reducible exact H2_) | (have H2_ := (Option.bind_some _ _).symm.trans H; with_reducible exact H2_) | with_reducible exact H | (rw [hy256]; exact H) | exact H
  have Ny256 := Aside0.mk hy256
  clear hy256
  obtain ⟨y259, hy259⟩ : ∃ y_ : List Int, y_ = (([a2] : List Int)) := ⟨_, rfl⟩
  replace H : ((impl_without.f k l0 y259).bind fun t262 => (impl_Stranded.l0 k l0 y256 t262 l1 (l1.length : Int) 0)) = some r := by first | (rw [hy259]; with_reducible exact H) | (have H2_ := (Option.bind_some _ _).symm.trans H; rw [hy259]; with_reducible exact H2_) | (have H2_ := (Option.bind_some _ _).symm.trans H; with_reducible exact H2_) | with_reducible exact H | (rw [hy259]; exact H) | exact H
  have Ny259 := Aside0.mk hy259
  clear hy259
  replace H := Option.bind_eq_some_iff.mp H
  obtain ⟨t262, A40, H⟩ := H
  replace H : (impl_Stranded.l0 k l0 y256 t262 l1 (l1.length : Int) 0) = some r := H
  have A4 := Aside0.mk A40
  clear A40
  have H' := Aside0.mk H
  clear H
  go_enter Try.func25, Try.ntmps25
  go_wp2_with (first | ((with_reducible refine gate_dst (N := 11) rfl ?_); refine Kd.R_lit (Kd.int .i64) _ 3 ?hg (N := 11) ?hd (xs := ([] : List Int)) (inner := []) (ok := fun _ => True) (okp := fun _ => True) ?hr ?hp (fun _ hk => hk) trivial (Below.refl _ _) (Nat.le_refl _) (by simp) ?_; (case hd => rfl); (case hg => rfl); (case hr => first | (go_simp; done) | (go_simp; rfl)); (case hp => exact (Reps.none _ _)); intro v257 w5 ho6 hb hg_ hnew_; clear hg_ hnew_; (first | rw [← Ny256.out] at ho6 | (simp only [Int.reduceToNat] at ho6; rw [← Ny256.out] at ho6)); have n0_ := Aside0.mk (Kd.R_lower ho6 (below_size (pb_ HB.out))); have n1_ := Aside0.mk (below_step (pb_ HB.out) hb); clear HB; have HO258 := n0_; have HB := n1_; clear n0_ n1_; clear hb ho6) | ((with_reducible refine gate_dst (N := 14) rfl ?_); refine Kd.R_lit (Kd.int .i64) _ 3 ?hg (N := 14) ?hd (xs := ([a2] : List Int)) (inner := [.int .i64 a2]) (ok := fun _ => True) (okp := fun _ => True) ?hr ?hp (fun _ hk => hk) trivial (Below.refl _ _) (Nat.le_refl _) (by simp) ?_; (case hd => rfl); (case hg => rfl); (case hr => first | (go_simp; done) | (go_simp; rfl)); (case hp => exact (Reps.one (show Kd.M (Kd.int .i64) _ _ _ a2 [.int .i64 a2] from rfl) (Reps.none _ _))); intro v260 w7 ho8 hb hg_ hnew_; clear hg_ hnew_; (first | rw [← Ny259.out] at ho8 | (simp only [Int.reduceToNat] at ho8; rw [← Ny259.out] at ho8)); have n0_ := Aside0.mk (Kd.R_elder' (pr_ HO258.out) (Kd.R_base ho8) hb); have n1_ := Aside0.mk (Kd.R_lower (Kd.R_new' ho8 (Kd.R_lt (pr_ HO258.out))) (below_size (pb_ HB.out))); have n2_ := Aside0.mk (below_step (pb_ HB.out) hb); clear HO258; clear HB; have HO258 := n0_; have HO261 := n1_; have HB := n2_; clear n0_ n1_ n2_; clear hb ho8; obtain ⟨Ao9, co9, eo9⟩ := Kd.R_slice HO261.out; subst eo9) | ((with_reducible refine gate_callee (f := 75) rfl ?_); refine goesL_ (some 15) rfl rfl Try.func75 (by kernel_rfl) rfl #[.slice A0 l0.length c0, .slice Ao9 y259.length co9] rfl mp_ ?_; (with_reducible refine (impl_without.calls k _ _ l0 _ _ y259 t262 _ ?side1 ?side2 ?side3 ?side4 A4.out).mono ?_); (case side1 => exact pc_ (Kd.C_below HR0.out HB.out)); (case side2 => exact HC0.out); (case side3 => exact pc_ ((Kd.R_reads' HO261.out).2.2)); (case side4 => exact (Kd.R_reads' HO261.out).2.1); rintro e w10 ⟨v263, rfl, ho0, hb⟩; refine ⟨_, rfl, ?_⟩; have n0_ := Aside0.mk (Kd.R_elder' (pr_ HO258.out) (Kd.R_base ho0) hb); have n1_ := Aside0.mk (Kd.R_elder' (pr_ HO261.out) (Kd.R_base ho0) hb); have n2_ := Aside0.mk (Kd.R_lower (Kd.R_new' (Kd.R_new' ho0 (Kd.R_lt (pr_ HO258.out))) (Kd.R_lt (pr_ HO261.out))) (below_size (pb_ HB.out))); have n3_ := Aside0.mk (below_step (pb_ HB.out) hb); clear HO258; clear HO261; clear HB; have HO258 := n0_; have HO261 := n1_; have HO264 := n2_; have HB := n3_; clear n0_ n1_ n2_ n3_; (try clear hb); (try clear hb2); (try clear hk); (try clear hi); (try clear ho0)))
  (try simp only [Act.put, List.setIfInBounds_toArray, List.set_cons_zero, List.set_cons_succ])
  go_loopg [7, 18] k (fun kq v7 v18 w' => ∃ (x7_1 : List Int) (x18_1 : Int), v18 = .int .i64 x18_1 ∧ Aside0 (impl_Stranded.l0 kq l0 x7_1 t262 l1 (l1.length : Int) x18_1 = some r) ∧ Aside0 (kq ≤ k) ∧ Aside0 (Kd.R (Kd.int .i64) 3 w' w.heap.size (fun k_ => some k_ ≠ (v263 : Value).ownBlock) v7 x7_1) ∧ Aside0 (Kd.R (Kd.int .i64) 3 w' w.heap.size (fun k_ => some k_ ≠ (v7 : Value).ownBlock) v263 t262) ∧ Aside0 (Below w.heap.size w w'))
  case atStart => exact ⟨(y256), (0), el_, H', ⟨Nat.le_refl _⟩, ⟨pr_ (Kd.R_mono HO258.out (fun _ hk => hk.2))⟩, ⟨pr_ (Kd.R_mono HO264.out (fun _ hk => hk.1.2))⟩, ⟨pb_ HB.out⟩⟩
  clear H'
  try clear c1
  try clear c2
  try clear p2
  try clear c7
  obtain ⟨x7_1, x18_1, rfl, HA, HK1, HO_7, HO_8, HB⟩ := hrel
  rcases gk with _ | k1
  · exact absurd HA.out (by simp [impl_Stranded.l0])
  have H := HA.out
  clear HA
  simp only [impl_Stranded.l0] at H
  by_cases c11 : x18_1 < (l1.length : Int)
  rotate_left
  · rw [if_neg c11] at H
    have c11b0 : decide (x18_1 < (l1.length : Int)) = false := decide_eq_false c11
    clear c11
    obtain rfl := Option.some.inj H
    go_wp2
    go_ret
    exact ⟨_, er_, pr_ (Kd.R_mono HO_7.out (fun _ hk => trivial)), pb_ HB.out⟩
  rw [if_pos c11] at H
  have c11b0 : decide (x18_1 < (l1.length : Int)) = true := decide_eq_true c11
  clear c11
  by_cases c12 : 0 ≤ x18_1
  rotate_left
  · rw [if_neg c12] at H
    exact absurd H (by simp)
  rw [if_pos c12] at H
  have c12b0 : decide (0 ≤ x18_1) = true := decide_eq_true c12
  clear c12
  by_cases c13 : x18_1 < (l1.length : Int)
  rotate_left
  · rw [if_neg c13] at H
    exact absurd H (by simp)
  rw [if_pos c13] at H
  have c13b0 : decide (x18_1 < (l1.length : Int)) = true := decide_eq_true c13
  clear c13
  replace H := Option.bind_eq_some_iff.mp H
  obtain ⟨t266, A140, H⟩ := H
  (try dsimp only at H)
  have A14 := Aside0.mk A140
  clear A140
  by_cases c15 : t266 > 0
  rotate_left
  · rw [if_neg c15] at H
    have c15b0 : decide (0 < t266) = false := decide_eq_false c15
    clear c15
    have H' := Aside0.mk H
    clear H
    have p265 : 0 ≤ (x18_1 : Int) := dt_
    have q265 : x18_1 < (l1.length : Int) := dt_
    obtain ⟨ad265, A265_0, c265_0, e265, hx265_0, hl265_0, hi265_0⟩ := at_L1 HR1.out x18_1 p265 q265
    cases e265
    replace hx265_0 := (HB.out.cell (World.block_lt_of_cell? w _ hx265_0)).trans hx265_0
    have HR265_0 := Aside0.mk hi265_0
    have HC265_0 := Aside0.mk hl265_0
    clear hi265_0 hl265_0
    replace p265 := eq_true p265
    replace q265 := eq_true q265
    go_wp2_with (first | ((with_reducible refine gate_callee (f := 70) rfl ?_); refine goesL_ (some 25) rfl rfl Try.func70 (by kernel_rfl) rfl #[.slice A0 l0.length c0, .slice A265_0 (rd_L1 l1 x18_1).length c265_0] rfl mp_ ?_; (with_reducible refine (impl_BestCommon.calls k1 _ _ l0 _ _ (rd_L1 l1 x18_1) t266 _ ?side1 ?side2 ?side3 ?side4 A14.out).mono ?_); (case side1 => exact pc_ (Kd.C_below HR0.out HB.out)); (case side2 => exact HC0.out); (case side3 => exact pc_ (Kd.C_below HR265_0.out HB.out)); (case side4 => exact HC265_0.out); rintro e w16 ⟨rfl, hb⟩; refine ⟨_, rfl, ?_⟩; have n0_ := Aside0.mk (Kd.R_below (pr_ HO_7.out) hb); have n1_ := Aside0.mk (Kd.R_below (pr_ HO_8.out) hb); have n2_ := Aside0.mk (below_step (pb_ HB.out) hb); clear HO_7; clear HO_8; clear HB; have HO_7 := n0_; have HO_8 := n1_; have HB := n2_; clear n0_ n1_ n2_; (try clear hb); (try clear hb2); (try clear hk); (try clear hi)))
    go_roundg k1
    case measure => have := HK1.out; omega
    case rel => exact ⟨(x7_1), (wrap64 (x18_1 + 1)), el_, H', ⟨by have := HK1.out; omega⟩, ⟨pr_ HO_7.out⟩, ⟨pr_ HO_8.out⟩, ⟨pb_ HB.out⟩⟩
  rw [if_pos c15] at H
  have c15b0 : decide (0 < t266) = true := decide_eq_true c15
  clear c15
  replace H := Option.bind_eq_some_iff.mp H
  obtain ⟨t267, A170, H⟩ := H
  (try dsimp only at H)
  have A17 := Aside0.mk A170
  clear A170
  have HS_ := Aside0.mk H
  clear H
  have p265 : 0 ≤ (x18_1 : Int) := dt_
  have q265 : x18_1 < (l1.length : Int) := dt_
  obtain ⟨ad265, A265_0, c265_0, e265, hx265_0, hl265_0, hi265_0⟩ := at_L1 HR1.out x18_1 p265 q265
  cases e265
  replace hx265_0 := (HB.out.cell (World.block_lt_of_cell? w _ hx265_0)).trans hx265_0
  have HR265_0 := Aside0.mk hi265_0
  have HC265_0 := Aside0.mk hl265_0
  clear hi265_0 hl265_0
  replace p265 := eq_true p265
  replace q265 := eq_true q265
  go_upto_if 32 with (first | ((with_reducible refine gate_callee (f := 70) rfl ?_); refine goesL_ (some 25) rfl rfl Try.func70 (by kernel_rfl) rfl #[.slice A0 l0.length c0, .slice A265_0 (rd_L1 l1 x18_1).length c265_0] rfl mp_ ?_; (with_reducible refine (impl_BestCommon.calls k1 _ _ l0 _ _ (rd_L1 l1 x18_1) t266 _ ?side1 ?side2 ?side3 ?side4 A14.out).mono ?_); (case side1 => exact pc_ (Kd.C_below HR0.out HB.out)); (case side2 => exact HC0.out); (case side3 => exact pc_ (Kd.C_below HR265_0.out HB.out)); (case side4 => exact HC265_0.out); rintro e w18 ⟨rfl, hb⟩; refine ⟨_, rfl, ?_⟩; have n0_ := Aside0.mk (Kd.R_below (pr_ HO_7.out) hb); have n1_ := Aside0.mk (Kd.R_below (pr_ HO_8.out) hb); have n2_ := Aside0.mk (below_step (pb_ HB.out) hb); clear HO_7; clear HO_8; clear HB; have HO_7 := n0_; have HO_8 := n1_; have HB := n2_; clear n0_ n1_ n2_; (try clear hb); (try clear hb2); (try clear hk); (try clear hi); obtain ⟨Ao19, co19, eo19⟩ := Kd.R_slice HO_8.out; subst eo19) | (go_at_call 70; (with_reducible refine (impl_BestCommon.calls k1 _ _ t262 _ _ (rd_L1 l1 x18_1) t267 _ ?side1 ?side2 ?side3 ?side4 A17.out).mono ?_); (case side1 => exact pc_ ((Kd.R_reads' HO_8.out).2.2)); (case side2 => exact (Kd.R_reads' HO_8.out).2.1); (case side3 => exact pc_ (Kd.C_below HR265_0.out HB.out)); (case side4 => exact HC265_0.out); rintro e w20 ⟨rfl, hb⟩; have n0_ := Aside0.mk (Kd.R_below (pr_ HO_7.out) hb); have n1_ := Aside0.mk (Kd.R_below (pr_ HO_8.out) hb); have n2_ := Aside0.mk (below_step (pb_ HB.out) hb); clear HO_7; clear HO_8; clear HB; have HO_7 := n0_; have HO_8 := n1_; have HB := n2_; clear n0_ n1_ n2_; (try clear hb); (try clear hb2); (try clear hk); (try clear hi)))
  (try simp only [Act.put, List.setIfInBounds_toArray, List.set_cons_zero, List.set_cons_succ])
  have H := HS_.out
  clear HS_
  by_cases c21 : t267 = 0
  rotate_left
  · rw [if_neg c21] at H
    have c21b0 : (t267 == 0) = false := beq_eq_false_iff_ne.mpr c21
    have c21b1 : (t267 != 0) = true := bne_iff_ne.mpr c21
    (first | rw [c21b0] | (simp only [i64_w, i32_w]; rw [c21b0]) | rw [c21b1] | (have c_ := c21b1; rw [bne] at c_; rw [c_]; clear c_) | skip)
    have H' := Aside0.mk H
    clear H
    go_wp2
    go_roundg k1
    case measure => have := HK1.out; omega
    case rel => exact ⟨(x7_1), (wrap64 (x18_1 + 1)), el_, H', ⟨by have := HK1.out; omega⟩, ⟨pr_ HO_7.out⟩, ⟨pr_ HO_8.out⟩, ⟨pb_ HB.out⟩⟩
  rw [if_pos c21] at H
  have c21b0 : (t267 == 0) = true := beq_iff_eq.mpr c21
  have c21b1 : (t267 != 0) = false := bne_eq_false_iff_eq.mpr c21
  clear c21
  (first | rw [c21b0] | (simp only [i64_w, i32_w]; rw [c21b0]) | rw [c21b1] | (have c_ := c21b1; rw [bne] at c_; rw [c_]; clear c_) | skip)
  by_cases c22 : x7_1.length < 17592186044416
  rotate_left
  · rw [if_neg c22] at H
    exact absurd H (by simp)
  rw [if_pos c22] at H
  have LMc22 := Aside0.mk c22
  clear c22
  obtain ⟨y268, hy268⟩ : ∃ y_ : List Int, y_ = (x7_1 ++ [x18_1]) := ⟨_, rfl⟩
  replace H : (impl_Stranded.l0 k1 l0 y268 t262 l1 (l1.length : Int) (wrap64 (x18_1 + 1))) = some r := by first | (rw [hy268]; with_reducible exact H) | (have H2_ := (Option.bind_some _ _).symm.trans H; rw [hy268]; with_reducible exact H2_) | (have H2_ := (Option.bind_some _ _).symm.trans H; with_reducible exact H2_) | with_reducible exact H | (rw [hy268]; exact H) | exact H
  have Ny268 := Aside0.mk hy268
  clear hy268
  have H' := Aside0.mk H
  clear H
  go_wp2_with (first | ((with_reducible refine gate_builtin (b := .append) (xs := #[.tmp 33, .tmp 35]) rfl ?_); at_builtin; refine Kd.R_append (Kd.int .i64) (w0 := w) w.heap.size rfl (.tmp 33) (.tmp 35) 22 3 (.int .i64 0) 8 rfl Try.underlying22 info3 rfl (by decide) (by omega) u7 x7_1 x18_1 [.int .i64 x18_1] (fun k_ => some k_ ≠ (.slice Ao19 t262.length co19 : Value).ownBlock) (fun _ => False) rfl rfl ?aP (fun _ hk => hk.elim) ?aF ?aO ?aB ?aS ?aL ?_; (case aP => exact rfl); (case aB => exact (pb_ HB.out)); (case aF => exact (fun k_ hk => Kd.fresh' (Kd.R_lt (pr_ HO_8.out)) k_ hk)); (case aO => exact (pr_ HO_7.out)); (case aS => exact (below_size (pb_ HB.out))); (case aL => have := LMc22.out; omega); intro v269 w23 ho hb hg hat; rw [← Ny268.out] at ho; have n0_ := Aside0.mk (Kd.R_after (ok := (fun _ => True)) (by (with_reducible repeat (first | apply Kd.R_alloc | apply Kd.R_drewN | apply Kd.R_drew)); exact Kd.R_mono HO_8.out (fun _ hk => ⟨trivial, hk⟩)) hg hat); have n1_ := Aside0.mk (hb); have n2_ := Aside0.mk (ho); clear HO_8; clear HB; clear HO_7; have HO_8 := n0_; have HB := n1_; have HO270 := n2_; clear n0_ n1_ n2_; clear ho hb hg hat))
  go_roundg k1
  case measure => have := HK1.out; omega
  case rel => exact ⟨(y268), (wrap64 (x18_1 + 1)), el_, H', ⟨by have := HK1.out; omega⟩, ⟨pr_ HO270.out⟩, ⟨pr_ (Kd.R_mono HO_8.out (fun _ hk => hk.2))⟩, ⟨pb_ HB.out⟩⟩

/-! ### impl_MayRetire: function 30 -/
def impl_MayRetire.j0 : Nat → List Int → List (List Int) → Int → Int → Bool → Option (Bool)
  | 0, _, _, _, _, _ => none
  | k + 1, x0, x1, x2, x3, x27 => if x27 = true then (some false) else ((impl_Stranded.f k x0 x1 x2).bind fun t274 => (if (t274.length : Int) = 0 then ((impl_UseOf.f k x0 x1 x2).bind fun t277 => (some (decide ((wrap64 (1000 * t277)) ≤ (wrap64 (x3 * (x1.length : Int))))))) else (some false)))
def impl_MayRetire.f (k : Nat) (l0 : List Int) (l1 : List (List Int)) (a2 : Int) (a3 : Int) : Option (Bool) := (impl_AreVersions.f k l0).bind fun t271 => (if t271 = true then ((slices_Contains_int_int.f k l0 a2).bind fun t272 => (if t272 = true then (if (l0.length : Int) = 1 then (impl_MayRetire.j0 k l0 l1 a2 a3 true) else ((impl_InRange.f a3 0 1000).bind fun t273 => (impl_MayRetire.j0 k l0 l1 a2 a3 (!t273)))) else (impl_MayRetire.j0 k l0 l1 a2 a3 true))) else (impl_MayRetire.j0 k l0 l1 a2 a3 true))
theorem impl_MayRetire.mono_l : ∀ k, (∀ y0 y1 y2 y3 y4, LeO (impl_MayRetire.j0 k y0 y1 y2 y3 y4) (impl_MayRetire.j0 (k + 1) y0 y1 y2 y3 y4))
  | 0 => fun _ _ _ _ _ r h => by simp [impl_MayRetire.j0] at h
  | k + 1 => by
    have ih0 := impl_MayRetire.mono_l k
    · intro y0 y1 y2 y3 y4
      unfold impl_MayRetire.j0
      repeat' first
      | (with_reducible exact ih0 _ _ _ _ _)
      | (with_reducible exact impl_AreVersions.mono _ _)
      | (with_reducible exact impl_Stranded.mono _ _ _ _)
      | (with_reducible exact impl_UseOf.mono _ _ _ _)
      | (with_reducible exact slices_Contains_int_int.mono _ _ _)
      | (with_reducible exact LeO.refl _)
      | (with_reducible exact LeO.none _)
      | (with_reducible refine LeO.ite ?_ ?_)
      | (with_reducible refine LeO.bind ?_ (fun _ => ?_))
      | exact ih0 _ _ _ _ _
      | exact impl_AreVersions.mono _ _
      | exact impl_Stranded.mono _ _ _ _
      | exact impl_UseOf.mono _ _ _ _
      | exact slices_Contains_int_int.mono _ _ _
      | exact LeO.none _
      | refine LeO.ite ?_ ?_
      | refine LeO.bind ?_ (fun _ => ?_)
theorem impl_MayRetire.mono : ∀ a0 a1 a2 a3 k, LeO (impl_MayRetire.f k a0 a1 a2 a3) (impl_MayRetire.f (k + 1) a0 a1 a2 a3) := by
  intro a0 a1 a2 a3 k
  have ih0 := impl_MayRetire.mono_l k
  unfold impl_MayRetire.f
  repeat' first
      | (with_reducible exact ih0 _ _ _ _ _)
      | (with_reducible exact impl_AreVersions.mono _ _)
      | (with_reducible exact impl_Stranded.mono _ _ _ _)
      | (with_reducible exact impl_UseOf.mono _ _ _ _)
      | (with_reducible exact slices_Contains_int_int.mono _ _ _)
      | (with_reducible exact LeO.refl _)
      | (with_reducible exact LeO.none _)
      | (with_reducible refine LeO.ite ?_ ?_)
      | (with_reducible refine LeO.bind ?_ (fun _ => ?_))
      | exact ih0 _ _ _ _ _
      | exact impl_AreVersions.mono _ _
      | exact impl_Stranded.mono _ _ _ _
      | exact impl_UseOf.mono _ _ _ _
      | exact slices_Contains_int_int.mono _ _ _
      | exact LeO.none _
      | refine LeO.ite ?_ ?_
      | refine LeO.bind ?_ (fun _ => ?_)
set_option maxHeartbeats 8000000 in
set_option maxRecDepth 100000 in
theorem impl_MayRetire.calls (k : Nat) (A0 : Option Addr) (c0 : Nat) (l0 : List Int) (A1 : Option Addr) (c1 : Nat) (l1 : List (List Int)) (a2 : Int) (a3 : Int) (r : Bool) (w : World) (hr0 : Kd.C (Kd.int .i64) w A0 l0.length l0) (hc0 : l0.length ≤ c0) (hr1 : Kd.C (Kd.slice 3 (Kd.int .i64)) w A1 l1.length l1) (hc1 : l1.length ≤ c1) (h : impl_MayRetire.f k l0 l1 a2 a3 = some r) :
    Calls Try.prog 30 #[.slice A0 l0.length c0, .slice A1 l1.length c1, .int .i64 a2, .int .i64 a3] w fun e w' => e = .returned (.bool r) ∧ Below w.heap.size w w' := by
  have HR0 := Aside0.mk hr0
  have HC0 := Aside0.mk hc0
  clear hr0 hc0
  have HR1 := Aside0.mk hr1
  have HC1 := Aside0.mk hc1
  clear hr1 hc1
  have HB := Aside0.mk (Below.refl w.heap.size w)
  have H : ((impl_AreVersions.f k l0).bind fun t271 => (if t271 = true then ((slices_Contains_int_int.f k l0 a2).bind fun t272 => (if t272 = true then (if (l0.length : Int) = 1 then (impl_MayRetire.j0 k l0 l1 a2 a3 true) else ((impl_InRange.f a3 0 1000).bind fun t273 => (impl_MayRetire.j0 k l0 l1 a2 a3 (!t273)))) else (impl_MayRetire.j0 k l0 l1 a2 a3 true))) else (impl_MayRetire.j0 k l0 l1 a2 a3 true))) = some r := h
  clear h
  have HC5 := Aside0.mk H
  clear H
  go_enter Try.func30, Try.ntmps30
  go_upto_region 1 with (fail)
  go_cut [27] (fun v27 wc => ∃ (kq : Nat) (x27_4 : Bool), v27 = .bool x27_4 ∧ Aside0 (impl_MayRetire.j0 kq l0 l1 a2 a3 x27_4 = some r) ∧ Aside0 (kq ≤ k) ∧ Aside0 (Below w.heap.size w wc))
  case first =>
    have H := HC5.out
    clear HC5
    replace H := Option.bind_eq_some_iff.mp H
    obtain ⟨t271, A60, H⟩ := H
    (try dsimp only at H)
    have A6 := Aside0.mk A60
    clear A60
    by_cases c7 : t271 = true
    rotate_left
    · replace c7 := Bool.eq_false_iff.mpr c7
      subst c7
      rw [if_neg (show ¬ (false = true) by decide)] at H
      have H' := Aside0.mk H
      clear H
      go_wp2_with (first | ((with_reducible refine gate_callee (f := 37) rfl ?_); refine goesL_ (some 10) rfl rfl Try.func37 (by kernel_rfl) rfl #[.slice A0 l0.length c0] rfl mp_ ?_; (with_reducible refine (impl_AreVersions.calls k _ _ l0 false _ ?side1 ?side2 A6.out).mono ?_); (case side1 => exact pc_ (Kd.C_below HR0.out HB.out)); (case side2 => exact HC0.out); rintro e w' ⟨rfl, ⟨nd, rfl⟩⟩; refine ⟨_, rfl, ?_⟩))
      go_meet
      case rel => exact ⟨_, (true), el_, H', ⟨by first | omega | exact Nat.le_refl _⟩, ⟨pb_ HB.out⟩⟩
    subst c7
    rw [if_pos rfl] at H
    replace H := Option.bind_eq_some_iff.mp H
    obtain ⟨t272, A80, H⟩ := H
    (try dsimp only at H)
    have A8 := Aside0.mk A80
    clear A80
    by_cases c9 : t272 = true
    rotate_left
    · replace c9 := Bool.eq_false_iff.mpr c9
      subst c9
      rw [if_neg (show ¬ (false = true) by decide)] at H
      have H' := Aside0.mk H
      clear H
      go_wp2_with (first | ((with_reducible refine gate_callee (f := 37) rfl ?_); refine goesL_ (some 10) rfl rfl Try.func37 (by kernel_rfl) rfl #[.slice A0 l0.length c0] rfl mp_ ?_; (with_reducible refine (impl_AreVersions.calls k _ _ l0 true _ ?side1 ?side2 A6.out).mono ?_); (case side1 => exact pc_ (Kd.C_below HR0.out HB.out)); (case side2 => exact HC0.out); rintro e w' ⟨rfl, ⟨nd, rfl⟩⟩; refine ⟨_, rfl, ?_⟩) | (go_at_call 78; (with_reducible refine (slices_Contains_int_int.calls k _ _ l0 a2 false _ ?side1 ?side2 A8.out).mono ?_); (case side1 => exact pc_ (Kd.C_below HR0.out (pb_ HB.out))); (case side2 => exact HC0.out); rintro e w' ⟨rfl, ⟨nd, rfl⟩⟩))
      go_meet
      case rel => exact ⟨_, (true), el_, H', ⟨by first | omega | exact Nat.le_refl _⟩, ⟨pb_ HB.out⟩⟩
    subst c9
    rw [if_pos rfl] at H
    by_cases c10 : (l0.length : Int) = 1
    · rw [if_pos c10] at H
      have c10b0 : ((l0.length : Int) == 1) = true := beq_iff_eq.mpr c10
      have c10b1 : ((l0.length : Int) != 1) = false := bne_eq_false_iff_eq.mpr c10
      clear c10
      (first | rw [c10b0] | (simp only [i64_w, i32_w]; rw [c10b0]) | rw [c10b1] | (have c_ := c10b1; rw [bne] at c_; rw [c_]; clear c_) | skip)
      have H' := Aside0.mk H
      clear H
      go_wp2_with (first | ((with_reducible refine gate_callee (f := 37) rfl ?_); refine goesL_ (some 10) rfl rfl Try.func37 (by kernel_rfl) rfl #[.slice A0 l0.length c0] rfl mp_ ?_; (with_reducible refine (impl_AreVersions.calls k _ _ l0 true _ ?side1 ?side2 A6.out).mono ?_); (case side1 => exact pc_ (Kd.C_below HR0.out HB.out)); (case side2 => exact HC0.out); rintro e w' ⟨rfl, ⟨nd, rfl⟩⟩; refine ⟨_, rfl, ?_⟩) | (go_at_call 78; (with_reducible refine (slices_Contains_int_int.calls k _ _ l0 a2 true _ ?side1 ?side2 A8.out).mono ?_); (case side1 => exact pc_ (Kd.C_below HR0.out (pb_ HB.out))); (case side2 => exact HC0.out); rintro e w' ⟨rfl, ⟨nd, rfl⟩⟩))
      go_meet
      case rel => exact ⟨_, (true), el_, H', ⟨by first | omega | exact Nat.le_refl _⟩, ⟨pb_ HB.out⟩⟩
    rw [if_neg c10] at H
    have c10b0 : ((l0.length : Int) == 1) = false := beq_eq_false_iff_ne.mpr c10
    have c10b1 : ((l0.length : Int) != 1) = true := bne_iff_ne.mpr c10
    (first | rw [c10b0] | (simp only [i64_w, i32_w]; rw [c10b0]) | rw [c10b1] | (have c_ := c10b1; rw [bne] at c_; rw [c_]; clear c_) | skip)
    replace H := Option.bind_eq_some_iff.mp H
    obtain ⟨t273, A110, H⟩ := H
    replace H : (impl_MayRetire.j0 k l0 l1 a2 a3 (!t273)) = some r := H
    have A11 := Aside0.mk A110
    clear A110
    have H' := Aside0.mk H
    clear H
    go_wp2_with (first | ((with_reducible refine gate_callee (f := 37) rfl ?_); refine goesL_ (some 10) rfl rfl Try.func37 (by kernel_rfl) rfl #[.slice A0 l0.length c0] rfl mp_ ?_; (with_reducible refine (impl_AreVersions.calls k _ _ l0 true _ ?side1 ?side2 A6.out).mono ?_); (case side1 => exact pc_ (Kd.C_below HR0.out HB.out)); (case side2 => exact HC0.out); rintro e w' ⟨rfl, ⟨nd, rfl⟩⟩; refine ⟨_, rfl, ?_⟩) | (go_at_call 78; (with_reducible refine (slices_Contains_int_int.calls k _ _ l0 a2 true _ ?side1 ?side2 A8.out).mono ?_); (case side1 => exact pc_ (Kd.C_below HR0.out (pb_ HB.out))); (case side2 => exact HC0.out); rintro e w' ⟨rfl, ⟨nd, rfl⟩⟩) | (go_at_call 79; (with_reducible refine (impl_InRange.calls a3 0 1000 t273 _ A11.out).mono ?_); rintro e w' ⟨rfl, ⟨nd, rfl⟩⟩))
    go_meet
    case rel => exact ⟨_, (!t273), el_, H', ⟨by first | omega | exact Nat.le_refl _⟩, ⟨pb_ HB.out⟩⟩
  clear HC5
  try clear c1
  try clear p2
  try clear c3
  try clear c7
  try clear c9
  try clear c10
  try clear c10b0
  try clear c10b1
  obtain ⟨kq, x27_4, rfl, HA, HJ4, HB⟩ := hcut
  rcases kq with _ | kj4
  · exact absurd HA.out (by simp [impl_MayRetire.j0])
  have H := HA.out
  clear HA
  simp only [impl_MayRetire.j0] at H
  by_cases c12 : x27_4 = true
  · subst c12
    rw [if_pos rfl] at H
    obtain rfl := Option.some.inj H
    go_wp2
    go_ret
    exact ⟨er_, pb_ HB.out⟩
  replace c12 := Bool.eq_false_iff.mpr c12
  subst c12
  rw [if_neg (show ¬ (false = true) by decide)] at H
  replace H := Option.bind_eq_some_iff.mp H
  obtain ⟨t274, A130, H⟩ := H
  (try dsimp only at H)
  have A13 := Aside0.mk A130
  clear A130
  by_cases c14 : (t274.length : Int) = 0
  rotate_left
  · rw [if_neg c14] at H
    have c14b0 : ((t274.length : Int) == 0) = false := beq_eq_false_iff_ne.mpr c14
    have c14b1 : ((t274.length : Int) != 0) = true := bne_iff_ne.mpr c14
    have c14b2 : ¬ (t274 = []) := fun h_ => c14 (by rw [h_]; rfl)
    obtain rfl := Option.some.inj H
    go_wp2_with (first | ((with_reducible refine gate_callee (f := 25) rfl ?_); refine goesL_ (some 31) rfl rfl Try.func25 (by kernel_rfl) rfl #[.slice A0 l0.length c0, .slice A1 l1.length c1, .int .i64 a2] rfl mp_ ?_; (with_reducible refine (impl_Stranded.calls kj4 _ _ l0 _ _ l1 a2 t274 _ ?side1 ?side2 ?side3 ?side4 A13.out).mono ?_); (case side1 => exact pc_ (Kd.C_below HR0.out HB.out)); (case side2 => exact HC0.out); (case side3 => exact pc_ (Kd.C_below HR1.out HB.out)); (case side4 => exact HC1.out); rintro e w15 ⟨v275, rfl, ho0, hb⟩; refine ⟨_, rfl, ?_⟩; have n0_ := Aside0.mk (Kd.R_lower ho0 (below_size (pb_ HB.out))); have n1_ := Aside0.mk (below_step (pb_ HB.out) hb); clear HB; have HO276 := n0_; have HB := n1_; clear n0_ n1_; (try clear hb); (try clear hb2); (try clear hk); (try clear hi); (try clear ho0); obtain ⟨Ao16, co16, eo16⟩ := Kd.R_slice HO276.out; subst eo16))
    go_ret
    exact ⟨er_, pb_ HB.out⟩
  rw [if_pos c14] at H
  have c14b0 : ((t274.length : Int) == 0) = true := beq_iff_eq.mpr c14
  have c14b1 : ((t274.length : Int) != 0) = false := bne_eq_false_iff_eq.mpr c14
  clear c14
  replace H := Option.bind_eq_some_iff.mp H
  obtain ⟨t277, A170, H⟩ := H
  (try dsimp only at H)
  have A17 := Aside0.mk A170
  clear A170
  obtain rfl := Option.some.inj H
  go_wp2_with (first | ((with_reducible refine gate_callee (f := 25) rfl ?_); refine goesL_ (some 31) rfl rfl Try.func25 (by kernel_rfl) rfl #[.slice A0 l0.length c0, .slice A1 l1.length c1, .int .i64 a2] rfl mp_ ?_; (with_reducible refine (impl_Stranded.calls kj4 _ _ l0 _ _ l1 a2 t274 _ ?side1 ?side2 ?side3 ?side4 A13.out).mono ?_); (case side1 => exact pc_ (Kd.C_below HR0.out HB.out)); (case side2 => exact HC0.out); (case side3 => exact pc_ (Kd.C_below HR1.out HB.out)); (case side4 => exact HC1.out); rintro e w18 ⟨v275, rfl, ho0, hb⟩; refine ⟨_, rfl, ?_⟩; have n0_ := Aside0.mk (Kd.R_lower ho0 (below_size (pb_ HB.out))); have n1_ := Aside0.mk (below_step (pb_ HB.out) hb); clear HB; have HO276 := n0_; have HB := n1_; clear n0_ n1_; (try clear hb); (try clear hb2); (try clear hk); (try clear hi); (try clear ho0); obtain ⟨Ao19, co19, eo19⟩ := Kd.R_slice HO276.out; subst eo19) | (go_at_call 19; (with_reducible refine (impl_UseOf.calls kj4 _ _ l0 _ _ l1 a2 t277 _ ?side1 ?side2 ?side3 ?side4 A17.out).mono ?_); (case side1 => exact pc_ (Kd.C_below HR0.out HB.out)); (case side2 => exact HC0.out); (case side3 => exact pc_ (Kd.C_below HR1.out HB.out)); (case side4 => exact HC1.out); rintro e w20 ⟨rfl, hb⟩; have n0_ := Aside0.mk (Kd.R_below (pr_ HO276.out) hb); have n1_ := Aside0.mk (below_step (pb_ HB.out) hb); clear HO276; clear HB; have HO276 := n0_; have HB := n1_; clear n0_ n1_; (try clear hb); (try clear hb2); (try clear hk); (try clear hi)))
  go_ret
  exact ⟨er_, pb_ HB.out⟩

/-! ### impl_RetireVersion: function 32 -/
def impl_RetireVersion.f (k : Nat) (l0 : List Int) (l1 : List (List Int)) (a2 : Int) (a3 : Int) : Option (List Int × Bool) := (impl_MayRetire.f k l0 l1 a2 a3).bind fun t301 => (if t301 = true then ((impl_without.f k l0 (([a2] : List Int))).bind fun t305 => (some (t305, true))) else ((some (([] : List Int) : List Int)).bind fun y308 => (if y308.length + l0.length < 17592186044416 then (some ((y308 ++ l0), false)) else (none))))
theorem impl_RetireVersion.mono : ∀ a0 a1 a2 a3 k, LeO (impl_RetireVersion.f k a0 a1 a2 a3) (impl_RetireVersion.f (k + 1) a0 a1 a2 a3) := by
  intro a0 a1 a2 a3 k
  unfold impl_RetireVersion.f
  repeat' first
      | (with_reducible exact impl_MayRetire.mono _ _ _ _ _)
      | (with_reducible exact impl_without.mono _ _ _)
      | (with_reducible exact LeO.refl _)
      | (with_reducible exact LeO.none _)
      | (with_reducible refine LeO.ite ?_ ?_)
      | (with_reducible refine LeO.bind ?_ (fun _ => ?_))
      | exact impl_MayRetire.mono _ _ _ _ _
      | exact impl_without.mono _ _ _
      | exact LeO.none _
      | refine LeO.ite ?_ ?_
      | refine LeO.bind ?_ (fun _ => ?_)
set_option maxHeartbeats 8000000 in
set_option maxRecDepth 100000 in
theorem impl_RetireVersion.calls (k : Nat) (A0 : Option Addr) (c0 : Nat) (l0 : List Int) (A1 : Option Addr) (c1 : Nat) (l1 : List (List Int)) (a2 : Int) (a3 : Int) (r1 : List Int) (r2 : Bool) (w : World) (hr0 : Kd.C (Kd.int .i64) w A0 l0.length l0) (hc0 : l0.length ≤ c0) (hr1 : Kd.C (Kd.slice 3 (Kd.int .i64)) w A1 l1.length l1) (hc1 : l1.length ≤ c1) (h : impl_RetireVersion.f k l0 l1 a2 a3 = some (r1, r2)) :
    Calls Try.prog 32 #[.slice A0 l0.length c0, .slice A1 l1.length c1, .int .i64 a2, .int .i64 a3] w fun e w' => ∃ v0_ : Value, e = .returned (.tuple #[v0_, .bool r2]) ∧ Kd.R (Kd.int .i64) 3 w' w.heap.size (fun _ => True) v0_ r1 ∧ Below w.heap.size w w' := by
  have HR0 := Aside0.mk hr0
  have HC0 := Aside0.mk hc0
  clear hr0 hc0
  have HR1 := Aside0.mk hr1
  have HC1 := Aside0.mk hc1
  clear hr1 hc1
  have HB := Aside0.mk (Below.refl w.heap.size w)
  have H : ((impl_MayRetire.f k l0 l1 a2 a3).bind fun t301 => (if t301 = true then ((impl_without.f k l0 (([a2] : List Int))).bind fun t305 => (some (t305, true))) else ((some (([] : List Int) : List Int)).bind fun y308 => (if y308.length + l0.length < 17592186044416 then (some ((y308 ++ l0), false)) else (none))))) = some (r1, r2) := h
  clear h
  replace H := Option.bind_eq_some_iff.mp H
  obtain ⟨t301, A50, H⟩ := H
  (try dsimp only at H)
  have A5 := Aside0.mk A50
  clear A50
  have HS_ := Aside0.mk H
  clear H
  go_enter Try.func32, Try.ntmps32
  go_upto_if 15 with (first | ((with_reducible refine gate_callee (f := 30) rfl ?_); refine goesL_ (some 14) rfl rfl Try.func30 (by kernel_rfl) rfl #[.slice A0 l0.length c0, .slice A1 l1.length c1, .int .i64 a2, .int .i64 a3] rfl mp_ ?_; (with_reducible refine (impl_MayRetire.calls k _ _ l0 _ _ l1 a2 a3 t301 _ ?side1 ?side2 ?side3 ?side4 A5.out).mono ?_); (case side1 => exact pc_ HR0.out); (case side2 => exact HC0.out); (case side3 => exact pc_ HR1.out); (case side4 => exact HC1.out); rintro e w6 ⟨rfl, hb⟩; refine ⟨_, rfl, ?_⟩; have n0_ := Aside0.mk (below_step (pb_ HB.out) hb); clear HB; have HB := n0_; clear n0_; (try clear hb); (try clear hb2); (try clear hk); (try clear hi)))
  (try simp only [Act.put, List.setIfInBounds_toArray, List.set_cons_zero, List.set_cons_succ])
  have H := HS_.out
  clear HS_
  by_cases c7 : t301 = true
  · subst c7
    rw [if_pos rfl] at H
    obtain ⟨y302, hy302⟩ : ∃ y_ : List Int, y_ = (([a2] : List Int)) := ⟨_, rfl⟩
    replace H : ((impl_without.f k l0 y302).bind fun t305 => (some (t305, true))) = some (r1, r2) := by first | (rw [hy302]; with_reducible exact H) | (have H2_ := (Option.bind_some _ _).symm.trans H; rw [hy302]; with_reducible exact H2_) | (have H2_ := (Option.bind_some _ _).symm.trans H; with_reducible exact H2_) | with_reducible exact H | (rw [hy302]; exact H) | exact H
    have Ny302 := Aside0.mk hy302
    clear hy302
    replace H := Option.bind_eq_some_iff.mp H
    obtain ⟨t305, A80, H⟩ := H
    replace H : (some (t305, true)) = some (r1, r2) := H
    have A8 := Aside0.mk A80
    clear A80
    simp only [Option.some.injEq, Prod.mk.injEq] at H
    obtain ⟨rfl, rfl⟩ := H
    go_wp2_with (first | ((with_reducible refine gate_dst (N := 21) rfl ?_); refine Kd.R_lit (Kd.int .i64) _ 3 ?hg (N := 21) ?hd (xs := ([a2] : List Int)) (inner := [.int .i64 a2]) (ok := fun _ => True) (okp := fun _ => True) ?hr ?hp (fun _ hk => hk) trivial (Below.refl _ _) (Nat.le_refl _) (by simp) ?_; (case hd => rfl); (case hg => rfl); (case hr => first | (go_simp; done) | (go_simp; rfl)); (case hp => exact (Reps.one (show Kd.M (Kd.int .i64) _ _ _ a2 [.int .i64 a2] from rfl) (Reps.none _ _))); intro v303 w9 ho10 hb hg_ hnew_; clear hg_ hnew_; (first | rw [← Ny302.out] at ho10 | (simp only [Int.reduceToNat] at ho10; rw [← Ny302.out] at ho10)); have n0_ := Aside0.mk (Kd.R_lower ho10 (below_size (pb_ HB.out))); have n1_ := Aside0.mk (below_step (pb_ HB.out) hb); clear HB; have HO304 := n0_; have HB := n1_; clear n0_ n1_; clear hb ho10; obtain ⟨Ao11, co11, eo11⟩ := Kd.R_slice HO304.out; subst eo11) | ((with_reducible refine gate_callee (f := 75) rfl ?_); refine goesL_ (some 22) rfl rfl Try.func75 (by kernel_rfl) rfl #[.slice A0 l0.length c0, .slice Ao11 y302.length co11] rfl mp_ ?_; (with_reducible refine (impl_without.calls k _ _ l0 _ _ y302 t305 _ ?side1 ?side2 ?side3 ?side4 A8.out).mono ?_); (case side1 => exact pc_ (Kd.C_below HR0.out HB.out)); (case side2 => exact HC0.out); (case side3 => exact pc_ ((Kd.R_reads' HO304.out).2.2)); (case side4 => exact (Kd.R_reads' HO304.out).2.1); rintro e w12 ⟨v306, rfl, ho0, hb⟩; refine ⟨_, rfl, ?_⟩; have n0_ := Aside0.mk (Kd.R_elder' (pr_ HO304.out) (Kd.R_base ho0) hb); have n1_ := Aside0.mk (Kd.R_lower (Kd.R_new' ho0 (Kd.R_lt (pr_ HO304.out))) (below_size (pb_ HB.out))); have n2_ := Aside0.mk (below_step (pb_ HB.out) hb); clear HO304; clear HB; have HO304 := n0_; have HO307 := n1_; have HB := n2_; clear n0_ n1_ n2_; (try clear hb); (try clear hb2); (try clear hk); (try clear hi); (try clear ho0)))
    go_ret2
    exact ⟨_, er_, pr_ (Kd.R_mono HO307.out (fun _ hk => trivial)), pb_ HB.out⟩
  replace c7 := Bool.eq_false_iff.mpr c7
  subst c7
  rw [if_neg (show ¬ (false = true) by decide)] at H
  obtain ⟨y308, hy308⟩ : ∃ y_ : List Int, y_ = (([] : List Int)) := ⟨_, rfl⟩
  replace H : (if y308.length + l0.length < 17592186044416 then (some ((y308 ++ l0), false)) else (none)) = some (r1, r2) := by first | (rw [hy308]; with_reducible exact H) | (have H2_ := (Option.bind_some _ _).symm.trans H; rw [hy308]; with_reducible exact H2_) | (have H2_ := (Option.bind_some _ _).symm.trans H; with_reducible exact H2_) | with_reducible exact H | (rw [hy308]; exact H) | exact H
  have Ny308 := Aside0.mk hy308
  clear hy308
  by_cases c13 : y308.length + l0.length < 17592186044416
  rotate_left
  · rw [if_neg c13] at H
    exact absurd H (by simp)
  rw [if_pos c13] at H
  have LMc13 := Aside0.mk c13
  clear c13
  obtain ⟨y311, hy311⟩ : ∃ y_ : List Int, y_ = (y308 ++ l0) := ⟨_, rfl⟩
  replace H : (some (y311, false)) = some (r1, r2) := by first | (rw [hy311]; with_reducible exact H) | (have H2_ := (Option.bind_some _ _).symm.trans H; rw [hy311]; with_reducible exact H2_) | (have H2_ := (Option.bind_some _ _).symm.trans H; with_reducible exact H2_) | with_reducible exact H | (rw [hy311]; exact H) | exact H
  have Ny311 := Aside0.mk hy311
  clear hy311
  simp only [Option.some.injEq, Prod.mk.injEq] at H
  obtain ⟨rfl, rfl⟩ := H
  go_wp2_with (first | ((with_reducible refine gate_dst (N := 16) rfl ?_); refine Kd.R_lit (Kd.int .i64) _ 3 ?hg (N := 16) ?hd (xs := ([] : List Int)) (inner := []) (ok := fun _ => True) (okp := fun _ => True) ?hr ?hp (fun _ hk => hk) trivial (Below.refl _ _) (Nat.le_refl _) (by simp) ?_; (case hd => rfl); (case hg => rfl); (case hr => first | (go_simp; done) | (go_simp; rfl)); (case hp => exact (Reps.none _ _)); intro v309 w14 ho15 hb hg_ hnew_; clear hg_ hnew_; (first | rw [← Ny308.out] at ho15 | (simp only [Int.reduceToNat] at ho15; rw [← Ny308.out] at ho15)); have n0_ := Aside0.mk (Kd.R_lower ho15 (below_size (pb_ HB.out))); have n1_ := Aside0.mk (below_step (pb_ HB.out) hb); clear HB; have HO310 := n0_; have HB := n1_; clear n0_ n1_; clear hb ho15) | ((with_reducible refine gate_builtin (b := .append) (xs := #[.tmp 16, .tmp 17]) rfl ?_); at_builtin; refine Kd.R_append_rows (Kd.int .i64) (w0 := w) w.heap.size rfl (.tmp 16) (.tmp 17) 22 3 (.int .i64 0) 8 rfl Try.underlying22 info3 rfl (by decide) (by omega) v309 y308 l0 _ _ _ (fun _ => True) (fun _ => False) rfl rfl ?aO ?aR (fun _ _ h => h) (fun _ h => h.elim) ?aF ?aB ?aS ?aL ?_; (case aR => exact pc_ (Kd.C_below HR0.out HB.out)); (case aB => exact (pb_ HB.out)); (case aF => exact (fun _ _ => trivial)); (case aO => exact (pr_ HO310.out)); (case aS => exact (below_size (pb_ HB.out))); (case aL => have := LMc13.out; omega); intro v312 w16 ho hb hg hat; rw [← Ny311.out] at ho; have n0_ := Aside0.mk (hb); have n1_ := Aside0.mk (ho); clear HB; clear HO310; have HB := n0_; have HO313 := n1_; clear n0_ n1_; clear ho hb hg hat))
  go_ret2
  exact ⟨_, er_, pr_ HO313.out, pb_ HB.out⟩

/-! ### laws_big: function 33 -/
def laws_big.f (l0 : List Int) : Option (Bool) := some (decide ((l0.length : Int) > 1048576))
set_option maxHeartbeats 8000000 in
set_option maxRecDepth 100000 in
theorem laws_big.calls (A0 : Option Addr) (c0 : Nat) (l0 : List Int) (r : Bool) (w : World) (hr0 : Kd.C (Kd.int .u8) w A0 l0.length l0) (hc0 : l0.length ≤ c0) (h : laws_big.f l0 = some r) :
    Calls Try.prog 33 #[.slice A0 l0.length c0] w fun e w' => e = .returned (.bool r) ∧ Drawn0 w w' := by
  have HR0 := Aside0.mk hr0
  have HC0 := Aside0.mk hc0
  clear hr0 hc0
  have H : (some (decide ((l0.length : Int) > 1048576))) = some r := h
  clear h
  obtain rfl := Option.some.inj H
  go_enter Try.func33, Try.ntmps33
  go_wp2
  go_ret
  exact ⟨by first | rfl | (simp; done) | (simp [*]; done), by repeat (first | exact Drawn0.refl _ | apply Drawn0.step)⟩

end Go.Proofs.Ytdoefkloanpliaa.Print
