-- Written by a program of this session (printx.py) out of the translation; Lean checks it.
import Derived.Test.YtpoandlbmaljhaaPrint0
import Derived.Test.YtpoandlbmaljhaaPrint1
import Derived.Test.YtpoandlbmaljhaaPrint5
namespace Go.Proofs.Ytpoandlbmaljhaa.Print
open Go.RowKit Go.Proofs.YtpoandlbmaljhaaW.PrintWords Go.Proofs.YtpoandlbmaljhaaW.PrintLast Go.Proofs.YtpoandlbmaljhaaW.PrintMore Go.Proofs.Ytpoandlbmaljhaa.Short
attribute [local go_sem] max2_int min2_int max_two min_two max_three min_three max_four min_four   -- for this text's walks alone
set_option linter.unusedVariables false
set_option linter.unusedSimpArgs false

/-! ### spec_EqualExts: function 45 -/
def spec_EqualExts.l0 : Nat → List (S69) → List (S69) → Int → Option (Bool)
  | 0, _, _, _ => none
  | k + 1, x0, x1, x5 => if x5 < (x0.length : Int) then (if 0 ≤ x5 then (if x5 < (x1.length : Int) then (if ((rd_T69 x0 x5).f0) = ((rd_T69 x1 x5).f0) then ((spec_EqualInts.f k ((rd_T69 x0 x5).f1) ((rd_T69 x1 x5).f1)).bind fun t243 => (if t243 = true then (spec_EqualExts.l0 k x0 x1 (wrap64 (x5 + 1))) else (some false))) else (some false)) else (none)) else (none)) else (some true)
def spec_EqualExts.f (k : Nat) (l0 : List (S69)) (l1 : List (S69)) : Option (Bool) := if (l0.length : Int) = (l1.length : Int) then (spec_EqualExts.l0 k l0 l1 0) else (some false)
theorem spec_EqualExts.mono_l : ∀ k, (∀ y0 y1 y2, LeO (spec_EqualExts.l0 k y0 y1 y2) (spec_EqualExts.l0 (k + 1) y0 y1 y2))
  | 0 => fun _ _ _ r h => by simp [spec_EqualExts.l0] at h
  | k + 1 => by
    have ih0 := spec_EqualExts.mono_l k
    · intro y0 y1 y2
      unfold spec_EqualExts.l0
      repeat' first
      | (with_reducible exact ih0 _ _ _)
      | (with_reducible exact spec_EqualInts.mono _ _ _)
      | (with_reducible exact LeO.refl _)
      | (with_reducible exact LeO.none _)
      | (with_reducible refine LeO.ite ?_ ?_)
      | (with_reducible refine LeO.bind ?_ (fun _ => ?_))
      | exact ih0 _ _ _
      | exact spec_EqualInts.mono _ _ _
      | exact LeO.none _
      | refine LeO.ite ?_ ?_
      | refine LeO.bind ?_ (fun _ => ?_)
theorem spec_EqualExts.mono : ∀ a0 a1 k, LeO (spec_EqualExts.f k a0 a1) (spec_EqualExts.f (k + 1) a0 a1) := by
  intro a0 a1 k
  have ih0 := spec_EqualExts.mono_l k
  unfold spec_EqualExts.f
  repeat' first
      | (with_reducible exact ih0 _ _ _)
      | (with_reducible exact spec_EqualInts.mono _ _ _)
      | (with_reducible exact LeO.refl _)
      | (with_reducible exact LeO.none _)
      | (with_reducible refine LeO.ite ?_ ?_)
      | (with_reducible refine LeO.bind ?_ (fun _ => ?_))
      | exact ih0 _ _ _
      | exact spec_EqualInts.mono _ _ _
      | exact LeO.none _
      | refine LeO.ite ?_ ?_
      | refine LeO.bind ?_ (fun _ => ?_)
set_option maxHeartbeats 8000000 in
set_option maxRecDepth 100000 in
theorem spec_EqualExts.calls (k : Nat) (A0 : Option Addr) (c0 : Nat) (l0 : List (S69)) (A1 : Option Addr) (c1 : Nat) (l1 : List (S69)) (r : Bool) (w : World) (hr0 : Kd.C k69 w A0 l0.length l0) (hc0 : l0.length ≤ c0) (hr1 : Kd.C k69 w A1 l1.length l1) (hc1 : l1.length ≤ c1) (h : spec_EqualExts.f k l0 l1 = some r) :
    Calls Try.prog 45 #[.slice A0 l0.length c0, .slice A1 l1.length c1] w fun e w' => e = .returned (.bool r) ∧ Drawn0 w w' := by
  have HR0 := Aside0.mk hr0
  have HC0 := Aside0.mk hc0
  clear hr0 hc0
  have HR1 := Aside0.mk hr1
  have HC1 := Aside0.mk hc1
  clear hr1 hc1
  have H : (if (l0.length : Int) = (l1.length : Int) then (spec_EqualExts.l0 k l0 l1 0) else (some false)) = some r := h
  clear h
  by_cases c3 : (l0.length : Int) = (l1.length : Int)
  rotate_left
  · rw [if_neg c3] at H
    have c3b0 : ((l0.length : Int) == (l1.length : Int)) = false := beq_eq_false_iff_ne.mpr c3
    have c3b1 : ((l0.length : Int) != (l1.length : Int)) = true := bne_iff_ne.mpr c3
    have c3b2 : (l0.length == l1.length) = false := by first | simpa using c3 | (simp at c3 ⊢; omega)
    obtain rfl := Option.some.inj H
    go_enter Try.func45, Try.ntmps45
    go_wp2
    repeat (go_quiet (fail); try go_wp2)
    go_ret
    exact ⟨by first | rfl | (simp; done) | (simp [*]; done), by repeat (first | exact Drawn0.refl _ | apply Drawn0.step)⟩
  rw [if_pos c3] at H
  have c3b0 : ((l0.length : Int) == (l1.length : Int)) = true := beq_iff_eq.mpr c3
  have c3b1 : ((l0.length : Int) != (l1.length : Int)) = false := bne_eq_false_iff_eq.mpr c3
  have c3b2 : (l0.length == l1.length) = true := by first | simpa using c3 | (simp at c3 ⊢; omega)
  clear c3
  have H' := Aside0.mk H
  clear H
  go_enter Try.func45, Try.ntmps45
  go_wp2
  repeat (go_quiet (fail); try go_wp2)
  go_loopg [5] k (fun kq v5 w' => ∃ (x5_1 : Int), v5 = .int .i64 x5_1 ∧ Aside0 (spec_EqualExts.l0 kq l0 l1 x5_1 = some r) ∧ Aside0 (kq ≤ k) ∧ Drawn0 w w')
  case atStart => exact ⟨(0), el_, H', ⟨Nat.le_refl _⟩, by repeat (first | exact Drawn0.refl _ | apply Drawn0.step)⟩
  clear H'
  try clear c1
  try clear p2
  try clear c3
  try clear c3b0
  try clear c3b1
  try clear c3b2
  obtain ⟨x5_1, rfl, HA, HK1, ⟨m1, rfl⟩⟩ := hrel
  rcases gk with _ | k1
  · exact absurd HA.out (by simp [spec_EqualExts.l0])
  have H := HA.out
  clear HA
  simp only [spec_EqualExts.l0] at H
  by_cases c4 : x5_1 < (l0.length : Int)
  rotate_left
  · rw [if_neg c4] at H
    have c4b0 : decide (x5_1 < (l0.length : Int)) = false := decide_eq_false c4
    clear c4
    obtain rfl := Option.some.inj H
    go_wp2
    repeat (go_quiet (fail); try go_wp2)
    go_ret
    exact ⟨by first | rfl | (simp; done) | (simp [*]; done), by repeat (first | exact Drawn0.refl _ | apply Drawn0.step)⟩
  rw [if_pos c4] at H
  have c4b0 : decide (x5_1 < (l0.length : Int)) = true := decide_eq_true c4
  clear c4
  by_cases c5 : 0 ≤ x5_1
  rotate_left
  · rw [if_neg c5] at H
    exact absurd H (by simp)
  rw [if_pos c5] at H
  have c5b0 : decide (0 ≤ x5_1) = true := decide_eq_true c5
  clear c5
  by_cases c6 : x5_1 < (l1.length : Int)
  rotate_left
  · rw [if_neg c6] at H
    exact absurd H (by simp)
  rw [if_pos c6] at H
  have c6b0 : decide (x5_1 < (l1.length : Int)) = true := decide_eq_true c6
  clear c6
  by_cases c7 : ((rd_T69 l0 x5_1).f0) = ((rd_T69 l1 x5_1).f0)
  rotate_left
  · rw [if_neg c7] at H
    have c7b0 : (((rd_T69 l0 x5_1).f0) == ((rd_T69 l1 x5_1).f0)) = false := beq_eq_false_iff_ne.mpr c7
    have c7b1 : (((rd_T69 l0 x5_1).f0) != ((rd_T69 l1 x5_1).f0)) = true := bne_iff_ne.mpr c7
    obtain rfl := Option.some.inj H
    have p239 : 0 ≤ (x5_1 : Int) := dt_
    have q239 : x5_1 < (l0.length : Int) := dt_
    obtain ⟨ad239, A239_1, c239_1, e239, hx239_0, hx239_1, hl239_1, hi239_1⟩ := at_T69 HR0.out x5_1 p239 q239
    cases e239
    have HR239_1 := Aside0.mk hi239_1
    have HC239_1 := Aside0.mk hl239_1
    clear hi239_1 hl239_1
    replace p239 := eq_true p239
    replace q239 := eq_true q239
    have p240 : 0 ≤ (x5_1 : Int) := dt_
    have q240 : x5_1 < (l1.length : Int) := dt_
    obtain ⟨ad240, A240_1, c240_1, e240, hx240_0, hx240_1, hl240_1, hi240_1⟩ := at_T69 HR1.out x5_1 p240 q240
    cases e240
    have HR240_1 := Aside0.mk hi240_1
    have HC240_1 := Aside0.mk hl240_1
    clear hi240_1 hl240_1
    replace p240 := eq_true p240
    replace q240 := eq_true q240
    go_wp2
    repeat (go_quiet (fail); try go_wp2)
    go_ret
    exact ⟨by first | rfl | (simp; done) | (simp [*]; done), by repeat (first | exact Drawn0.refl _ | apply Drawn0.step)⟩
  rw [if_pos c7] at H
  have c7b0 : (((rd_T69 l0 x5_1).f0) == ((rd_T69 l1 x5_1).f0)) = true := beq_iff_eq.mpr c7
  have c7b1 : (((rd_T69 l0 x5_1).f0) != ((rd_T69 l1 x5_1).f0)) = false := bne_eq_false_iff_eq.mpr c7
  clear c7
  replace H := Option.bind_eq_some_iff.mp H
  obtain ⟨t243, A80, H⟩ := H
  (try dsimp only at H)
  have A8 := Aside0.mk A80
  clear A80
  have HS_ := Aside0.mk H
  clear H
  have p239 : 0 ≤ (x5_1 : Int) := dt_
  have q239 : x5_1 < (l0.length : Int) := dt_
  obtain ⟨ad239, A239_1, c239_1, e239, hx239_0, hx239_1, hl239_1, hi239_1⟩ := at_T69 HR0.out x5_1 p239 q239
  cases e239
  have HR239_1 := Aside0.mk hi239_1
  have HC239_1 := Aside0.mk hl239_1
  clear hi239_1 hl239_1
  replace p239 := eq_true p239
  replace q239 := eq_true q239
  have p240 : 0 ≤ (x5_1 : Int) := dt_
  have q240 : x5_1 < (l1.length : Int) := dt_
  obtain ⟨ad240, A240_1, c240_1, e240, hx240_0, hx240_1, hl240_1, hi240_1⟩ := at_T69 HR1.out x5_1 p240 q240
  cases e240
  have HR240_1 := Aside0.mk hi240_1
  have HC240_1 := Aside0.mk hl240_1
  clear hi240_1 hl240_1
  replace p240 := eq_true p240
  replace q240 := eq_true q240
  have p241 : 0 ≤ (x5_1 : Int) := dt_
  have q241 : x5_1 < (l0.length : Int) := dt_
  obtain ⟨ad241, A241_1, c241_1, e241, hx241_0, hx241_1, hl241_1, hi241_1⟩ := at_T69 HR0.out x5_1 p241 q241
  obtain rfl : ad239 = ad241 := (by injection e241)
  have HR241_1 := Aside0.mk hi241_1
  have HC241_1 := Aside0.mk hl241_1
  clear hi241_1 hl241_1
  replace p241 := eq_true p241
  replace q241 := eq_true q241
  have ea_ := Option.some.inj (hx239_1.symm.trans hx241_1)
  injection ea_ with ea_ en_ ec_
  subst ea_
  subst ec_
  clear en_
  have p242 : 0 ≤ (x5_1 : Int) := dt_
  have q242 : x5_1 < (l1.length : Int) := dt_
  obtain ⟨ad242, A242_1, c242_1, e242, hx242_0, hx242_1, hl242_1, hi242_1⟩ := at_T69 HR1.out x5_1 p242 q242
  obtain rfl : ad240 = ad242 := (by injection e242)
  have HR242_1 := Aside0.mk hi242_1
  have HC242_1 := Aside0.mk hl242_1
  clear hi242_1 hl242_1
  replace p242 := eq_true p242
  replace q242 := eq_true q242
  have ea_ := Option.some.inj (hx240_1.symm.trans hx242_1)
  injection ea_ with ea_ en_ ec_
  subst ea_
  subst ec_
  clear en_
  go_upto_if 41 with (first | (go_at_call 71; (with_reducible refine (spec_EqualInts.calls k1 _ _ ((rd_T69 l0 x5_1).f1) _ _ ((rd_T69 l1 x5_1).f1) t243 _ ?side1 ?side2 ?side3 ?side4 A8.out).mono ?_); (case side1 => exact pc_ HR241_1.out); (case side2 => exact HC241_1.out); (case side3 => exact pc_ HR242_1.out); (case side4 => exact HC242_1.out); rintro e w' ⟨rfl, ⟨nd, rfl⟩⟩; (try first | exact ⟨rfl, _, World.drewN_drewN _ _ _⟩ | exact ⟨rfl, _, Eq.trans (World.drewN_drewN _ _ _) (congrArg (World.drewN _) (Nat.add_assoc _ _ _))⟩)))
  repeat (go_quiet (first | (go_at_call 71; (with_reducible refine (spec_EqualInts.calls k1 _ _ ((rd_T69 l0 x5_1).f1) _ _ ((rd_T69 l1 x5_1).f1) t243 _ ?side1 ?side2 ?side3 ?side4 A8.out).mono ?_); (case side1 => exact pc_ HR241_1.out); (case side2 => exact HC241_1.out); (case side3 => exact pc_ HR242_1.out); (case side4 => exact HC242_1.out); rintro e w' ⟨rfl, ⟨nd, rfl⟩⟩; (try first | exact ⟨rfl, _, World.drewN_drewN _ _ _⟩ | exact ⟨rfl, _, Eq.trans (World.drewN_drewN _ _ _) (congrArg (World.drewN _) (Nat.add_assoc _ _ _))⟩))); go_upto_if 41 with (first | (go_at_call 71; (with_reducible refine (spec_EqualInts.calls k1 _ _ ((rd_T69 l0 x5_1).f1) _ _ ((rd_T69 l1 x5_1).f1) t243 _ ?side1 ?side2 ?side3 ?side4 A8.out).mono ?_); (case side1 => exact pc_ HR241_1.out); (case side2 => exact HC241_1.out); (case side3 => exact pc_ HR242_1.out); (case side4 => exact HC242_1.out); rintro e w' ⟨rfl, ⟨nd, rfl⟩⟩; (try first | exact ⟨rfl, _, World.drewN_drewN _ _ _⟩ | exact ⟨rfl, _, Eq.trans (World.drewN_drewN _ _ _) (congrArg (World.drewN _) (Nat.add_assoc _ _ _))⟩))))
  (try simp only [Act.put, List.setIfInBounds_toArray, List.set_cons_zero, List.set_cons_succ])
  have H := HS_.out
  clear HS_
  by_cases c9 : t243 = true
  rotate_left
  · replace c9 := Bool.eq_false_iff.mpr c9
    subst c9
    rw [if_neg (show ¬ (false = true) by decide)] at H
    obtain rfl := Option.some.inj H
    go_wp2
    repeat (go_quiet (fail); try go_wp2)
    go_ret
    exact ⟨by first | rfl | (simp; done) | (simp [*]; done), by repeat (first | exact Drawn0.refl _ | apply Drawn0.step)⟩
  subst c9
  rw [if_pos rfl] at H
  have H' := Aside0.mk H
  clear H
  go_wp2
  repeat (go_quiet (fail); try go_wp2)
  go_roundg k1
  case measure => have := HK1.out; omega
  case rel => exact ⟨(wrap64 (x5_1 + 1)), el_, H', ⟨by have := HK1.out; omega⟩, by repeat (first | exact Drawn0.refl _ | apply Drawn0.step)⟩

/-! ### spec_LostTags: function 24 -/
mutual
def spec_LostTags.j0 : Nat → List (S50) → List Int → List (S69) → List Int → Bool → Option (List Int)
  | 0, _, _, _, _, _ => none
  | k + 1, x0, x1, x2, x7, x21 => if x21 = true then (some x7) else (spec_LostTags.l0 k x0 x1 x2 x7 0)
def spec_LostTags.l0 : Nat → List (S50) → List Int → List (S69) → List Int → Int → Option (List Int)
  | 0, _, _, _, _, _ => none
  | k + 1, x0, x1, x2, x7, x8 => if x8 < (x2.length : Int) then (if 1 ≤ (x1.length : Int) then ((spec_PlainHello.f (x1.take 1)).bind fun bt250 => (if 0 ≤ x8 then (if x8 ≤ (wrap64 (x8 + 1)) then (if (wrap64 (x8 + 1)) ≤ (x2.length : Int) then ((some ((x2.take ((wrap64 (x8 + 1)) : Int).toNat).drop (x8 : Int).toNat : List (S69))).bind fun y257 => ((spec_PassPath.f k x0 bt250.1 y257).bind fun bt261 => (if bt261.2.2 = true then ((spec_EqualExts.f k bt261.2.1 y257).bind fun t269 => (if t269 = true then (spec_LostTags.l0 k x0 x1 x2 x7 (wrap64 (x8 + 1))) else (if x7.length < 17592186044416 then (spec_LostTags.l0 k x0 x1 x2 (x7 ++ [(rd_T69 x2 x8).f0]) (wrap64 (x8 + 1))) else (none)))) else (if x7.length < 17592186044416 then (spec_LostTags.l0 k x0 x1 x2 (x7 ++ [(rd_T69 x2 x8).f0]) (wrap64 (x8 + 1))) else (none))))) else (none)) else (none)) else (none))) else (none)) else (some x7)
end
def spec_LostTags.f (k : Nat) (l0 : List (S50)) (l1 : List Int) (l2 : List (S69)) : Option (List Int) := (some (([] : List Int) : List Int)).bind fun y244 => ((spec_AreExts.f k l2).bind fun t247 => (if t247 = true then ((spec_IsOpenPath.f k l0 l1).bind fun t248 => (spec_LostTags.j0 k l0 l1 l2 y244 (!t248))) else (spec_LostTags.j0 k l0 l1 l2 y244 true)))
theorem spec_LostTags.mono_l : ∀ k, (∀ y0 y1 y2 y3 y4, LeO (spec_LostTags.j0 k y0 y1 y2 y3 y4) (spec_LostTags.j0 (k + 1) y0 y1 y2 y3 y4)) ∧ (∀ y0 y1 y2 y3 y4, LeO (spec_LostTags.l0 k y0 y1 y2 y3 y4) (spec_LostTags.l0 (k + 1) y0 y1 y2 y3 y4))
  | 0 => ⟨fun _ _ _ _ _ r h => by simp [spec_LostTags.j0] at h, fun _ _ _ _ _ r h => by simp [spec_LostTags.l0] at h⟩
  | k + 1 => by
    obtain ⟨ih0, ih1⟩ := spec_LostTags.mono_l k
    refine ⟨?_, ?_⟩
    · intro y0 y1 y2 y3 y4
      unfold spec_LostTags.j0
      repeat' first
      | (with_reducible exact ih0 _ _ _ _ _)
      | (with_reducible exact ih1 _ _ _ _ _)
      | (with_reducible exact spec_AreExts.mono _ _)
      | (with_reducible exact spec_EqualExts.mono _ _ _)
      | (with_reducible exact spec_IsOpenPath.mono _ _ _)
      | (with_reducible exact spec_PassPath.mono _ _ _ _)
      | (with_reducible exact LeO.refl _)
      | (with_reducible exact LeO.none _)
      | (with_reducible refine LeO.ite ?_ ?_)
      | (with_reducible refine LeO.bind ?_ (fun _ => ?_))
      | exact ih0 _ _ _ _ _
      | exact ih1 _ _ _ _ _
      | exact spec_AreExts.mono _ _
      | exact spec_EqualExts.mono _ _ _
      | exact spec_IsOpenPath.mono _ _ _
      | exact spec_PassPath.mono _ _ _ _
      | exact LeO.none _
      | refine LeO.ite ?_ ?_
      | refine LeO.bind ?_ (fun _ => ?_)
    · intro y0 y1 y2 y3 y4
      unfold spec_LostTags.l0
      repeat' first
      | (with_reducible exact ih0 _ _ _ _ _)
      | (with_reducible exact ih1 _ _ _ _ _)
      | (with_reducible exact spec_AreExts.mono _ _)
      | (with_reducible exact spec_EqualExts.mono _ _ _)
      | (with_reducible exact spec_IsOpenPath.mono _ _ _)
      | (with_reducible exact spec_PassPath.mono _ _ _ _)
      | (with_reducible exact LeO.refl _)
      | (with_reducible exact LeO.none _)
      | (with_reducible refine LeO.ite ?_ ?_)
      | (with_reducible refine LeO.bind ?_ (fun _ => ?_))
      | exact ih0 _ _ _ _ _
      | exact ih1 _ _ _ _ _
      | exact spec_AreExts.mono _ _
      | exact spec_EqualExts.mono _ _ _
      | exact spec_IsOpenPath.mono _ _ _
      | exact spec_PassPath.mono _ _ _ _
      | exact LeO.none _
      | refine LeO.ite ?_ ?_
      | refine LeO.bind ?_ (fun _ => ?_)
theorem spec_LostTags.mono : ∀ a0 a1 a2 k, LeO (spec_LostTags.f k a0 a1 a2) (spec_LostTags.f (k + 1) a0 a1 a2) := by
  intro a0 a1 a2 k
  obtain ⟨ih0, ih1⟩ := spec_LostTags.mono_l k
  unfold spec_LostTags.f
  repeat' first
      | (with_reducible exact ih0 _ _ _ _ _)
      | (with_reducible exact ih1 _ _ _ _ _)
      | (with_reducible exact spec_AreExts.mono _ _)
      | (with_reducible exact spec_EqualExts.mono _ _ _)
      | (with_reducible exact spec_IsOpenPath.mono _ _ _)
      | (with_reducible exact spec_PassPath.mono _ _ _ _)
      | (with_reducible exact LeO.refl _)
      | (with_reducible exact LeO.none _)
      | (with_reducible refine LeO.ite ?_ ?_)
      | (with_reducible refine LeO.bind ?_ (fun _ => ?_))
      | exact ih0 _ _ _ _ _
      | exact ih1 _ _ _ _ _
      | exact spec_AreExts.mono _ _
      | exact spec_EqualExts.mono _ _ _
      | exact spec_IsOpenPath.mono _ _ _
      | exact spec_PassPath.mono _ _ _ _
      | exact LeO.none _
      | refine LeO.ite ?_ ?_
      | refine LeO.bind ?_ (fun _ => ?_)
set_option maxHeartbeats 8000000 in
set_option maxRecDepth 100000 in
theorem spec_LostTags.calls (k : Nat) (A0 : Option Addr) (c0 : Nat) (l0 : List (S50)) (A1 : Option Addr) (c1 : Nat) (l1 : List Int) (A2 : Option Addr) (c2 : Nat) (l2 : List (S69)) (r : List Int) (w : World) (hr0 : Kd.C k50 w A0 l0.length l0) (hc0 : l0.length ≤ c0) (hr1 : Kd.C (Kd.int .i64) w A1 l1.length l1) (hc1 : l1.length ≤ c1) (hr2 : Kd.C k69 w A2 l2.length l2) (hc2 : l2.length ≤ c2) (h : spec_LostTags.f k l0 l1 l2 = some r) :
    Calls Try.prog 24 #[.slice A0 l0.length c0, .slice A1 l1.length c1, .slice A2 l2.length c2] w fun e w' => ∃ v0_ : Value, e = .returned (v0_) ∧ Kd.R (Kd.int .i64) 3 w' w.heap.size (fun _ => True) v0_ r ∧ Below w.heap.size w w' := by
  have hu63 := Try.underlying63
  have HR0 := Aside0.mk hr0
  have HC0 := Aside0.mk hc0
  clear hr0 hc0
  have HR1 := Aside0.mk hr1
  have HC1 := Aside0.mk hc1
  clear hr1 hc1
  have HR2 := Aside0.mk hr2
  have HC2 := Aside0.mk hc2
  clear hr2 hc2
  have HB := Aside0.mk (Below.refl w.heap.size w)
  have H : ((some (([] : List Int) : List Int)).bind fun y244 => ((spec_AreExts.f k l2).bind fun t247 => (if t247 = true then ((spec_IsOpenPath.f k l0 l1).bind fun t248 => (spec_LostTags.j0 k l0 l1 l2 y244 (!t248))) else (spec_LostTags.j0 k l0 l1 l2 y244 true)))) = some r := h
  clear h
  obtain ⟨y244, hy244⟩ : ∃ y_ : List Int, y_ = (([] : List Int)) := ⟨_, rfl⟩
  replace H : ((spec_AreExts.f k l2).bind fun t247 => (if t247 = true then ((spec_IsOpenPath.f k l0 l1).bind fun t248 => (spec_LostTags.j0 k l0 l1 l2 y244 (!t248))) else (spec_LostTags.j0 k l0 l1 l2 y244 true))) = some r := by first | (rw [hy244]; with_reducible exact H) | (have H2_ := (Option.bind_some _ _).symm.trans H; rw [hy244]; with_reducible exact H2_) | (have H2_ := (Option.bind_some _ _).symm.trans H; with_reducible exact H2_) | with_reducible exact H | (rw [hy244]; exact H) | exact H
  have Ny244 := Aside0.mk hy244
  clear hy244
  have HC4 := Aside0.mk H
  clear H
  go_enter Try.func24, Try.ntmps24
  go_upto_region 2 with (first | ((with_reducible refine gate_dst (N := 12) rfl ?_); refine Kd.R_lit (Kd.int .i64) _ 3 ?hg (N := 12) ?hd (xs := ([] : List Int)) (inner := []) (ok := fun _ => True) (okp := fun _ => True) ?hr ?hp (fun _ hk => hk) trivial (Below.refl _ _) (Nat.le_refl _) (by simp) ?_; (case hd => rfl); (case hg => rfl); (case hr => first | (go_simp; done) | (go_simp; rfl)); (case hp => exact (Reps.none _ _)); intro v245 w5 ho6 hb hg_ hnew_; clear hg_ hnew_; (first | rw [← Ny244.out] at ho6 | (simp only [Int.reduceToNat] at ho6; rw [← Ny244.out] at ho6)); have n0_ := Aside0.mk (Kd.R_lower ho6 (below_size (pb_ HB.out))); have n1_ := Aside0.mk (below_step (pb_ HB.out) hb); clear HB; have HO246 := n0_; have HB := n1_; clear n0_ n1_; clear hb ho6))
  (try simp only [Act.put, List.setIfInBounds_toArray, List.set_cons_zero, List.set_cons_succ])
  go_cut [21] (fun v21 wc => ∃ (kq : Nat) (x21_3 : Bool), v21 = .bool x21_3 ∧ Aside0 (spec_LostTags.j0 kq l0 l1 l2 y244 x21_3 = some r) ∧ Aside0 (kq ≤ k) ∧ Aside0 (Kd.R (Kd.int .i64) 3 wc w.heap.size (fun _ => True) v245 y244) ∧ Aside0 (Below w.heap.size w wc))
  case first =>
    have H := HC4.out
    clear HC4
    replace H := Option.bind_eq_some_iff.mp H
    obtain ⟨t247, A70, H⟩ := H
    (try dsimp only at H)
    have A7 := Aside0.mk A70
    clear A70
    by_cases c8 : t247 = true
    rotate_left
    · replace c8 := Bool.eq_false_iff.mpr c8
      subst c8
      rw [if_neg (show ¬ (false = true) by decide)] at H
      have H' := Aside0.mk H
      clear H
      go_wp2_with (first | ((with_reducible refine gate_callee (f := 41) rfl ?_); refine goesL_ (some 14) rfl rfl Try.func41 (by kernel_rfl) rfl #[.slice A2 l2.length c2] rfl mp_ ?_; (with_reducible refine (spec_AreExts.calls k _ _ l2 false _ ?side1 ?side2 A7.out).mono ?_); (case side1 => exact pc_ (Kd.C_below HR2.out HB.out)); (case side2 => exact HC2.out); rintro e w' ⟨rfl, ⟨nd, rfl⟩⟩; refine ⟨_, rfl, ?_⟩))
      go_meet
      case rel => exact ⟨_, (true), el_, H', ⟨by first | omega | exact Nat.le_refl _⟩, ⟨pr_ HO246.out⟩, ⟨pb_ HB.out⟩⟩
    subst c8
    rw [if_pos rfl] at H
    replace H := Option.bind_eq_some_iff.mp H
    obtain ⟨t248, A90, H⟩ := H
    replace H : (spec_LostTags.j0 k l0 l1 l2 y244 (!t248)) = some r := H
    have A9 := Aside0.mk A90
    clear A90
    have H' := Aside0.mk H
    clear H
    go_wp2_with (first | ((with_reducible refine gate_callee (f := 41) rfl ?_); refine goesL_ (some 14) rfl rfl Try.func41 (by kernel_rfl) rfl #[.slice A2 l2.length c2] rfl mp_ ?_; (with_reducible refine (spec_AreExts.calls k _ _ l2 true _ ?side1 ?side2 A7.out).mono ?_); (case side1 => exact pc_ (Kd.C_below HR2.out HB.out)); (case side2 => exact HC2.out); rintro e w' ⟨rfl, ⟨nd, rfl⟩⟩; refine ⟨_, rfl, ?_⟩) | (go_at_call 42; (with_reducible refine (spec_IsOpenPath.calls k _ _ l0 _ _ l1 t248 _ ?side1 ?side2 ?side3 ?side4 A9.out).mono ?_); (case side1 => exact pc_ (Kd.C_below HR0.out (pb_ HB.out))); (case side2 => exact HC0.out); (case side3 => exact pc_ (Kd.C_below HR1.out (pb_ HB.out))); (case side4 => exact HC1.out); rintro e w10 ⟨rfl, hb⟩; have n0_ := Aside0.mk (Kd.R_below (pr_ HO246.out) hb); have n1_ := Aside0.mk (below_step (pb_ HB.out) hb); clear HO246; clear HB; have HO246 := n0_; have HB := n1_; clear n0_ n1_; (try clear hb); (try clear hb2); (try clear hk); (try clear hi)))
    go_meet
    case rel => exact ⟨_, (!t248), el_, H', ⟨by first | omega | exact Nat.le_refl _⟩, ⟨pr_ HO246.out⟩, ⟨pb_ HB.out⟩⟩
  clear HC4
  try clear c1
  try clear c2
  try clear p2
  try clear c4
  try clear c8
  obtain ⟨kq, x21_3, rfl, HA, HJ3, HO_7, HB⟩ := hcut
  rcases kq with _ | kj3
  · exact absurd HA.out (by simp [spec_LostTags.j0])
  have H := HA.out
  clear HA
  simp only [spec_LostTags.j0] at H
  by_cases c11 : x21_3 = true
  rotate_left
  · replace c11 := Bool.eq_false_iff.mpr c11
    subst c11
    rw [if_neg (show ¬ (false = true) by decide)] at H
    have H' := Aside0.mk H
    clear H
    go_wp2
    go_loopg [7, 8] kj3 (fun kq v7 v8 w' => ∃ (x7_2 : List Int) (x8_2 : Int), v8 = .int .i64 x8_2 ∧ Aside0 (spec_LostTags.l0 kq l0 l1 l2 x7_2 x8_2 = some r) ∧ Aside0 (kq ≤ kj3) ∧ Aside0 (Kd.R (Kd.int .i64) 3 w' w.heap.size (fun _ => True) v7 x7_2) ∧ Aside0 (Below w.heap.size w w'))
    case atStart => exact ⟨(y244), (0), el_, H', ⟨Nat.le_refl _⟩, ⟨pr_ HO_7.out⟩, ⟨pb_ HB.out⟩⟩
    clear H'
    try clear c1
    try clear c2
    try clear p2
    try clear c4
    try clear c8
    try clear c11
    try clear p2
    obtain ⟨x7_2, x8_2, rfl, HA, HK2, HO_7, HB⟩ := hrel
    rcases gk with _ | k2
    · exact absurd HA.out (by simp [spec_LostTags.l0])
    have H := HA.out
    clear HA
    simp only [spec_LostTags.l0] at H
    by_cases c12 : x8_2 < (l2.length : Int)
    rotate_left
    · rw [if_neg c12] at H
      have c12b0 : decide (x8_2 < (l2.length : Int)) = false := decide_eq_false c12
      clear c12
      obtain rfl := Option.some.inj H
      go_wp2
      go_ret
      exact ⟨_, er_, pr_ HO_7.out, pb_ HB.out⟩
    rw [if_pos c12] at H
    have c12b0 : decide (x8_2 < (l2.length : Int)) = true := decide_eq_true c12
    clear c12
    by_cases c13 : 1 ≤ (l1.length : Int)
    rotate_left
    · rw [if_neg c13] at H
      exact absurd H (by simp)
    rw [if_pos c13] at H
    have c13b0 := eq_true c13
    have c13b1 : decide (1 ≤ (l1.length : Int)) = true := decide_eq_true c13
    clear c13
    replace H := Option.bind_eq_some_iff.mp H
    obtain ⟨⟨t250, t253⟩, A140, H⟩ := H
    (try dsimp only at H)
    have A14 := Aside0.mk A140
    clear A140
    have HS_ := Aside0.mk H
    clear H
    obtain ⟨i015, hi015, _, hsz15, _⟩ := info_parts info3
    obtain ⟨hcut15, hA15, hC15⟩ := print_take_of (P := Try.prog) (Value.int .i64) 0 23 3 .i64 Try.underlying23 hi015 hsz15 A1 c1 l1 1 (by omega) dt_ HC1.out
    have HR249 := Aside0.mk (Kd.C_of_reads (h1 := fun _ => rfl) (hA15 _ (Kd.reads_of_C HR1.out)))
    have HC249 := Aside0.mk hC15
    clear hA15 hC15 hi015 hsz15
    go_upto_region 8 with (first | ((with_reducible refine gate_callee (f := 43) rfl ?_); refine goesL_ (some 31) rfl rfl Try.func43 (by kernel_rfl) rfl #[.slice A1 (l1.take 1).length c1] rfl (by (try simp only [List.map_toArray, List.map_cons, List.map_nil]); first | done | (rw [show (l1.take 1).length = 1 from (by rw [List.length_take]; have h_ : (1 : Int) ≤ (l1.length : Int) := dt_; omega)] <;> rfl) | rfl | (simp only [List.length_drop, List.length_take]; rfl)) ?_; (with_reducible refine (spec_PlainHello.calls _ _ (l1.take 1) t250 t253 _ ?side1 ?side2 A14.out).mono ?_); (case side1 => exact pc_ (Kd.C_below HR249.out HB.out)); (case side2 => exact HC249.out); rintro e w16 ⟨v251, v254, rfl, ho0, ho1, hb⟩; refine ⟨_, rfl, ?_⟩; have n0_ := Aside0.mk (Kd.R_elder' (pr_ HO_7.out) (Kd.R_base ho0) hb); have n1_ := Aside0.mk (Kd.R_lower (Kd.R_new' ho0 (Kd.R_lt (pr_ HO_7.out))) (below_size (pb_ HB.out))); have n2_ := Aside0.mk (Kd.S_lower (Kd.S_new' ho1 (Kd.R_lt (pr_ HO_7.out))) (below_size (pb_ HB.out))); have n3_ := Aside0.mk (below_step (pb_ HB.out) hb); clear HO_7; clear HB; have HO_7 := n0_; have HO252 := n1_; have HO255 := n2_; have HB := n3_; clear n0_ n1_ n2_ n3_; (try clear hb); (try clear hb2); (try clear hk); (try clear hi); (try clear ho0); (try clear ho1)) | ((with_reducible refine gate_dst (N := 9) rfl ?_); refine box_event ?hg (N := 9) ?hd (cs := #[.slice none 0 0, .slice none 0 0]) (t := 63) ?hr ?_; (case hd => rfl); (case hg => rfl); (case hr => first | (go_simp; done) | (go_simp; rfl)); intro gb256 hg w17 hbox hb; have n0_ := Aside0.mk (Kd.R_below (pr_ HO_7.out) hb); have n1_ := Aside0.mk (Kd.R_below (pr_ HO252.out) hb); have n2_ := Aside0.mk (Kd.S_below (ps_ HO255.out) hb); have n3_ := Aside0.mk (below_step (pb_ HB.out) hb); have n4_ := Aside0.mk (hbox); have n5_ := Aside0.mk ((by rw [hg]; exact (below_size (pb_ HB.out)) : w.heap.size ≤ gb256)); have n6_ := Aside0.mk ((by rw [hg]; exact (below_size (pb_ HB.out)) : w.heap.size ≤ gb256)); clear HO_7; clear HO252; clear HO255; clear HB; have HO_7 := n0_; have HO252 := n1_; have HO255 := n2_; have HB := n3_; have BK256 := n4_; have GW256 := n5_; have GE256 := n6_; clear n0_ n1_ n2_ n3_ n4_ n5_ n6_; clear hb hbox hg; obtain ⟨Ao18, co18, eo18⟩ := Kd.R_slice HO252.out; subst eo18; have hcz19_0 : w17.cell? ⟨gb256, 0, none⟩ = some (.slice none 0 0) := (blk_cell BK256.out 0).trans rfl; have hcz19_1 : w17.cell? ⟨gb256, 1, none⟩ = some (.slice none 0 0) := (blk_cell BK256.out 1).trans rfl; have hfz19_0 := blk_frozen BK256.out 0; have hfz19_1 := blk_frozen BK256.out 1; obtain ⟨Ao20, co20, eo20⟩ := Kd.S_slice HO255.out; subst eo20))
    (try simp only [Act.put, List.setIfInBounds_toArray, List.set_cons_zero, List.set_cons_succ])
    have H := HS_.out
    clear HS_
    by_cases c21 : 0 ≤ x8_2
    rotate_left
    · rw [if_neg c21] at H
      exact absurd H (by simp)
    rw [if_pos c21] at H
    have c21b0 := eq_true c21
    have c21b1 : decide (0 ≤ x8_2) = true := decide_eq_true c21
    clear c21
    by_cases c22 : x8_2 ≤ (wrap64 (x8_2 + 1))
    rotate_left
    · rw [if_neg c22] at H
      exact absurd H (by simp)
    rw [if_pos c22] at H
    have c22b0 := eq_true c22
    have c22b1 : decide (x8_2 ≤ (wrap64 (x8_2 + 1))) = true := decide_eq_true c22
    by_cases c23 : (wrap64 (x8_2 + 1)) ≤ (l2.length : Int)
    rotate_left
    · rw [if_neg c23] at H
      exact absurd H (by simp)
    rw [if_pos c23] at H
    have c23b0 := eq_true c23
    have c23b1 : decide ((wrap64 (x8_2 + 1)) ≤ (l2.length : Int)) = true := decide_eq_true c23
    obtain ⟨y257, hy257⟩ : ∃ y_ : List (S69), y_ = ((l2.take ((wrap64 (x8_2 + 1)) : Int).toNat).drop (x8_2 : Int).toNat) := ⟨_, rfl⟩
    replace H : ((spec_PassPath.f k2 l0 t250 y257).bind fun bt261 => (if bt261.2.2 = true then ((spec_EqualExts.f k2 bt261.2.1 y257).bind fun t269 => (if t269 = true then (spec_LostTags.l0 k2 l0 l1 l2 x7_2 (wrap64 (x8_2 + 1))) else (if x7_2.length < 17592186044416 then (spec_LostTags.l0 k2 l0 l1 l2 (x7_2 ++ [(rd_T69 l2 x8_2).f0]) (wrap64 (x8_2 + 1))) else (none)))) else (if x7_2.length < 17592186044416 then (spec_LostTags.l0 k2 l0 l1 l2 (x7_2 ++ [(rd_T69 l2 x8_2).f0]) (wrap64 (x8_2 + 1))) else (none)))) = some r := by first | (rw [hy257]; with_reducible exact H) | (have H2_ := (Option.bind_some _ _).symm.trans H; rw [hy257]; with_reducible exact H2_) | (have H2_ := (Option.bind_some _ _).symm.trans H; with_reducible exact H2_) | with_reducible exact H | (rw [hy257]; exact H) | exact H
    have Ny257 := Aside0.mk hy257
    clear hy257
    replace H := Option.bind_eq_some_iff.mp H
    obtain ⟨⟨t261, t264, t267⟩, A240, H⟩ := H
    (try dsimp only at H)
    have A24 := Aside0.mk A240
    clear A240
    have HS_ := Aside0.mk H
    clear H
    have n0_ : Aside0 (Kd.R (Kd.int .i64) 3 ((w17.setCell ⟨gb256, 0, none⟩ (.slice Ao18 t250.length co18)).setCell ⟨gb256, 1, none⟩ (.slice Ao20 t253.length co20)) w.heap.size (fun k_ => some k_ ≠ (.slice Ao18 t250.length co18 : Value).ownBlock) u7 x7_2) := ⟨pr_ (Kd.R_mono (Kd.R_far (p := ⟨gb256, 1, none⟩) (Kd.R_far (p := ⟨gb256, 0, none⟩) (Kd.R_types HO_7.out BK256.out (by decide)) (fun _ hk => hk.2) (.slice Ao18 t250.length co18)) (fun _ hk => hk.2) (.slice Ao20 t253.length co20)) (fun _ hk => hk.1.2))⟩
    have n1_ : Aside0 (Kd.R (Kd.int .i64) 3 ((w17.setCell ⟨gb256, 0, none⟩ (.slice Ao18 t250.length co18)).setCell ⟨gb256, 1, none⟩ (.slice Ao20 t253.length co20)) w.heap.size (fun k_ => some k_ ≠ (u7 : Value).ownBlock) (.slice Ao18 t250.length co18) t250) := ⟨pr_ (Kd.R_mono (Kd.R_far (p := ⟨gb256, 1, none⟩) (Kd.R_far (p := ⟨gb256, 0, none⟩) (Kd.R_types HO252.out BK256.out (by decide)) (fun _ hk => hk.2) (.slice Ao18 t250.length co18)) (fun _ hk => hk.2) (.slice Ao20 t253.length co20)) (fun _ hk => hk.1.2))⟩
    have n2_ : Aside0 (Kd.S k69 69 ((w17.setCell ⟨gb256, 0, none⟩ (.slice Ao18 t250.length co18)).setCell ⟨gb256, 1, none⟩ (.slice Ao20 t253.length co20)) w.heap.size (fun k_ => some k_ ≠ (u7 : Value).ownBlock ∧ some k_ ≠ (.slice Ao18 t250.length co18 : Value).ownBlock) (.slice Ao20 t253.length co20) t253) := ⟨by (with_reducible repeat (first | apply Kd.S_alloc | apply Kd.S_drewN | apply Kd.S_drew)); exact Kd.S_mono (Kd.S_far (p := ⟨gb256, 1, none⟩) (Kd.S_far (p := ⟨gb256, 0, none⟩) (Kd.S_types HO255.out BK256.out (by decide)) (fun _ hk => hk.2) (.slice Ao18 t250.length co18)) (fun _ hk => hk.2) (.slice Ao20 t253.length co20)) (fun _ hk => ⟨hk.1.2, hk.1.1⟩)⟩
    have n3_ : Aside0 (((w17.setCell ⟨gb256, 0, none⟩ (.slice Ao18 t250.length co18)).setCell ⟨gb256, 1, none⟩ (.slice Ao20 t253.length co20)).heap[gb256]? = some (.cells #[.slice Ao18 t250.length co18, .slice Ao20 t253.length co20] 63 (0, 0))) := ⟨pp_ BK256.out⟩
    have n4_ : Aside0 (Below w.heap.size w ((w17.setCell ⟨gb256, 0, none⟩ (.slice Ao18 t250.length co18)).setCell ⟨gb256, 1, none⟩ (.slice Ao20 t253.length co20))) := ⟨pb1_ HB.out GE256.out⟩
    (try clear HO_7)
    (try clear HO252)
    (try clear HO255)
    (try clear BK256)
    (try clear HB)
    generalize ((w17.setCell ⟨gb256, 0, none⟩ (.slice Ao18 t250.length co18)).setCell ⟨gb256, 1, none⟩ (.slice Ao20 t253.length co20)) = w26 at n0_ n1_ n2_ n3_ n4_ ⊢
    (try (rw [show w26.drewN nd = w26.drewN nd from rfl]; replace n0_ := Aside0.mk (Kd.R_drewN n0_.out nd); replace n1_ := Aside0.mk (Kd.R_drewN n1_.out nd); replace n2_ := Aside0.mk (Kd.S_drewN n2_.out nd); replace n3_ := Aside0.mk (blk_drewN n3_.out nd); replace n4_ := Aside0.mk (pw_below_drewN n4_.out nd); generalize w26.drewN nd = w26 at n0_ n1_ n2_ n3_ n4_ ⊢))
    have HO_7 := n0_
    have HO252 := n1_
    have HO255 := n2_
    have BK256 := n3_
    have HB := n4_
    clear n0_ n1_ n2_ n3_ n4_
    have q25 : ((wrap64 (x8_2 + 1)) : Int) ≤ ((l2.length : Int) : Int) := dt_
    obtain ⟨i025, hi025, _, hsz25, _⟩ := info_parts info69
    have hroom25 : l2.length ≤ c2 := HC2.out
    have hC25 : Kd.C k69 _ A2 l2.length l2 := HR2.out
    have ql25 : (x8_2 : Int) ≤ ((wrap64 (x8_2 + 1)) : Int) := dt_
    have q025 : (0 : Int) ≤ (x8_2 : Int) := dt_
    have hcut25 := cut_mid (P := Try.prog) 48 69 .i64 .i64 Try.underlying48 hi025 2 hsz25 A2 l2.length c2 x8_2 (wrap64 (x8_2 + 1)) q025 ql25 q25 hroom25
    have hr25 := Kd.C_mid (lo := (x8_2 : Int).toNat) (hi := ((wrap64 (x8_2 + 1)) : Int).toNat) (c := c2) hC25 (by omega) (by omega) hroom25
    obtain ⟨A25, hA25⟩ : ∃ A1, A1 = (if c2 = (x8_2 : Int).toNat then A2 else (A2 : Option Addr).map (·.add ((x8_2 : Int).toNat * 2))) := ⟨_, rfl⟩
    obtain ⟨c25, hc25⟩ : ∃ c1, c1 = c2 - (x8_2 : Int).toNat := ⟨_, rfl⟩
    have hy25 : y257.length = ((wrap64 (x8_2 + 1)) : Int).toNat - (x8_2 : Int).toNat := (by rw [Ny257.out, List.length_drop, List.length_take] <;> omega)
    rw [show ((l2).take ((wrap64 (x8_2 + 1)) : Int).toNat).drop (x8_2 : Int).toNat = y257 from Ny257.out.symm] at hr25
    replace hr25 : Kd.C k69 _ A25 y257.length y257 := (by rw [hA25]; exact hr25)
    rw [← hy25, ← hA25, ← hc25] at hcut25
    have HR260 := Aside0.mk hr25
    have HC260 := Aside0.mk (show y257.length ≤ c25 from by rw [hy25, hc25]; exact Nat.sub_le_sub_right (Nat.le_trans (by omega) hroom25) _)
    clear hr25 hC25 hroom25 hi025 hsz25 hc25
    have KY25 := Aside0.mk hy25
    have KA25 := Aside0.mk hA25
    clear hy25 hA25
    replace q25 := eq_true q25
    obtain ⟨hcz27_0, hcz27_1, hfz27_0, hfz27_1⟩ := bc2_ BK256.out
    go_upto_region 10 with (first | ((with_reducible refine gate_callee (f := 44) rfl ?_); refine goesL_ (some 41) rfl rfl Try.func44 (by kernel_rfl) rfl #[.slice A0 l0.length c0, .agg #[.slice Ao18 t250.length co18, .slice A25 y257.length c25]] rfl mp_ ?_; (with_reducible refine (spec_PassPath.calls k2 _ _ l0 _ _ t250 _ _ y257 t261 t264 t267 _ ?side1 ?side2 ?side3 ?side4 ?side5 ?side6 A24.out).mono ?_); (case side1 => exact Kd.C_below HR0.out (pb1_ HB.out GE256.out)); (case side2 => exact HC0.out); (case side3 => refine (Kd.R_reads' (e := 3) (base := w.heap.size) (ok := fun k_ => some k_ ≠ (u7 : Value).ownBlock) (n := t250.length) (c := co18) ?_).2.2; exact (pr_ (Kd.R_mono (Kd.R_far (p := ⟨gb256, 1, none⟩) (Kd.R_types HO252.out BK256.out (by decide)) (fun _ hk => hk.2) (.slice A25 y257.length c25)) (fun _ h_ => h_.1)))); (case side4 => exact (Kd.R_reads' HO252.out).2.1); (case side5 => exact Kd.C_below HR260.out (pb1_ HB.out GE256.out)); (case side6 => exact HC260.out); rintro e w28 ⟨v262, v265, rfl, ho0, ho1, hb⟩; refine ⟨_, rfl, ?_⟩; have n0_ := Aside0.mk (Kd.R_elder' (pr_ (Kd.R_mono (Kd.R_far (p := ⟨gb256, 1, none⟩) (Kd.R_types HO_7.out BK256.out (by decide)) (fun _ hk => hk.2) (.slice A25 y257.length c25)) (fun _ h_ => h_.1))) (Kd.R_base ho0) hb); have n1_ := Aside0.mk (Kd.R_elder' (pr_ (Kd.R_mono (Kd.R_far (p := ⟨gb256, 1, none⟩) (Kd.R_types HO252.out BK256.out (by decide)) (fun _ hk => hk.2) (.slice A25 y257.length c25)) (fun _ h_ => h_.1))) (Kd.R_base ho0) hb); have n2_ := Aside0.mk (Kd.S_mono (Kd.S_told (Kd.S_told (Kd.S_old (ps_ (Kd.S_mono (Kd.S_far (p := ⟨gb256, 1, none⟩) (Kd.S_types HO255.out BK256.out (by decide)) (fun _ hk => hk.2) (.slice A25 y257.length c25)) (fun _ h_ => h_.1))) hb) (Kd.R_base ho0)) (Kd.S_base ho1)) (fun _ h_ => h_.1)); have n3_ := Aside0.mk (Kd.R_lower (Kd.R_new' (Kd.R_new' ho0 (Kd.R_lt (pr_ (Kd.R_mono (Kd.R_far (p := ⟨gb256, 1, none⟩) (Kd.R_types HO_7.out BK256.out (by decide)) (fun _ hk => hk.2) (.slice A25 y257.length c25)) (fun _ h_ => h_.1))))) (Kd.R_lt (pr_ (Kd.R_mono (Kd.R_far (p := ⟨gb256, 1, none⟩) (Kd.R_types HO252.out BK256.out (by decide)) (fun _ hk => hk.2) (.slice A25 y257.length c25)) (fun _ h_ => h_.1))))) (below_size (pb1_ HB.out GE256.out))); have n4_ := Aside0.mk (Kd.S_lower (Kd.S_new' (Kd.S_new' (Kd.S_new' ho1 (Kd.R_lt (pr_ (Kd.R_mono (Kd.R_far (p := ⟨gb256, 1, none⟩) (Kd.R_types HO_7.out BK256.out (by decide)) (fun _ hk => hk.2) (.slice A25 y257.length c25)) (fun _ h_ => h_.1))))) (Kd.R_lt (pr_ (Kd.R_mono (Kd.R_far (p := ⟨gb256, 1, none⟩) (Kd.R_types HO252.out BK256.out (by decide)) (fun _ hk => hk.2) (.slice A25 y257.length c25)) (fun _ h_ => h_.1))))) (Kd.S_lt (ps_ (Kd.S_mono (Kd.S_far (p := ⟨gb256, 1, none⟩) (Kd.S_types HO255.out BK256.out (by decide)) (fun _ hk => hk.2) (.slice A25 y257.length c25)) (fun _ h_ => h_.1))))) (below_size (pb1_ HB.out GE256.out))); have n5_ := Aside0.mk (blk_below (g := gb256) (o := .cells #[.slice Ao18 t250.length co18, .slice A25 y257.length c25] 63 (0, 0)) (pp_ BK256.out) hb); have n6_ := Aside0.mk (below_step (pb1_ HB.out GE256.out) hb); clear HO_7; clear HO252; clear HO255; clear BK256; clear HB; have HO_7 := n0_; have HO252 := n1_; have HO255 := n2_; have HO263 := n3_; have HO266 := n4_; have BK256 := n5_; have HB := n6_; clear n0_ n1_ n2_ n3_ n4_ n5_ n6_; (try clear hb); (try clear hb2); (try clear hk); (try clear hi); (try clear ho0); (try clear ho1)) | ((with_reducible refine gate_dst (N := 10) rfl ?_); refine box_event ?hg (N := 10) ?hd (cs := #[.slice none 0 0, .slice none 0 0]) (t := 63) ?hr ?_; (case hd => rfl); (case hg => rfl); (case hr => first | (go_simp; done) | (go_simp; rfl)); intro gb268 hg w29 hbox hb; have n0_ := Aside0.mk (Kd.R_below (pr_ HO_7.out) hb); have n1_ := Aside0.mk (Kd.R_below (pr_ HO252.out) hb); have n2_ := Aside0.mk (Kd.S_below (ps_ HO255.out) hb); have n3_ := Aside0.mk (Kd.R_below (pr_ HO263.out) hb); have n4_ := Aside0.mk (Kd.S_below (ps_ HO266.out) hb); have n5_ := Aside0.mk (bb_ BK256.out hb); have n6_ := Aside0.mk (below_step (pb1_ HB.out GE256.out) hb); have n7_ := Aside0.mk (hbox); have n8_ := Aside0.mk ((by rw [hg]; exact (below_size (pb1_ HB.out GE256.out)) : w.heap.size ≤ gb268)); have n9_ := Aside0.mk ((by rw [hg]; exact (below_size (pb1_ HB.out GE256.out)) : w.heap.size ≤ gb268)); have n10_ := Aside0.mk ((by rw [hg]; exact Nat.ne_of_lt (blk_lt (pk_ BK256.out)) : gb256 ≠ gb268)); have n11_ := Aside0.mk ((by rw [hg]; exact Nat.ne_of_gt (blk_lt (pk_ BK256.out)) : gb268 ≠ gb256)); clear HO_7; clear HO252; clear HO255; clear HO263; clear HO266; clear BK256; clear HB; have HO_7 := n0_; have HO252 := n1_; have HO255 := n2_; have HO263 := n3_; have HO266 := n4_; have BK256 := n5_; have HB := n6_; have BK268 := n7_; have GW268 := n8_; have GE268 := n9_; have NB256_268 := n10_; have NB268_256 := n11_; clear n0_ n1_ n2_ n3_ n4_ n5_ n6_ n7_ n8_ n9_ n10_ n11_; clear hb hbox hg; obtain ⟨Ao30, co30, eo30⟩ := Kd.R_slice HO263.out; subst eo30; have hnb31 := NB268_256.out; have hnc31 := NB256_268.out; have hcz32_0 : w29.cell? ⟨gb268, 0, none⟩ = some (.slice none 0 0) := (blk_cell BK268.out 0).trans rfl; have hcz32_1 : w29.cell? ⟨gb268, 1, none⟩ = some (.slice none 0 0) := (blk_cell BK268.out 1).trans rfl; have hfz32_0 := blk_frozen BK268.out 0; have hfz32_1 := blk_frozen BK268.out 1; obtain ⟨Ao33, co33, eo33⟩ := Kd.S_slice HO266.out; subst eo33))
    (try simp only [Act.put, List.setIfInBounds_toArray, List.set_cons_zero, List.set_cons_succ])
    have H := HS_.out
    clear HS_
    by_cases c34 : t267 = true
    rotate_left
    · replace c34 := Bool.eq_false_iff.mpr c34
      subst c34
      rw [if_neg (show ¬ (false = true) by decide)] at H
      by_cases c35 : x7_2.length < 17592186044416
      rotate_left
      · rw [if_neg c35] at H
        exact absurd H (by simp)
      rw [if_pos c35] at H
      have LMc35 := Aside0.mk c35
      clear c35
      obtain ⟨y275, hy275⟩ : ∃ y_ : List Int, y_ = (x7_2 ++ [(rd_T69 l2 x8_2).f0]) := ⟨_, rfl⟩
      replace H : (spec_LostTags.l0 k2 l0 l1 l2 y275 (wrap64 (x8_2 + 1))) = some r := by first | (rw [hy275]; with_reducible exact H) | (have H2_ := (Option.bind_some _ _).symm.trans H; rw [hy275]; with_reducible exact H2_) | (have H2_ := (Option.bind_some _ _).symm.trans H; with_reducible exact H2_) | with_reducible exact H | (rw [hy275]; exact H) | exact H
      have Ny275 := Aside0.mk hy275
      clear hy275
      have H' := Aside0.mk H
      clear H
      have p274 : 0 ≤ (x8_2 : Int) := dt_
      have q274 : x8_2 < (l2.length : Int) := dt_
      obtain ⟨ad274, A274_1, c274_1, e274, hx274_0, hx274_1, hl274_1, hi274_1⟩ := at_T69 HR2.out x8_2 p274 q274
      cases e274
      have hn274_0 : ad274.block ≠ gb268 := Nat.ne_of_lt (Nat.lt_of_lt_of_le (by have := World.block_lt_of_cell? _ _ hx274_0; first | rwa [add_block] at this | exact this) GW268.out)
      have hn274_1 : ad274.block ≠ gb268 := Nat.ne_of_lt (Nat.lt_of_lt_of_le (by have := World.block_lt_of_cell? _ _ hx274_0; first | rwa [add_block] at this | exact this) GW268.out)
      replace hx274_0 := (HB.out.cell (World.block_lt_of_cell? w _ hx274_0)).trans hx274_0
      replace hx274_1 := (HB.out.cell (World.block_lt_of_cell? w _ hx274_1)).trans hx274_1
      have HR274_1 := Aside0.mk hi274_1
      have HC274_1 := Aside0.mk hl274_1
      clear hi274_1 hl274_1
      replace hx274_0 := (cell_far (p := ⟨gb268, 0, none⟩) (by first | (rw [add_block]; exact hn274_0) | (show (Addr.add _ _).block ≠ _; rw [add_block]; exact hn274_0) | exact hn274_0) (.slice Ao30 t261.length co30)).trans hx274_0
      replace hx274_1 := (cell_far (p := ⟨gb268, 0, none⟩) (by first | (rw [add_block]; exact hn274_0) | (show (Addr.add _ _).block ≠ _; rw [add_block]; exact hn274_0) | exact hn274_0) (.slice Ao30 t261.length co30)).trans hx274_1
      replace hx274_0 := (cell_far (p := ⟨gb268, 1, none⟩) (by first | (rw [add_block]; exact hn274_1) | (show (Addr.add _ _).block ≠ _; rw [add_block]; exact hn274_1) | exact hn274_1) (.slice Ao33 t264.length co33)).trans hx274_0
      replace hx274_1 := (cell_far (p := ⟨gb268, 1, none⟩) (by first | (rw [add_block]; exact hn274_1) | (show (Addr.add _ _).block ≠ _; rw [add_block]; exact hn274_1) | exact hn274_1) (.slice Ao33 t264.length co33)).trans hx274_1
      clear hn274_0
      clear hn274_1
      replace p274 := eq_true p274
      replace q274 := eq_true q274
      go_wp2_with (first | ((with_reducible refine gate_builtin (b := .append) (xs := #[.tmp 54, .tmp 60]) rfl ?_); at_builtin; refine Kd.R_append (Kd.int .i64) (w0 := w) w.heap.size rfl (.tmp 54) (.tmp 60) 23 3 (.int .i64 0) 8 rfl Try.underlying23 info3 rfl (by decide) (by omega) u7 x7_2 ((rd_T69 l2 x8_2).f0) [.int .i64 ((rd_T69 l2 x8_2).f0)] (fun k_ => some k_ ≠ (.slice Ao18 t250.length co18 : Value).ownBlock ∧ some k_ ≠ (.slice Ao30 t261.length co30 : Value).ownBlock) (fun _ => False) rfl (by first | (go_simp; done) | (go_simp; rfl)) ?aP (fun _ hk => hk.elim) ?aF ?aO ?aB ?aS ?aL ?_; (case aP => exact rfl); (case aB => exact (pb2_ HB.out GE256.out GE268.out)); (case aF => exact (fun k_ hk => ⟨Kd.fresh' (Kd.R_lt (pr_ (rf2_ HO252.out BK268.out))) k_ hk, Kd.fresh' (Kd.R_lt (pr_ (rf2_ HO263.out BK268.out))) k_ hk⟩)); (case aO => exact (by (with_reducible repeat (first | apply Kd.R_alloc | apply Kd.R_drewN | apply Kd.R_drew)); exact Kd.R_mono (Kd.R_far (p := ⟨gb268, 1, none⟩) (Kd.R_far (p := ⟨gb268, 0, none⟩) (Kd.R_types HO_7.out BK268.out (by decide)) (fun _ hk => hk.2) (.slice Ao30 t261.length co30)) (fun _ hk => hk.2) (.slice Ao33 t264.length co33)) (fun _ hk => ⟨hk.1.1, hk.1.2⟩))); (case aS => exact (below_size (pb2_ HB.out GE256.out GE268.out))); (case aL => have := LMc35.out; omega); intro v276 w36 ho hb hg hat; rw [← Ny275.out] at ho; have n0_ := Aside0.mk (Kd.R_after (ok := (fun k_ => some k_ ≠ (.slice Ao30 t261.length co30 : Value).ownBlock)) (by (with_reducible repeat (first | apply Kd.R_alloc | apply Kd.R_drewN | apply Kd.R_drew)); exact Kd.R_mono (Kd.R_far (p := ⟨gb268, 1, none⟩) (Kd.R_far (p := ⟨gb268, 0, none⟩) (Kd.R_types HO252.out BK268.out (by decide)) (fun _ hk => hk.2) (.slice Ao30 t261.length co30)) (fun _ hk => hk.2) (.slice Ao33 t264.length co33)) (fun _ hk => ⟨hk.1.2, hk.1.1⟩)) hg hat); have n1_ := Aside0.mk (Kd.S_after (ok := (fun k_ => some k_ ≠ (.slice Ao18 t250.length co18 : Value).ownBlock ∧ some k_ ≠ (.slice Ao30 t261.length co30 : Value).ownBlock ∧ some k_ ≠ (.slice Ao33 t264.length co33 : Value).ownBlock)) (by (with_reducible repeat (first | apply Kd.S_alloc | apply Kd.S_drewN | apply Kd.S_drew)); exact Kd.S_mono (Kd.S_far (p := ⟨gb268, 1, none⟩) (Kd.S_far (p := ⟨gb268, 0, none⟩) (Kd.S_types HO255.out BK268.out (by decide)) (fun _ hk => hk.2) (.slice Ao30 t261.length co30)) (fun _ hk => hk.2) (.slice Ao33 t264.length co33)) (fun _ hk => ⟨⟨hk.1.1.1.2, ⟨hk.1.1.2, hk.1.2⟩⟩, hk.1.1.1.1⟩)) hg hat); have n2_ := Aside0.mk (blk_grown (g := gb256) (o := .cells #[.slice Ao18 t250.length co18, .slice A25 y257.length c25] 63 (0, 0)) (pp_ BK256.out) hg (Kd.R_ne HO_7.out BK256.out (by decide))); have n3_ := Aside0.mk (Kd.R_after (ok := (fun k_ => some k_ ≠ (.slice Ao18 t250.length co18 : Value).ownBlock)) (by (with_reducible repeat (first | apply Kd.R_alloc | apply Kd.R_drewN | apply Kd.R_drew)); exact Kd.R_mono (Kd.R_far (p := ⟨gb268, 1, none⟩) (Kd.R_far (p := ⟨gb268, 0, none⟩) (Kd.R_types HO263.out BK268.out (by decide)) (fun _ hk => hk.2) (.slice Ao30 t261.length co30)) (fun _ hk => hk.2) (.slice Ao33 t264.length co33)) (fun _ hk => ⟨hk.1.2, hk.1.1.2⟩)) hg hat); have n4_ := Aside0.mk (Kd.S_after (ok := (fun k_ => some k_ ≠ (.slice Ao18 t250.length co18 : Value).ownBlock ∧ some k_ ≠ (.slice Ao20 t253.length co20 : Value).ownBlock ∧ some k_ ≠ (.slice Ao30 t261.length co30 : Value).ownBlock)) (by (with_reducible repeat (first | apply Kd.S_alloc | apply Kd.S_drewN | apply Kd.S_drew)); exact Kd.S_mono (Kd.S_far (p := ⟨gb268, 1, none⟩) (Kd.S_far (p := ⟨gb268, 0, none⟩) (Kd.S_types HO266.out BK268.out (by decide)) (fun _ hk => hk.2) (.slice Ao30 t261.length co30)) (fun _ hk => hk.2) (.slice Ao33 t264.length co33)) (fun _ hk => ⟨⟨hk.1.1.2, ⟨hk.1.2, hk.1.1.1.1⟩⟩, hk.1.1.1.2⟩)) hg hat); have n5_ := Aside0.mk (blk_grown (g := gb268) (o := .cells #[.slice Ao30 t261.length co30, .slice Ao33 t264.length co33] 63 (0, 0)) (pp_ BK268.out) hg (Kd.R_ne HO_7.out BK268.out (by decide))); have n6_ := Aside0.mk (hb); have n7_ := Aside0.mk (ho); clear HO252; clear HO255; clear BK256; clear HO263; clear HO266; clear BK268; clear HB; clear HO_7; have HO252 := n0_; have HO255 := n1_; have BK256 := n2_; have HO263 := n3_; have HO266 := n4_; have BK268 := n5_; have HB := n6_; have HO277 := n7_; clear n0_ n1_ n2_ n3_ n4_ n5_ n6_ n7_; clear ho hb hg hat))
      go_roundg k2
      case measure => have := HJ3.out; have := HK2.out; omega
      case rel => exact ⟨(y275), (wrap64 (x8_2 + 1)), el_, H', ⟨by have := HJ3.out; have := HK2.out; omega⟩, ⟨pr_ (Kd.R_mono HO277.out (fun _ hk => trivial))⟩, ⟨pb2_ HB.out GE256.out GE268.out⟩⟩
    subst c34
    rw [if_pos rfl] at H
    replace H := Option.bind_eq_some_iff.mp H
    obtain ⟨t269, A370, H⟩ := H
    (try dsimp only at H)
    have A37 := Aside0.mk A370
    clear A370
    have HS_ := Aside0.mk H
    clear H
    have hnb38 := NB268_256.out
    have hnc38 := NB256_268.out
    obtain ⟨hcz39_0, hcz39_1, hfz39_0, hfz39_1⟩ := bc2_ BK268.out
    obtain ⟨hcz40_0, hcz40_1, hfz40_0, hfz40_1⟩ := bc2_ BK256.out
    go_upto_if 53 with (first | (go_at_call 45; (with_reducible refine (spec_EqualExts.calls k2 _ _ t264 _ _ y257 t269 _ ?side1 ?side2 ?side3 ?side4 A37.out).mono ?_); (case side1 => refine (Kd.S_reads' (e := 69) (base := w.heap.size) (ok := fun k_ => (((some k_ ≠ (.slice Ao30 t261.length co30 : Value).ownBlock ∧ some k_ ≠ (u7 : Value).ownBlock) ∧ some k_ ≠ (.slice Ao18 t250.length co18 : Value).ownBlock) ∧ some k_ ≠ (.slice Ao20 t253.length co20 : Value).ownBlock)) (n := t264.length) (c := co33) ?_).2.2; exact (ps_ (Kd.S_mono (Kd.S_far (p := ⟨gb268, 1, none⟩) (Kd.S_far (p := ⟨gb268, 0, none⟩) (Kd.S_types HO266.out BK268.out (by decide)) (fun _ hk => hk.2) (.slice Ao30 t261.length co30)) (fun _ hk => hk.2) (.slice Ao33 t264.length co33)) (fun _ h_ => h_.1)))); (case side2 => exact (Kd.S_reads' HO266.out).2.1); (case side3 => exact Kd.C_below HR260.out (pb2_ HB.out GE256.out GE268.out)); (case side4 => exact HC260.out); rintro e w' ⟨rfl, ⟨nd, rfl⟩⟩))
    (try simp only [Act.put, List.setIfInBounds_toArray, List.set_cons_zero, List.set_cons_succ])
    have H := HS_.out
    clear HS_
    by_cases c41 : t269 = true
    · subst c41
      rw [if_pos rfl] at H
      have H' := Aside0.mk H
      clear H
      go_wp2
      go_roundg k2
      case measure => have := HJ3.out; have := HK2.out; omega
      case rel => exact ⟨(x7_2), (wrap64 (x8_2 + 1)), el_, H', ⟨by have := HJ3.out; have := HK2.out; omega⟩, ⟨pr_ (Kd.R_mono (rf2_ HO_7.out BK268.out) (fun _ hk => trivial))⟩, ⟨pb2_ HB.out GE256.out GE268.out⟩⟩
    replace c41 := Bool.eq_false_iff.mpr c41
    subst c41
    rw [if_neg (show ¬ (false = true) by decide)] at H
    by_cases c42 : x7_2.length < 17592186044416
    rotate_left
    · rw [if_neg c42] at H
      exact absurd H (by simp)
    rw [if_pos c42] at H
    have LMc42 := Aside0.mk c42
    clear c42
    obtain ⟨y271, hy271⟩ : ∃ y_ : List Int, y_ = (x7_2 ++ [(rd_T69 l2 x8_2).f0]) := ⟨_, rfl⟩
    replace H : (spec_LostTags.l0 k2 l0 l1 l2 y271 (wrap64 (x8_2 + 1))) = some r := by first | (rw [hy271]; with_reducible exact H) | (have H2_ := (Option.bind_some _ _).symm.trans H; rw [hy271]; with_reducible exact H2_) | (have H2_ := (Option.bind_some _ _).symm.trans H; with_reducible exact H2_) | with_reducible exact H | (rw [hy271]; exact H) | exact H
    have Ny271 := Aside0.mk hy271
    clear hy271
    have H' := Aside0.mk H
    clear H
    have p270 : 0 ≤ (x8_2 : Int) := dt_
    have q270 : x8_2 < (l2.length : Int) := dt_
    obtain ⟨ad270, A270_1, c270_1, e270, hx270_0, hx270_1, hl270_1, hi270_1⟩ := at_T69 HR2.out x8_2 p270 q270
    cases e270
    have hn270_0 : ad270.block ≠ gb268 := Nat.ne_of_lt (Nat.lt_of_lt_of_le (by have := World.block_lt_of_cell? _ _ hx270_0; first | rwa [add_block] at this | exact this) GW268.out)
    have hn270_1 : ad270.block ≠ gb268 := Nat.ne_of_lt (Nat.lt_of_lt_of_le (by have := World.block_lt_of_cell? _ _ hx270_0; first | rwa [add_block] at this | exact this) GW268.out)
    replace hx270_0 := (HB.out.cell (World.block_lt_of_cell? w _ hx270_0)).trans hx270_0
    replace hx270_1 := (HB.out.cell (World.block_lt_of_cell? w _ hx270_1)).trans hx270_1
    have HR270_1 := Aside0.mk hi270_1
    have HC270_1 := Aside0.mk hl270_1
    clear hi270_1 hl270_1
    replace hx270_0 := (cell_far (p := ⟨gb268, 0, none⟩) (by first | (rw [add_block]; exact hn270_0) | (show (Addr.add _ _).block ≠ _; rw [add_block]; exact hn270_0) | exact hn270_0) (.slice Ao30 t261.length co30)).trans hx270_0
    replace hx270_1 := (cell_far (p := ⟨gb268, 0, none⟩) (by first | (rw [add_block]; exact hn270_0) | (show (Addr.add _ _).block ≠ _; rw [add_block]; exact hn270_0) | exact hn270_0) (.slice Ao30 t261.length co30)).trans hx270_1
    replace hx270_0 := (cell_far (p := ⟨gb268, 1, none⟩) (by first | (rw [add_block]; exact hn270_1) | (show (Addr.add _ _).block ≠ _; rw [add_block]; exact hn270_1) | exact hn270_1) (.slice Ao33 t264.length co33)).trans hx270_0
    replace hx270_1 := (cell_far (p := ⟨gb268, 1, none⟩) (by first | (rw [add_block]; exact hn270_1) | (show (Addr.add _ _).block ≠ _; rw [add_block]; exact hn270_1) | exact hn270_1) (.slice Ao33 t264.length co33)).trans hx270_1
    clear hn270_0
    clear hn270_1
    replace p270 := eq_true p270
    replace q270 := eq_true q270
    go_wp2_with (first | ((with_reducible refine gate_builtin (b := .append) (xs := #[.tmp 54, .tmp 60]) rfl ?_); at_builtin; refine Kd.R_append (Kd.int .i64) (w0 := w) w.heap.size rfl (.tmp 54) (.tmp 60) 23 3 (.int .i64 0) 8 rfl Try.underlying23 info3 rfl (by decide) (by omega) u7 x7_2 ((rd_T69 l2 x8_2).f0) [.int .i64 ((rd_T69 l2 x8_2).f0)] (fun k_ => some k_ ≠ (.slice Ao18 t250.length co18 : Value).ownBlock ∧ some k_ ≠ (.slice Ao30 t261.length co30 : Value).ownBlock) (fun _ => False) rfl (by first | (go_simp; done) | (go_simp; rfl)) ?aP (fun _ hk => hk.elim) ?aF ?aO ?aB ?aS ?aL ?_; (case aP => exact rfl); (case aB => exact (pb2_ HB.out GE256.out GE268.out)); (case aF => exact (fun k_ hk => ⟨Kd.fresh' (Kd.R_lt (pr_ (rf2_ HO252.out BK268.out))) k_ hk, Kd.fresh' (Kd.R_lt (pr_ (rf2_ HO263.out BK268.out))) k_ hk⟩)); (case aO => exact (by (with_reducible repeat (first | apply Kd.R_alloc | apply Kd.R_drewN | apply Kd.R_drew)); exact Kd.R_mono (Kd.R_far (p := ⟨gb268, 1, none⟩) (Kd.R_far (p := ⟨gb268, 0, none⟩) (Kd.R_types HO_7.out BK268.out (by decide)) (fun _ hk => hk.2) (.slice Ao30 t261.length co30)) (fun _ hk => hk.2) (.slice Ao33 t264.length co33)) (fun _ hk => ⟨hk.1.1, hk.1.2⟩))); (case aS => exact (below_size (pb2_ HB.out GE256.out GE268.out))); (case aL => have := LMc42.out; omega); intro v272 w43 ho hb hg hat; rw [← Ny271.out] at ho; have n0_ := Aside0.mk (Kd.R_after (ok := (fun k_ => some k_ ≠ (.slice Ao30 t261.length co30 : Value).ownBlock)) (by (with_reducible repeat (first | apply Kd.R_alloc | apply Kd.R_drewN | apply Kd.R_drew)); exact Kd.R_mono (Kd.R_far (p := ⟨gb268, 1, none⟩) (Kd.R_far (p := ⟨gb268, 0, none⟩) (Kd.R_types HO252.out BK268.out (by decide)) (fun _ hk => hk.2) (.slice Ao30 t261.length co30)) (fun _ hk => hk.2) (.slice Ao33 t264.length co33)) (fun _ hk => ⟨hk.1.2, hk.1.1⟩)) hg hat); have n1_ := Aside0.mk (Kd.S_after (ok := (fun k_ => some k_ ≠ (.slice Ao18 t250.length co18 : Value).ownBlock ∧ some k_ ≠ (.slice Ao30 t261.length co30 : Value).ownBlock ∧ some k_ ≠ (.slice Ao33 t264.length co33 : Value).ownBlock)) (by (with_reducible repeat (first | apply Kd.S_alloc | apply Kd.S_drewN | apply Kd.S_drew)); exact Kd.S_mono (Kd.S_far (p := ⟨gb268, 1, none⟩) (Kd.S_far (p := ⟨gb268, 0, none⟩) (Kd.S_types HO255.out BK268.out (by decide)) (fun _ hk => hk.2) (.slice Ao30 t261.length co30)) (fun _ hk => hk.2) (.slice Ao33 t264.length co33)) (fun _ hk => ⟨⟨hk.1.1.1.2, ⟨hk.1.1.2, hk.1.2⟩⟩, hk.1.1.1.1⟩)) hg hat); have n2_ := Aside0.mk (blk_grown (g := gb256) (o := .cells #[.slice Ao18 t250.length co18, .slice A25 y257.length c25] 63 (0, 0)) (pp_ BK256.out) hg (Kd.R_ne HO_7.out BK256.out (by decide))); have n3_ := Aside0.mk (Kd.R_after (ok := (fun k_ => some k_ ≠ (.slice Ao18 t250.length co18 : Value).ownBlock)) (by (with_reducible repeat (first | apply Kd.R_alloc | apply Kd.R_drewN | apply Kd.R_drew)); exact Kd.R_mono (Kd.R_far (p := ⟨gb268, 1, none⟩) (Kd.R_far (p := ⟨gb268, 0, none⟩) (Kd.R_types HO263.out BK268.out (by decide)) (fun _ hk => hk.2) (.slice Ao30 t261.length co30)) (fun _ hk => hk.2) (.slice Ao33 t264.length co33)) (fun _ hk => ⟨hk.1.2, hk.1.1.2⟩)) hg hat); have n4_ := Aside0.mk (Kd.S_after (ok := (fun k_ => some k_ ≠ (.slice Ao18 t250.length co18 : Value).ownBlock ∧ some k_ ≠ (.slice Ao20 t253.length co20 : Value).ownBlock ∧ some k_ ≠ (.slice Ao30 t261.length co30 : Value).ownBlock)) (by (with_reducible repeat (first | apply Kd.S_alloc | apply Kd.S_drewN | apply Kd.S_drew)); exact Kd.S_mono (Kd.S_far (p := ⟨gb268, 1, none⟩) (Kd.S_far (p := ⟨gb268, 0, none⟩) (Kd.S_types HO266.out BK268.out (by decide)) (fun _ hk => hk.2) (.slice Ao30 t261.length co30)) (fun _ hk => hk.2) (.slice Ao33 t264.length co33)) (fun _ hk => ⟨⟨hk.1.1.2, ⟨hk.1.2, hk.1.1.1.1⟩⟩, hk.1.1.1.2⟩)) hg hat); have n5_ := Aside0.mk (blk_grown (g := gb268) (o := .cells #[.slice Ao30 t261.length co30, .slice Ao33 t264.length co33] 63 (0, 0)) (pp_ BK268.out) hg (Kd.R_ne HO_7.out BK268.out (by decide))); have n6_ := Aside0.mk (hb); have n7_ := Aside0.mk (ho); clear HO252; clear HO255; clear BK256; clear HO263; clear HO266; clear BK268; clear HB; clear HO_7; have HO252 := n0_; have HO255 := n1_; have BK256 := n2_; have HO263 := n3_; have HO266 := n4_; have BK268 := n5_; have HB := n6_; have HO273 := n7_; clear n0_ n1_ n2_ n3_ n4_ n5_ n6_ n7_; clear ho hb hg hat))
    go_roundg k2
    case measure => have := HJ3.out; have := HK2.out; omega
    case rel => exact ⟨(y271), (wrap64 (x8_2 + 1)), el_, H', ⟨by have := HJ3.out; have := HK2.out; omega⟩, ⟨pr_ (Kd.R_mono HO273.out (fun _ hk => trivial))⟩, ⟨pb2_ HB.out GE256.out GE268.out⟩⟩
  subst c11
  rw [if_pos rfl] at H
  obtain rfl := Option.some.inj H
  go_wp2
  go_ret
  exact ⟨_, er_, pr_ HO_7.out, pb_ HB.out⟩

/-! ### spec_l29One: function 25 -/
def spec_l29One.f (a0 : Int) : Option ((List (S69))) := some (([(⟨a0, ([] : List Int)⟩ : S69)] : List (S69)))
set_option maxHeartbeats 8000000 in
set_option maxRecDepth 100000 in
theorem spec_l29One.calls (a0 : Int) (r : List (S69)) (w : World) (h : spec_l29One.f a0 = some r) :
    Calls Try.prog 25 #[.int .i64 a0] w fun e w' => ∃ v0_ : Value, e = .returned (v0_) ∧ Kd.S k69 69 w' w.heap.size (fun _ => True) v0_ r ∧ Below w.heap.size w w' := by
  have hu69 := Try.underlying69
  have HB := Aside0.mk (Below.refl w.heap.size w)
  have H : (some (([(⟨a0, ([] : List Int)⟩ : S69)] : List (S69)))) = some r := h
  clear h
  obtain ⟨y278, hy278⟩ : ∃ y_ : List (S69), y_ = (([(⟨a0, ([] : List Int)⟩ : S69)] : List (S69))) := ⟨_, rfl⟩
  replace H : (some y278) = some r := by first | (rw [hy278]; with_reducible exact H) | (have H2_ := (Option.bind_some _ _).symm.trans H; rw [hy278]; with_reducible exact H2_) | (have H2_ := (Option.bind_some _ _).symm.trans H; with_reducible exact H2_) | with_reducible exact H | (rw [hy278]; exact H) | exact H
  have Ny278 := Aside0.mk hy278
  clear hy278
  obtain rfl := Option.some.inj H
  go_enter Try.func25, Try.ntmps25
  go_wp2_with (first | ((with_reducible refine gate_dst (N := 5) rfl ?_); refine Kd.S_lit k69 _ 69 ?hg (N := 5) ?hd (xs := ([(⟨a0, ([] : List Int)⟩ : S69)] : List (S69))) (inner := [.int .i64 a0, .slice none 0 0]) (ok := fun _ => True) (okp := fun _ => True) ?hr ?hp (fun _ hk => hk) trivial (Below.refl _ _) (Nat.le_refl _) (by simp) ?_; (case hd => rfl); (case hg => rfl); (case hr => first | (go_simp; done) | (go_simp; rfl)); (case hp => exact (Reps.c2 (show Kd.M k69 _ _ _ (⟨a0, ([] : List Int)⟩ : S69) [.int .i64 a0, .slice none 0 0] from (k69_mkM _ _ _ (⟨a0, ([] : List Int)⟩ : S69) (Kd.R_nil _ _ _ _ _))) (Reps.none _ _))); intro v279 w2 ho3 hb hg_ hnew_; clear hg_ hnew_; (first | rw [← Ny278.out] at ho3 | (simp only [Int.reduceToNat] at ho3; rw [← Ny278.out] at ho3)); have n0_ := Aside0.mk (Kd.S_lower ho3 (below_size (pb_ HB.out))); have n1_ := Aside0.mk (below_step (pb_ HB.out) hb); clear HB; have HO280 := n0_; have HB := n1_; clear n0_ n1_; clear hb ho3))
  go_ret
  exact ⟨_, er_, ps_ HO280.out, pb_ HB.out⟩

/-! ### spec_HardnessOf: function 8 -/
def spec_HardnessOf.l0 : Nat → List (S50) → List Int → Int → Int → Option (Int)
  | 0, _, _, _, _ => none
  | k + 1, x0, x1, x5, x6 => if x6 < 256 then ((spec_l29One.f x6).bind fun t281 => ((spec_LostTags.f k x0 x1 t281).bind fun t284 => (if (t284.length : Int) > 0 then (spec_HardnessOf.l0 k x0 x1 (wrap64 (x5 + 1)) (wrap64 (x6 + 16))) else (spec_HardnessOf.l0 k x0 x1 x5 (wrap64 (x6 + 16)))))) else (some x5)
def spec_HardnessOf.f (k : Nat) (l0 : List (S50)) (l1 : List Int) : Option (Int) := spec_HardnessOf.l0 k l0 l1 0 10
theorem spec_HardnessOf.mono_l : ∀ k, (∀ y0 y1 y2 y3, LeO (spec_HardnessOf.l0 k y0 y1 y2 y3) (spec_HardnessOf.l0 (k + 1) y0 y1 y2 y3))
  | 0 => fun _ _ _ _ r h => by simp [spec_HardnessOf.l0] at h
  | k + 1 => by
    have ih0 := spec_HardnessOf.mono_l k
    · intro y0 y1 y2 y3
      unfold spec_HardnessOf.l0
      repeat' first
      | (with_reducible exact ih0 _ _ _ _)
      | (with_reducible exact spec_LostTags.mono _ _ _ _)
      | (with_reducible exact LeO.refl _)
      | (with_reducible exact LeO.none _)
      | (with_reducible refine LeO.ite ?_ ?_)
      | (with_reducible refine LeO.bind ?_ (fun _ => ?_))
      | exact ih0 _ _ _ _
      | exact spec_LostTags.mono _ _ _ _
      | exact LeO.none _
      | refine LeO.ite ?_ ?_
      | refine LeO.bind ?_ (fun _ => ?_)
theorem spec_HardnessOf.mono : ∀ a0 a1 k, LeO (spec_HardnessOf.f k a0 a1) (spec_HardnessOf.f (k + 1) a0 a1) := by
  intro a0 a1 k
  have ih0 := spec_HardnessOf.mono_l k
  unfold spec_HardnessOf.f
  repeat' first
      | (with_reducible exact ih0 _ _ _ _)
      | (with_reducible exact spec_LostTags.mono _ _ _ _)
      | (with_reducible exact LeO.refl _)
      | (with_reducible exact LeO.none _)
      | (with_reducible refine LeO.ite ?_ ?_)
      | (with_reducible refine LeO.bind ?_ (fun _ => ?_))
      | exact ih0 _ _ _ _
      | exact spec_LostTags.mono _ _ _ _
      | exact LeO.none _
      | refine LeO.ite ?_ ?_
      | refine LeO.bind ?_ (fun _ => ?_)
set_option maxHeartbeats 8000000 in
set_option maxRecDepth 100000 in
theorem spec_HardnessOf.calls (k : Nat) (A0 : Option Addr) (c0 : Nat) (l0 : List (S50)) (A1 : Option Addr) (c1 : Nat) (l1 : List Int) (r : Int) (w : World) (hr0 : Kd.C k50 w A0 l0.length l0) (hc0 : l0.length ≤ c0) (hr1 : Kd.C (Kd.int .i64) w A1 l1.length l1) (hc1 : l1.length ≤ c1) (h : spec_HardnessOf.f k l0 l1 = some r) :
    Calls Try.prog 8 #[.slice A0 l0.length c0, .slice A1 l1.length c1] w fun e w' => e = .returned (.int .i64 r) ∧ Below w.heap.size w w' := by
  have HR0 := Aside0.mk hr0
  have HC0 := Aside0.mk hc0
  clear hr0 hc0
  have HR1 := Aside0.mk hr1
  have HC1 := Aside0.mk hc1
  clear hr1 hc1
  have HB := Aside0.mk (Below.refl w.heap.size w)
  have H : (spec_HardnessOf.l0 k l0 l1 0 10) = some r := h
  clear h
  have H' := Aside0.mk H
  clear H
  go_enter Try.func8, Try.ntmps8
  go_wp2
  go_loopg [5, 6] k (fun kq v5 v6 w' => ∃ (x5_1 : Int) (x6_1 : Int), v5 = .int .i64 x5_1 ∧ v6 = .int .i64 x6_1 ∧ Aside0 (spec_HardnessOf.l0 kq l0 l1 x5_1 x6_1 = some r) ∧ Aside0 (kq ≤ k) ∧ Aside0 (Below w.heap.size w w'))
  case atStart => exact ⟨(0), (10), el_, el_, H', ⟨Nat.le_refl _⟩, ⟨pb_ HB.out⟩⟩
  clear H'
  try clear c1
  try clear p2
  obtain ⟨x5_1, x6_1, rfl, rfl, HA, HK1, HB⟩ := hrel
  rcases gk with _ | k1
  · exact absurd HA.out (by simp [spec_HardnessOf.l0])
  have H := HA.out
  clear HA
  simp only [spec_HardnessOf.l0] at H
  by_cases c3 : x6_1 < 256
  rotate_left
  · rw [if_neg c3] at H
    have c3b0 : decide (x6_1 < 256) = false := decide_eq_false c3
    clear c3
    obtain rfl := Option.some.inj H
    go_wp2
    go_ret
    exact ⟨er_, pb_ HB.out⟩
  rw [if_pos c3] at H
  have c3b0 : decide (x6_1 < 256) = true := decide_eq_true c3
  clear c3
  replace H := Option.bind_eq_some_iff.mp H
  obtain ⟨t281, A40, H⟩ := H
  (try dsimp only at H)
  have A4 := Aside0.mk A40
  clear A40
  replace H := Option.bind_eq_some_iff.mp H
  obtain ⟨t284, A50, H⟩ := H
  (try dsimp only at H)
  have A5 := Aside0.mk A50
  clear A50
  have HS_ := Aside0.mk H
  clear H
  go_upto_if 17 with (first | ((with_reducible refine gate_callee (f := 25) rfl ?_); refine goesL_ (some 14) rfl rfl Try.func25 (by kernel_rfl) rfl #[.int .i64 x6_1] rfl mp_ ?_; (with_reducible refine (spec_l29One.calls x6_1 t281 _ A4.out).mono ?_); rintro e w6 ⟨v282, rfl, ho0, hb⟩; refine ⟨_, rfl, ?_⟩; have n0_ := Aside0.mk (Kd.S_lower ho0 (below_size (pb_ HB.out))); have n1_ := Aside0.mk (below_step (pb_ HB.out) hb); clear HB; have HO283 := n0_; have HB := n1_; clear n0_ n1_; (try clear hb); (try clear hb2); (try clear hk); (try clear hi); (try clear ho0); obtain ⟨Ao7, co7, eo7⟩ := Kd.S_slice HO283.out; subst eo7) | ((with_reducible refine gate_callee (f := 24) rfl ?_); refine goesL_ (some 15) rfl rfl Try.func24 (by kernel_rfl) rfl #[.slice A0 l0.length c0, .slice A1 l1.length c1, .slice Ao7 t281.length co7] rfl mp_ ?_; (with_reducible refine (spec_LostTags.calls k1 _ _ l0 _ _ l1 _ _ t281 t284 _ ?side1 ?side2 ?side3 ?side4 ?side5 ?side6 A5.out).mono ?_); (case side1 => exact pc_ (Kd.C_below HR0.out HB.out)); (case side2 => exact HC0.out); (case side3 => exact pc_ (Kd.C_below HR1.out HB.out)); (case side4 => exact HC1.out); (case side5 => exact pc_ ((Kd.S_reads' HO283.out).2.2)); (case side6 => exact (Kd.S_reads' HO283.out).2.1); rintro e w8 ⟨v285, rfl, ho0, hb⟩; refine ⟨_, rfl, ?_⟩; have n0_ := Aside0.mk (Kd.S_elder' (ps_ HO283.out) (Kd.R_base ho0) hb); have n1_ := Aside0.mk (Kd.R_lower ho0 (below_size (pb_ HB.out))); have n2_ := Aside0.mk (below_step (pb_ HB.out) hb); clear HO283; clear HB; have HO283 := n0_; have HO286 := n1_; have HB := n2_; clear n0_ n1_ n2_; (try clear hb); (try clear hb2); (try clear hk); (try clear hi); (try clear ho0); obtain ⟨Ao9, co9, eo9⟩ := Kd.R_slice HO286.out; subst eo9))
  (try simp only [Act.put, List.setIfInBounds_toArray, List.set_cons_zero, List.set_cons_succ])
  have H := HS_.out
  clear HS_
  by_cases c10 : (t284.length : Int) > 0
  rotate_left
  · rw [if_neg c10] at H
    have c10b0 : decide (0 < (t284.length : Int)) = false := decide_eq_false c10
    have c10b1 : decide (0 < t284.length) = false := decide_eq_false (by omega)
    clear c10
    (first | rw [c10b0] | (simp only [i64_w, i32_w]; rw [c10b0]) | rw [c10b1] | skip)
    have H' := Aside0.mk H
    clear H
    go_wp2
    go_roundg k1
    case measure => have := HK1.out; omega
    case rel => exact ⟨(x5_1), (wrap64 (x6_1 + 16)), el_, el_, H', ⟨by have := HK1.out; omega⟩, ⟨pb_ HB.out⟩⟩
  rw [if_pos c10] at H
  have c10b0 : decide (0 < (t284.length : Int)) = true := decide_eq_true c10
  have c10b1 : decide (0 < t284.length) = true := decide_eq_true (by omega)
  clear c10
  (first | rw [c10b0] | (simp only [i64_w, i32_w]; rw [c10b0]) | rw [c10b1] | skip)
  have H' := Aside0.mk H
  clear H
  go_wp2
  go_roundg k1
  case measure => have := HK1.out; omega
  case rel => exact ⟨(wrap64 (x5_1 + 1)), (wrap64 (x6_1 + 16)), el_, el_, H', ⟨by have := HK1.out; omega⟩, ⟨pb_ HB.out⟩⟩

end Go.Proofs.Ytpoandlbmaljhaa.Print
