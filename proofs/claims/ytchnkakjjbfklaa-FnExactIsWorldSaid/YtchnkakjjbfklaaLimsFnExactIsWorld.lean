/- Written by a program of this session (merge.py): texts that the law's plain side leans on, laid together. No condition. -/
import Derived.Test.YtchnkakjjbfklaaWWords
import Derived.Test.YtchnkakjjbfklaaPrint1
import Derived.Test.YtchnkakjjbfklaaPrint2
import Derived.Test.YtchnkakjjbfklaaPrint3
import Derived.Test.YtchnkakjjbfklaaPrint4
import Derived.Test.YtchnkakjjbfklaaPrint5
import Derived.Test.YtchnkakjjbfklaaPrint6
import Derived.Test.YtchnkakjjbfklaaPrint8
import Derived.Test.YtchnkakjjbfklaaPrint11
import Derived.Test.YtchnkakjjbfklaaPrint12
import Derived.Test.YtchnkakjjbfklaaPrint13
import Derived.Test.YtchnkakjjbfklaaPrint9
import Derived.Test.YtchnkakjjbfklaaPrint7
import Derived.Test.YtchnkakjjbfklaaPrint14
import Derived.Test.YtchnkakjjbfklaaPrint15
import Derived.Test.YtchnkakjjbfklaaPrint10
import Derived.Test.YtchnkakjjbfklaaPrint16
/- What a function with rounds comes to when it has rounds enough, as an option: its equations hold without rounds. No condition. -/
namespace Go.Proofs.Ytchnkakjjbfklaa.Base
open Go.RowKit Go.Proofs.YtchnkakjjbfklaaW.PrintWords

/-- More rounds tell the same. -/
def Mo {α : Type} (g : Nat → Option α) : Prop := ∀ k, LeO (g k) (g (k + 1))
theorem mo_le {α : Type} {g : Nat → Option α} (h : Mo g) {k k' : Nat} (hk : k ≤ k') {r : α} (hr : g k = some r) : g k' = some r := at_rounds h hk hr
open Classical in
/-- What it comes to at last: nothing, or one answer. -/
noncomputable def Lim {α : Type} (g : Nat → Option α) : Option α := if h : ∃ r, ∃ k, g k = some r then some (Classical.choose h) else none
theorem lim_some {α : Type} {g : Nat → Option α} (h : Mo g) {k : Nat} {r : α} (hr : g k = some r) : Lim g = some r := by
  have hx : ∃ r, ∃ k, g k = some r := ⟨r, k, hr⟩
  unfold Lim
  rw [dif_pos hx]
  obtain ⟨k', hk'⟩ := Classical.choose_spec hx
  have h1 := mo_le h (Nat.le_max_left k k') hr
  have h2 := mo_le h (Nat.le_max_right k k') hk'
  rw [h1] at h2
  exact h2.symm
theorem of_lim {α : Type} {g : Nat → Option α} {r : α} (h : Lim g = some r) : ∃ k, g k = some r := by
  unfold Lim at h
  split at h
  · rename_i hx
    obtain rfl := Option.some.inj h
    exact Classical.choose_spec hx
  · cases h
theorem lim_none {α : Type} {g : Nat → Option α} (h : Lim g = none) (k : Nat) : g k = none := by
  cases hk : g k with
  | none => rfl
  | some r =>
    unfold Lim at h
    rw [dif_pos ⟨r, k, hk⟩] at h
    cases h
theorem none_lim {α : Type} {g : Nat → Option α} (h : ∀ k, g k = none) : Lim g = none := by
  unfold Lim
  rw [dif_neg]
  rintro ⟨r, k, hk⟩
  rw [h k] at hk
  cases hk
structure Is {α : Type} (g : Nat → Option α) (v : Option α) : Prop where
  mo : Mo g
  lim : Lim g = v
theorem Is.now {α : Type} (v : Option α) : Is (fun _ => v) v := by
  refine ⟨fun _ => LeO.refl _, ?_⟩
  cases v with
  | none => exact none_lim fun _ => rfl
  | some r => exact lim_some (g := fun _ => some r) (fun _ => LeO.refl _) (k := 0) rfl
theorem Is.ite {α : Type} {c : Prop} [Decidable c] {g h : Nat → Option α} {a b : Option α} (hg : Is g a) (hh : Is h b) : Is (fun k => if c then g k else h k) (if c then a else b) := by
  by_cases hc : c
  · simp only [if_pos hc]
    exact hg
  · simp only [if_neg hc]
    exact hh
theorem Is.bind {α β : Type} {g : Nat → Option α} {f : Nat → α → Option β} {a : Option α} {b : α → Option β} (hg : Is g a) (hf : ∀ x, Is (fun k => f k x) (b x)) : Is (fun k => (g k).bind (f k)) (a.bind b) := by
  have hm : Mo (fun k => (g k).bind (f k)) := fun k => LeO.bind (hg.mo k) (fun x => (hf x).mo k)
  refine ⟨hm, ?_⟩
  cases ha : a with
  | none =>
    refine none_lim fun k => ?_
    rw [lim_none (hg.lim.trans ha) k]
    rfl
  | some x =>
    obtain ⟨k, hk⟩ := of_lim (hg.lim.trans ha)
    show _ = b x
    cases hb : b x with
    | none =>
      refine none_lim fun k' => ?_
      cases hx : (g k').bind (f k') with
      | none => rfl
      | some r =>
        have h1 := mo_le hm (Nat.le_max_left k' k) hx
        have h2 := mo_le hg.mo (Nat.le_max_right k' k) hk
        simp only [h2, Option.bind_some] at h1
        rw [lim_none ((hf x).lim.trans hb)] at h1
        cases h1
    | some r =>
      obtain ⟨k', hk'⟩ := of_lim ((hf x).lim.trans hb)
      refine lim_some hm (k := max k k') ?_
      simp only [mo_le hg.mo (Nat.le_max_left k k') hk, Option.bind_some]
      exact mo_le (hf x).mo (Nat.le_max_right k k') hk'
theorem Is.step {α : Type} {g b : Nat → Option α} {v : Option α} (hg : Mo g) (h : ∀ k, g (k + 1) = b k) (hb : Is b v) : Lim g = v := by
  rw [← hb.lim]
  cases hx : Lim g with
  | none =>
    symm
    refine none_lim fun k => ?_
    rw [← h k]
    exact lim_none hx _
  | some r =>
    obtain ⟨k, hk⟩ := of_lim hx
    symm
    refine lim_some hb.mo (k := k) ?_
    rw [← h k]
    exact mo_le hg (Nat.le_succ k) hk
theorem ends {α : Type} {g : Nat → Option α} {r : α} (h : Lim g = some r) : ∃ k, g k = some r := of_lim h
end Go.Proofs.Ytchnkakjjbfklaa.Base

/- Written by a program of this session (limx.py): the equations of what the printed functions come to. No condition. -/
namespace Go.Proofs.Ytchnkakjjbfklaa.Print
open Go.RowKit Go.Proofs.YtchnkakjjbfklaaW.PrintWords Go.Proofs.YtchnkakjjbfklaaW.PrintLast Go.Proofs.Ytchnkakjjbfklaa.Base
set_option linter.unusedVariables false
set_option maxRecDepth 20000
noncomputable def laws_szBoxS.l0v (x0 : List (S117)) (x1 : Int) (x5 : Int) : Option (Int) := Lim fun k => laws_szBoxS.l0 k x0 x1 x5
noncomputable def laws_szBoxS.fv (l0 : List (S117)) (a1 : Int) : Option (Int) := Lim fun k => laws_szBoxS.f k l0 a1
theorem laws_szBoxS.l0_is (x0 : List (S117)) (x1 : Int) (x5 : Int) : Is (fun k => laws_szBoxS.l0 k x0 x1 x5) (laws_szBoxS.l0v x0 x1 x5) := ⟨fun k => (laws_szBoxS.mono_l k) x0 x1 x5, rfl⟩
theorem laws_szBoxS.f_is (l0 : List (S117)) (a1 : Int) : Is (fun k => laws_szBoxS.f k l0 a1) (laws_szBoxS.fv l0 a1) := ⟨fun k => laws_szBoxS.mono l0 a1 k, rfl⟩
theorem laws_szBoxS.l0v_eq (x0 : List (S117)) (x1 : Int) (x5 : Int) : laws_szBoxS.l0v x0 x1 x5 = if x5 < (x0.length : Int) then (if 0 ≤ x5 then ((laws_szBox.f ((rd_T117 x0 x5).f0) ((rd_T117 x0 x5).f1) ((rd_T117 x0 x5).f2) ((rd_T117 x0 x5).f3) x1).bind fun t105 => (if t105 < 0 then (some (-1)) else (laws_szBoxS.l0v x0 t105 (wrap64 (x5 + 1))))) else (none)) else (some x1) := by
  refine Is.step (laws_szBoxS.l0_is x0 x1 x5).mo (fun k => by rw [laws_szBoxS.l0]) ?_
  · skip
    repeat' first
    | with_reducible exact laws_szBoxS.l0_is _ _ _
    | with_reducible exact Is.now _
    | with_reducible refine Is.ite ?_ ?_
    | with_reducible refine Is.bind ?_ (fun _ => ?_)
theorem laws_szBoxS.fv_eq (l0 : List (S117)) (a1 : Int) : laws_szBoxS.fv l0 a1 = if (wrap64 (a1 - (l0.length : Int))) < 0 then (some (-1)) else (laws_szBoxS.l0v l0 (wrap64 (a1 - (l0.length : Int))) 0) := by
  refine Is.lim (g := fun k => laws_szBoxS.f k l0 a1) ?_
  · unfold laws_szBoxS.f
    repeat' first
    | with_reducible exact laws_szBoxS.l0_is _ _ _
    | with_reducible exact Is.now _
    | with_reducible refine Is.ite ?_ ?_
    | with_reducible refine Is.bind ?_ (fun _ => ?_)
noncomputable def laws_szEndpoint.fv (l0_0 : List Int) (l0_1 : List Int) (l0_2 : List (S117)) (a0_3 : Int) (a1 : Int) : Option (Int) := Lim fun k => laws_szEndpoint.f k l0_0 l0_1 l0_2 a0_3 a1
theorem laws_szEndpoint.f_is (l0_0 : List Int) (l0_1 : List Int) (l0_2 : List (S117)) (a0_3 : Int) (a1 : Int) : Is (fun k => laws_szEndpoint.f k l0_0 l0_1 l0_2 a0_3 a1) (laws_szEndpoint.fv l0_0 l0_1 l0_2 a0_3 a1) := ⟨fun k => laws_szEndpoint.mono l0_0 l0_1 l0_2 a0_3 a1 k, rfl⟩
theorem laws_szEndpoint.fv_eq (l0_0 : List Int) (l0_1 : List Int) (l0_2 : List (S117)) (a0_3 : Int) (a1 : Int) : laws_szEndpoint.fv l0_0 l0_1 l0_2 a0_3 a1 = (laws_szIntS.f l0_0 a1).bind fun t107 => (if t107 < 0 then (some (-1)) else ((laws_szIntS.f l0_1 t107).bind fun t108 => (if t108 < 0 then (some (-1)) else ((laws_szBoxS.fv l0_2 t108).bind fun t109 => (if t109 < 0 then (some (-1)) else (some t109)))))) := by
  refine Is.lim (g := fun k => laws_szEndpoint.f k l0_0 l0_1 l0_2 a0_3 a1) ?_
  · unfold laws_szEndpoint.f
    repeat' first
    | with_reducible exact laws_szBoxS.f_is _ _
    | with_reducible exact Is.now _
    | with_reducible refine Is.ite ?_ ?_
    | with_reducible refine Is.bind ?_ (fun _ => ?_)
noncomputable def laws_szEndpointS.l0v (x0 : List (S85)) (x1 : Int) (x5 : Int) : Option (Int) := Lim fun k => laws_szEndpointS.l0 k x0 x1 x5
noncomputable def laws_szEndpointS.fv (l0 : List (S85)) (a1 : Int) : Option (Int) := Lim fun k => laws_szEndpointS.f k l0 a1
theorem laws_szEndpointS.l0_is (x0 : List (S85)) (x1 : Int) (x5 : Int) : Is (fun k => laws_szEndpointS.l0 k x0 x1 x5) (laws_szEndpointS.l0v x0 x1 x5) := ⟨fun k => (laws_szEndpointS.mono_l k) x0 x1 x5, rfl⟩
theorem laws_szEndpointS.f_is (l0 : List (S85)) (a1 : Int) : Is (fun k => laws_szEndpointS.f k l0 a1) (laws_szEndpointS.fv l0 a1) := ⟨fun k => laws_szEndpointS.mono l0 a1 k, rfl⟩
theorem laws_szEndpointS.l0v_eq (x0 : List (S85)) (x1 : Int) (x5 : Int) : laws_szEndpointS.l0v x0 x1 x5 = if x5 < (x0.length : Int) then (if 0 ≤ x5 then ((laws_szEndpoint.fv ((rd_T85 x0 x5).f0) ((rd_T85 x0 x5).f1) ((rd_T85 x0 x5).f2) ((rd_T85 x0 x5).f3) x1).bind fun t111 => (if t111 < 0 then (some (-1)) else (laws_szEndpointS.l0v x0 t111 (wrap64 (x5 + 1))))) else (none)) else (some x1) := by
  refine Is.step (laws_szEndpointS.l0_is x0 x1 x5).mo (fun k => by rw [laws_szEndpointS.l0]) ?_
  · skip
    repeat' first
    | with_reducible exact laws_szEndpoint.f_is _ _ _ _ _
    | with_reducible exact laws_szEndpointS.l0_is _ _ _
    | with_reducible exact Is.now _
    | with_reducible refine Is.ite ?_ ?_
    | with_reducible refine Is.bind ?_ (fun _ => ?_)
theorem laws_szEndpointS.fv_eq (l0 : List (S85)) (a1 : Int) : laws_szEndpointS.fv l0 a1 = if (wrap64 (a1 - (l0.length : Int))) < 0 then (some (-1)) else (laws_szEndpointS.l0v l0 (wrap64 (a1 - (l0.length : Int))) 0) := by
  refine Is.lim (g := fun k => laws_szEndpointS.f k l0 a1) ?_
  · unfold laws_szEndpointS.f
    repeat' first
    | with_reducible exact laws_szEndpointS.l0_is _ _ _
    | with_reducible exact Is.now _
    | with_reducible refine Is.ite ?_ ?_
    | with_reducible refine Is.bind ?_ (fun _ => ?_)
noncomputable def laws_szDialedS.l0v (x0 : List (S89)) (x1 : Int) (x5 : Int) : Option (Int) := Lim fun k => laws_szDialedS.l0 k x0 x1 x5
noncomputable def laws_szDialedS.fv (l0 : List (S89)) (a1 : Int) : Option (Int) := Lim fun k => laws_szDialedS.f k l0 a1
theorem laws_szDialedS.l0_is (x0 : List (S89)) (x1 : Int) (x5 : Int) : Is (fun k => laws_szDialedS.l0 k x0 x1 x5) (laws_szDialedS.l0v x0 x1 x5) := ⟨fun k => (laws_szDialedS.mono_l k) x0 x1 x5, rfl⟩
theorem laws_szDialedS.f_is (l0 : List (S89)) (a1 : Int) : Is (fun k => laws_szDialedS.f k l0 a1) (laws_szDialedS.fv l0 a1) := ⟨fun k => laws_szDialedS.mono l0 a1 k, rfl⟩
theorem laws_szDialedS.l0v_eq (x0 : List (S89)) (x1 : Int) (x5 : Int) : laws_szDialedS.l0v x0 x1 x5 = if x5 < (x0.length : Int) then (if 0 ≤ x5 then ((laws_szDialed.f ((rd_T89 x0 x5).f0.f0) ((rd_T89 x0 x5).f0.f1) ((rd_T89 x0 x5).f0.f2) ((rd_T89 x0 x5).f1) ((rd_T89 x0 x5).f2) x1).bind fun t120 => (if t120 < 0 then (some (-1)) else (laws_szDialedS.l0v x0 t120 (wrap64 (x5 + 1))))) else (none)) else (some x1) := by
  refine Is.step (laws_szDialedS.l0_is x0 x1 x5).mo (fun k => by rw [laws_szDialedS.l0]) ?_
  · skip
    repeat' first
    | with_reducible exact laws_szDialedS.l0_is _ _ _
    | with_reducible exact Is.now _
    | with_reducible refine Is.ite ?_ ?_
    | with_reducible refine Is.bind ?_ (fun _ => ?_)
theorem laws_szDialedS.fv_eq (l0 : List (S89)) (a1 : Int) : laws_szDialedS.fv l0 a1 = if (wrap64 (a1 - (l0.length : Int))) < 0 then (some (-1)) else (laws_szDialedS.l0v l0 (wrap64 (a1 - (l0.length : Int))) 0) := by
  refine Is.lim (g := fun k => laws_szDialedS.f k l0 a1) ?_
  · unfold laws_szDialedS.f
    repeat' first
    | with_reducible exact laws_szDialedS.l0_is _ _ _
    | with_reducible exact Is.now _
    | with_reducible refine Is.ite ?_ ?_
    | with_reducible refine Is.bind ?_ (fun _ => ?_)
end Go.Proofs.Ytchnkakjjbfklaa.Print

/- Written by a program of this session (limx.py): the equations of what the printed functions come to. No condition. -/
namespace Go.Proofs.Ytchnkakjjbfklaa.Print
open Go.RowKit Go.Proofs.YtchnkakjjbfklaaW.PrintWords Go.Proofs.YtchnkakjjbfklaaW.PrintLast Go.Proofs.Ytchnkakjjbfklaa.Base
set_option linter.unusedVariables false
set_option maxRecDepth 20000
noncomputable def laws_szLoggedS.l0v (x0 : List (S92)) (x1 : Int) (x5 : Int) : Option (Int) := Lim fun k => laws_szLoggedS.l0 k x0 x1 x5
noncomputable def laws_szLoggedS.fv (l0 : List (S92)) (a1 : Int) : Option (Int) := Lim fun k => laws_szLoggedS.f k l0 a1
theorem laws_szLoggedS.l0_is (x0 : List (S92)) (x1 : Int) (x5 : Int) : Is (fun k => laws_szLoggedS.l0 k x0 x1 x5) (laws_szLoggedS.l0v x0 x1 x5) := ⟨fun k => (laws_szLoggedS.mono_l k) x0 x1 x5, rfl⟩
theorem laws_szLoggedS.f_is (l0 : List (S92)) (a1 : Int) : Is (fun k => laws_szLoggedS.f k l0 a1) (laws_szLoggedS.fv l0 a1) := ⟨fun k => laws_szLoggedS.mono l0 a1 k, rfl⟩
theorem laws_szLoggedS.l0v_eq (x0 : List (S92)) (x1 : Int) (x5 : Int) : laws_szLoggedS.l0v x0 x1 x5 = if x5 < (x0.length : Int) then (if 0 ≤ x5 then ((laws_szLogged.f ((rd_T92 x0 x5).f0) ((rd_T92 x0 x5).f1) ((rd_T92 x0 x5).f2) ((rd_T92 x0 x5).f3.f0.f0) ((rd_T92 x0 x5).f3.f0.f1) ((rd_T92 x0 x5).f3.f0.f2) ((rd_T92 x0 x5).f3.f1) ((rd_T92 x0 x5).f3.f2) x1).bind fun t124 => (if t124 < 0 then (some (-1)) else (laws_szLoggedS.l0v x0 t124 (wrap64 (x5 + 1))))) else (none)) else (some x1) := by
  refine Is.step (laws_szLoggedS.l0_is x0 x1 x5).mo (fun k => by rw [laws_szLoggedS.l0]) ?_
  · skip
    repeat' first
    | with_reducible exact laws_szLoggedS.l0_is _ _ _
    | with_reducible exact Is.now _
    | with_reducible refine Is.ite ?_ ?_
    | with_reducible refine Is.bind ?_ (fun _ => ?_)
theorem laws_szLoggedS.fv_eq (l0 : List (S92)) (a1 : Int) : laws_szLoggedS.fv l0 a1 = if (wrap64 (a1 - (l0.length : Int))) < 0 then (some (-1)) else (laws_szLoggedS.l0v l0 (wrap64 (a1 - (l0.length : Int))) 0) := by
  refine Is.lim (g := fun k => laws_szLoggedS.f k l0 a1) ?_
  · unfold laws_szLoggedS.f
    repeat' first
    | with_reducible exact laws_szLoggedS.l0_is _ _ _
    | with_reducible exact Is.now _
    | with_reducible refine Is.ite ?_ ?_
    | with_reducible refine Is.bind ?_ (fun _ => ?_)
noncomputable def laws_szWorld.fv (l0_0 : List Int) (l0_1 : List Int) (a0_2 : Int) (l0_3 : List (S85)) (a0_4 : Int) (l0_5 : List Int) (a0_6 : Int) (a0_7 : Bool) (a0_8 : Int) (a0_9 : Int) (l0_10 : List (S89)) (l0_11 : List (S92)) (a0_12 : Int) (a0_13 : Int) (a0_14 : Int) (a1 : Int) : Option (Int) := Lim fun k => laws_szWorld.f k l0_0 l0_1 a0_2 l0_3 a0_4 l0_5 a0_6 a0_7 a0_8 a0_9 l0_10 l0_11 a0_12 a0_13 a0_14 a1
theorem laws_szWorld.f_is (l0_0 : List Int) (l0_1 : List Int) (a0_2 : Int) (l0_3 : List (S85)) (a0_4 : Int) (l0_5 : List Int) (a0_6 : Int) (a0_7 : Bool) (a0_8 : Int) (a0_9 : Int) (l0_10 : List (S89)) (l0_11 : List (S92)) (a0_12 : Int) (a0_13 : Int) (a0_14 : Int) (a1 : Int) : Is (fun k => laws_szWorld.f k l0_0 l0_1 a0_2 l0_3 a0_4 l0_5 a0_6 a0_7 a0_8 a0_9 l0_10 l0_11 a0_12 a0_13 a0_14 a1) (laws_szWorld.fv l0_0 l0_1 a0_2 l0_3 a0_4 l0_5 a0_6 a0_7 a0_8 a0_9 l0_10 l0_11 a0_12 a0_13 a0_14 a1) := ⟨fun k => laws_szWorld.mono l0_0 l0_1 a0_2 l0_3 a0_4 l0_5 a0_6 a0_7 a0_8 a0_9 l0_10 l0_11 a0_12 a0_13 a0_14 a1 k, rfl⟩
theorem laws_szWorld.fv_eq (l0_0 : List Int) (l0_1 : List Int) (a0_2 : Int) (l0_3 : List (S85)) (a0_4 : Int) (l0_5 : List Int) (a0_6 : Int) (a0_7 : Bool) (a0_8 : Int) (a0_9 : Int) (l0_10 : List (S89)) (l0_11 : List (S92)) (a0_12 : Int) (a0_13 : Int) (a0_14 : Int) (a1 : Int) : laws_szWorld.fv l0_0 l0_1 a0_2 l0_3 a0_4 l0_5 a0_6 a0_7 a0_8 a0_9 l0_10 l0_11 a0_12 a0_13 a0_14 a1 = (laws_szIntS.f l0_0 a1).bind fun t126 => (if t126 < 0 then (some (-1)) else ((laws_szIntS.f l0_1 t126).bind fun t127 => (if t127 < 0 then (some (-1)) else ((laws_szEndpointS.fv l0_3 t127).bind fun t128 => (if t128 < 0 then (some (-1)) else ((laws_szRollout.f a0_4 l0_5 a0_6 a0_7 t128).bind fun t129 => (if t129 < 0 then (some (-1)) else ((laws_szDialedS.fv l0_10 t129).bind fun t130 => (if t130 < 0 then (some (-1)) else ((laws_szLoggedS.fv l0_11 t130).bind fun t131 => (if t131 < 0 then (some (-1)) else (some t131)))))))))))) := by
  refine Is.lim (g := fun k => laws_szWorld.f k l0_0 l0_1 a0_2 l0_3 a0_4 l0_5 a0_6 a0_7 a0_8 a0_9 l0_10 l0_11 a0_12 a0_13 a0_14 a1) ?_
  · unfold laws_szWorld.f
    repeat' first
    | with_reducible exact laws_szDialedS.f_is _ _
    | with_reducible exact laws_szEndpointS.f_is _ _
    | with_reducible exact laws_szLoggedS.f_is _ _
    | with_reducible exact Is.now _
    | with_reducible refine Is.ite ?_ ?_
    | with_reducible refine Is.bind ?_ (fun _ => ?_)
noncomputable def laws_toIntS.l0v (x0 : List Int) (x3 : List Int) (x4 : Int) : Option (List Int) := Lim fun k => laws_toIntS.l0 k x0 x3 x4
noncomputable def laws_toIntS.fv (l0 : List Int) : Option (List Int) := Lim fun k => laws_toIntS.f k l0
theorem laws_toIntS.l0_is (x0 : List Int) (x3 : List Int) (x4 : Int) : Is (fun k => laws_toIntS.l0 k x0 x3 x4) (laws_toIntS.l0v x0 x3 x4) := ⟨fun k => (laws_toIntS.mono_l k) x0 x3 x4, rfl⟩
theorem laws_toIntS.f_is (l0 : List Int) : Is (fun k => laws_toIntS.f k l0) (laws_toIntS.fv l0) := ⟨fun k => laws_toIntS.mono l0 k, rfl⟩
theorem laws_toIntS.l0v_eq (x0 : List Int) (x3 : List Int) (x4 : Int) : laws_toIntS.l0v x0 x3 x4 = if x4 < (x0.length : Int) then (if 0 ≤ x4 then (if x4 < (x3.length : Int) then (laws_toIntS.l0v x0 (x3.set (x4 : Int).toNat (rd x0 x4)) (wrap64 (x4 + 1))) else (none)) else (none)) else (some x3) := by
  refine Is.step (laws_toIntS.l0_is x0 x3 x4).mo (fun k => by rw [laws_toIntS.l0]) ?_
  · skip
    repeat' first
    | with_reducible exact laws_toIntS.l0_is _ _ _
    | with_reducible exact Is.now _
    | with_reducible refine Is.ite ?_ ?_
    | with_reducible refine Is.bind ?_ (fun _ => ?_)
theorem laws_toIntS.fv_eq (l0 : List Int) : laws_toIntS.fv l0 = if 0 ≤ (l0.length : Int) then (if ((l0.length : Int) : Int).toNat ≤ 35184372088832 then (laws_toIntS.l0v l0 (List.replicate ((l0.length : Int) : Int).toNat 0) 0) else (none)) else (none) := by
  refine Is.lim (g := fun k => laws_toIntS.f k l0) ?_
  · unfold laws_toIntS.f
    repeat' first
    | with_reducible exact laws_toIntS.l0_is _ _ _
    | with_reducible exact Is.now _
    | with_reducible refine Is.ite ?_ ?_
    | with_reducible refine Is.bind ?_ (fun _ => ?_)
noncomputable def laws_toBox.fv (a0_0 : Int) (l0_1 : List Int) (l0_2 : List Int) (a0_3 : Bool) : Option (Int × List Int × List Int × Bool) := Lim fun k => laws_toBox.f k a0_0 l0_1 l0_2 a0_3
theorem laws_toBox.f_is (a0_0 : Int) (l0_1 : List Int) (l0_2 : List Int) (a0_3 : Bool) : Is (fun k => laws_toBox.f k a0_0 l0_1 l0_2 a0_3) (laws_toBox.fv a0_0 l0_1 l0_2 a0_3) := ⟨fun k => laws_toBox.mono a0_0 l0_1 l0_2 a0_3 k, rfl⟩
theorem laws_toBox.fv_eq (a0_0 : Int) (l0_1 : List Int) (l0_2 : List Int) (a0_3 : Bool) : laws_toBox.fv a0_0 l0_1 l0_2 a0_3 = (laws_toIntS.fv l0_1).bind fun t140 => ((laws_toIntS.fv l0_2).bind fun t143 => (some (a0_0, t140, t143, a0_3))) := by
  refine Is.lim (g := fun k => laws_toBox.f k a0_0 l0_1 l0_2 a0_3) ?_
  · unfold laws_toBox.f
    repeat' first
    | with_reducible exact laws_toIntS.f_is _
    | with_reducible exact Is.now _
    | with_reducible refine Is.ite ?_ ?_
    | with_reducible refine Is.bind ?_ (fun _ => ?_)
noncomputable def laws_toBoxS.l0v (x0 : List (S117)) (x3 : List (S95)) (x4 : Int) : Option ((List (S95))) := Lim fun k => laws_toBoxS.l0 k x0 x3 x4
noncomputable def laws_toBoxS.fv (l0 : List (S117)) : Option ((List (S95))) := Lim fun k => laws_toBoxS.f k l0
theorem laws_toBoxS.l0_is (x0 : List (S117)) (x3 : List (S95)) (x4 : Int) : Is (fun k => laws_toBoxS.l0 k x0 x3 x4) (laws_toBoxS.l0v x0 x3 x4) := ⟨fun k => (laws_toBoxS.mono_l k) x0 x3 x4, rfl⟩
theorem laws_toBoxS.f_is (l0 : List (S117)) : Is (fun k => laws_toBoxS.f k l0) (laws_toBoxS.fv l0) := ⟨fun k => laws_toBoxS.mono l0 k, rfl⟩
theorem laws_toBoxS.l0v_eq (x0 : List (S117)) (x3 : List (S95)) (x4 : Int) : laws_toBoxS.l0v x0 x3 x4 = if x4 < (x0.length : Int) then (if 0 ≤ x4 then ((laws_toBox.fv ((rd_T117 x0 x4).f0) ((rd_T117 x0 x4).f1) ((rd_T117 x0 x4).f2) ((rd_T117 x0 x4).f3)).bind fun bt150 => (if x4 < (x3.length : Int) then (laws_toBoxS.l0v x0 (x3.set (x4 : Int).toNat (⟨bt150.1, bt150.2.1, bt150.2.2.1, bt150.2.2.2⟩ : S95)) (wrap64 (x4 + 1))) else (none))) else (none)) else (some x3) := by
  refine Is.step (laws_toBoxS.l0_is x0 x3 x4).mo (fun k => by rw [laws_toBoxS.l0]) ?_
  · skip
    repeat' first
    | with_reducible exact laws_toBox.f_is _ _ _ _
    | with_reducible exact laws_toBoxS.l0_is _ _ _
    | with_reducible exact Is.now _
    | with_reducible refine Is.ite ?_ ?_
    | with_reducible refine Is.bind ?_ (fun _ => ?_)
theorem laws_toBoxS.fv_eq (l0 : List (S117)) : laws_toBoxS.fv l0 = if 0 ≤ (l0.length : Int) then (if ((l0.length : Int) : Int).toNat ≤ 4398046511104 then (laws_toBoxS.l0v l0 (List.replicate ((l0.length : Int) : Int).toNat z95) 0) else (none)) else (none) := by
  refine Is.lim (g := fun k => laws_toBoxS.f k l0) ?_
  · unfold laws_toBoxS.f
    repeat' first
    | with_reducible exact laws_toBoxS.l0_is _ _ _
    | with_reducible exact Is.now _
    | with_reducible refine Is.ite ?_ ?_
    | with_reducible refine Is.bind ?_ (fun _ => ?_)
noncomputable def laws_toEndpoint.fv (l0_0 : List Int) (l0_1 : List Int) (l0_2 : List (S117)) (a0_3 : Int) : Option (List Int × List Int × (List (S95)) × Int) := Lim fun k => laws_toEndpoint.f k l0_0 l0_1 l0_2 a0_3
theorem laws_toEndpoint.f_is (l0_0 : List Int) (l0_1 : List Int) (l0_2 : List (S117)) (a0_3 : Int) : Is (fun k => laws_toEndpoint.f k l0_0 l0_1 l0_2 a0_3) (laws_toEndpoint.fv l0_0 l0_1 l0_2 a0_3) := ⟨fun k => laws_toEndpoint.mono l0_0 l0_1 l0_2 a0_3 k, rfl⟩
theorem laws_toEndpoint.fv_eq (l0_0 : List Int) (l0_1 : List Int) (l0_2 : List (S117)) (a0_3 : Int) : laws_toEndpoint.fv l0_0 l0_1 l0_2 a0_3 = (laws_toIntS.fv l0_0).bind fun t162 => ((laws_toIntS.fv l0_1).bind fun t165 => ((laws_toBoxS.fv l0_2).bind fun t168 => (some (t162, t165, t168, a0_3)))) := by
  refine Is.lim (g := fun k => laws_toEndpoint.f k l0_0 l0_1 l0_2 a0_3) ?_
  · unfold laws_toEndpoint.f
    repeat' first
    | with_reducible exact laws_toBoxS.f_is _
    | with_reducible exact laws_toIntS.f_is _
    | with_reducible exact Is.now _
    | with_reducible refine Is.ite ?_ ?_
    | with_reducible refine Is.bind ?_ (fun _ => ?_)
noncomputable def laws_toEndpointS.l0v (x0 : List (S85)) (x3 : List (S50)) (x4 : Int) : Option ((List (S50))) := Lim fun k => laws_toEndpointS.l0 k x0 x3 x4
noncomputable def laws_toEndpointS.fv (l0 : List (S85)) : Option ((List (S50))) := Lim fun k => laws_toEndpointS.f k l0
theorem laws_toEndpointS.l0_is (x0 : List (S85)) (x3 : List (S50)) (x4 : Int) : Is (fun k => laws_toEndpointS.l0 k x0 x3 x4) (laws_toEndpointS.l0v x0 x3 x4) := ⟨fun k => (laws_toEndpointS.mono_l k) x0 x3 x4, rfl⟩
theorem laws_toEndpointS.f_is (l0 : List (S85)) : Is (fun k => laws_toEndpointS.f k l0) (laws_toEndpointS.fv l0) := ⟨fun k => laws_toEndpointS.mono l0 k, rfl⟩
theorem laws_toEndpointS.l0v_eq (x0 : List (S85)) (x3 : List (S50)) (x4 : Int) : laws_toEndpointS.l0v x0 x3 x4 = if x4 < (x0.length : Int) then (if 0 ≤ x4 then ((laws_toEndpoint.fv ((rd_T85 x0 x4).f0) ((rd_T85 x0 x4).f1) ((rd_T85 x0 x4).f2) ((rd_T85 x0 x4).f3)).bind fun bt175 => (if x4 < (x3.length : Int) then (laws_toEndpointS.l0v x0 (x3.set (x4 : Int).toNat (⟨bt175.1, bt175.2.1, bt175.2.2.1, bt175.2.2.2⟩ : S50)) (wrap64 (x4 + 1))) else (none))) else (none)) else (some x3) := by
  refine Is.step (laws_toEndpointS.l0_is x0 x3 x4).mo (fun k => by rw [laws_toEndpointS.l0]) ?_
  · skip
    repeat' first
    | with_reducible exact laws_toEndpoint.f_is _ _ _ _
    | with_reducible exact laws_toEndpointS.l0_is _ _ _
    | with_reducible exact Is.now _
    | with_reducible refine Is.ite ?_ ?_
    | with_reducible refine Is.bind ?_ (fun _ => ?_)
theorem laws_toEndpointS.fv_eq (l0 : List (S85)) : laws_toEndpointS.fv l0 = if 0 ≤ (l0.length : Int) then (if ((l0.length : Int) : Int).toNat ≤ 3518437208883 then (laws_toEndpointS.l0v l0 (List.replicate ((l0.length : Int) : Int).toNat z50) 0) else (none)) else (none) := by
  refine Is.lim (g := fun k => laws_toEndpointS.f k l0) ?_
  · unfold laws_toEndpointS.f
    repeat' first
    | with_reducible exact laws_toEndpointS.l0_is _ _ _
    | with_reducible exact Is.now _
    | with_reducible refine Is.ite ?_ ?_
    | with_reducible refine Is.bind ?_ (fun _ => ?_)
end Go.Proofs.Ytchnkakjjbfklaa.Print

/- Written by a program of this session (limx.py): the equations of what the printed functions come to. No condition. -/
namespace Go.Proofs.Ytchnkakjjbfklaa.Print
open Go.RowKit Go.Proofs.YtchnkakjjbfklaaW.PrintWords Go.Proofs.YtchnkakjjbfklaaW.PrintLast Go.Proofs.Ytchnkakjjbfklaa.Base
set_option linter.unusedVariables false
set_option maxRecDepth 20000
noncomputable def laws_toRollout.fv (a0_0 : Int) (l0_1 : List Int) (a0_2 : Int) (a0_3 : Bool) : Option (Int × List Int × Int × Bool) := Lim fun k => laws_toRollout.f k a0_0 l0_1 a0_2 a0_3
theorem laws_toRollout.f_is (a0_0 : Int) (l0_1 : List Int) (a0_2 : Int) (a0_3 : Bool) : Is (fun k => laws_toRollout.f k a0_0 l0_1 a0_2 a0_3) (laws_toRollout.fv a0_0 l0_1 a0_2 a0_3) := ⟨fun k => laws_toRollout.mono a0_0 l0_1 a0_2 a0_3 k, rfl⟩
theorem laws_toRollout.fv_eq (a0_0 : Int) (l0_1 : List Int) (a0_2 : Int) (a0_3 : Bool) : laws_toRollout.fv a0_0 l0_1 a0_2 a0_3 = (laws_toIntS.fv l0_1).bind fun t189 => (some (a0_0, t189, a0_2, a0_3)) := by
  refine Is.lim (g := fun k => laws_toRollout.f k a0_0 l0_1 a0_2 a0_3) ?_
  · unfold laws_toRollout.f
    repeat' first
    | with_reducible exact laws_toIntS.f_is _
    | with_reducible exact Is.now _
    | with_reducible refine Is.ite ?_ ?_
    | with_reducible refine Is.bind ?_ (fun _ => ?_)
noncomputable def laws_toDeal.fv (a0_0 : Bool) (a0_1 : Int) (l0_2 : List Int) : Option (Bool × Int × List Int) := Lim fun k => laws_toDeal.f k a0_0 a0_1 l0_2
theorem laws_toDeal.f_is (a0_0 : Bool) (a0_1 : Int) (l0_2 : List Int) : Is (fun k => laws_toDeal.f k a0_0 a0_1 l0_2) (laws_toDeal.fv a0_0 a0_1 l0_2) := ⟨fun k => laws_toDeal.mono a0_0 a0_1 l0_2 k, rfl⟩
theorem laws_toDeal.fv_eq (a0_0 : Bool) (a0_1 : Int) (l0_2 : List Int) : laws_toDeal.fv a0_0 a0_1 l0_2 = (laws_toIntS.fv l0_2).bind fun t195 => (some (a0_0, a0_1, t195)) := by
  refine Is.lim (g := fun k => laws_toDeal.f k a0_0 a0_1 l0_2) ?_
  · unfold laws_toDeal.f
    repeat' first
    | with_reducible exact laws_toIntS.f_is _
    | with_reducible exact Is.now _
    | with_reducible refine Is.ite ?_ ?_
    | with_reducible refine Is.bind ?_ (fun _ => ?_)
noncomputable def laws_toDialed.fv (a0_0 : Bool) (a0_1 : Int) (l0_2 : List Int) (a0_3 : Int) (l0_4 : List Int) : Option (Bool × Int × List Int × Int × List Int) := Lim fun k => laws_toDialed.f k a0_0 a0_1 l0_2 a0_3 l0_4
theorem laws_toDialed.f_is (a0_0 : Bool) (a0_1 : Int) (l0_2 : List Int) (a0_3 : Int) (l0_4 : List Int) : Is (fun k => laws_toDialed.f k a0_0 a0_1 l0_2 a0_3 l0_4) (laws_toDialed.fv a0_0 a0_1 l0_2 a0_3 l0_4) := ⟨fun k => laws_toDialed.mono a0_0 a0_1 l0_2 a0_3 l0_4 k, rfl⟩
theorem laws_toDialed.fv_eq (a0_0 : Bool) (a0_1 : Int) (l0_2 : List Int) (a0_3 : Int) (l0_4 : List Int) : laws_toDialed.fv a0_0 a0_1 l0_2 a0_3 l0_4 = (laws_toDeal.fv a0_0 a0_1 l0_2).bind fun bt201 => ((laws_toIntS.fv l0_4).bind fun t206 => (some (bt201.1, bt201.2.1, bt201.2.2, a0_3, t206))) := by
  refine Is.lim (g := fun k => laws_toDialed.f k a0_0 a0_1 l0_2 a0_3 l0_4) ?_
  · unfold laws_toDialed.f
    repeat' first
    | with_reducible exact laws_toDeal.f_is _ _ _
    | with_reducible exact laws_toIntS.f_is _
    | with_reducible exact Is.now _
    | with_reducible refine Is.ite ?_ ?_
    | with_reducible refine Is.bind ?_ (fun _ => ?_)
noncomputable def laws_toDialedS.l0v (x0 : List (S89)) (x3 : List (S55)) (x4 : Int) : Option ((List (S55))) := Lim fun k => laws_toDialedS.l0 k x0 x3 x4
noncomputable def laws_toDialedS.fv (l0 : List (S89)) : Option ((List (S55))) := Lim fun k => laws_toDialedS.f k l0
theorem laws_toDialedS.l0_is (x0 : List (S89)) (x3 : List (S55)) (x4 : Int) : Is (fun k => laws_toDialedS.l0 k x0 x3 x4) (laws_toDialedS.l0v x0 x3 x4) := ⟨fun k => (laws_toDialedS.mono_l k) x0 x3 x4, rfl⟩
theorem laws_toDialedS.f_is (l0 : List (S89)) : Is (fun k => laws_toDialedS.f k l0) (laws_toDialedS.fv l0) := ⟨fun k => laws_toDialedS.mono l0 k, rfl⟩
theorem laws_toDialedS.l0v_eq (x0 : List (S89)) (x3 : List (S55)) (x4 : Int) : laws_toDialedS.l0v x0 x3 x4 = if x4 < (x0.length : Int) then (if 0 ≤ x4 then ((laws_toDialed.fv ((rd_T89 x0 x4).f0.f0) ((rd_T89 x0 x4).f0.f1) ((rd_T89 x0 x4).f0.f2) ((rd_T89 x0 x4).f1) ((rd_T89 x0 x4).f2)).bind fun bt213 => (if x4 < (x3.length : Int) then (laws_toDialedS.l0v x0 (x3.set (x4 : Int).toNat (⟨(⟨bt213.1, bt213.2.1, bt213.2.2.1⟩ : S53), bt213.2.2.2.1, bt213.2.2.2.2⟩ : S55)) (wrap64 (x4 + 1))) else (none))) else (none)) else (some x3) := by
  refine Is.step (laws_toDialedS.l0_is x0 x3 x4).mo (fun k => by rw [laws_toDialedS.l0]) ?_
  · skip
    repeat' first
    | with_reducible exact laws_toDialed.f_is _ _ _ _ _
    | with_reducible exact laws_toDialedS.l0_is _ _ _
    | with_reducible exact Is.now _
    | with_reducible refine Is.ite ?_ ?_
    | with_reducible refine Is.bind ?_ (fun _ => ?_)
theorem laws_toDialedS.fv_eq (l0 : List (S89)) : laws_toDialedS.fv l0 = if 0 ≤ (l0.length : Int) then (if ((l0.length : Int) : Int).toNat ≤ 3909374676536 then (laws_toDialedS.l0v l0 (List.replicate ((l0.length : Int) : Int).toNat z55) 0) else (none)) else (none) := by
  refine Is.lim (g := fun k => laws_toDialedS.f k l0) ?_
  · unfold laws_toDialedS.f
    repeat' first
    | with_reducible exact laws_toDialedS.l0_is _ _ _
    | with_reducible exact Is.now _
    | with_reducible refine Is.ite ?_ ?_
    | with_reducible refine Is.bind ?_ (fun _ => ?_)
noncomputable def laws_toLogged.fv (a0_0 : Int) (a0_1 : Int) (a0_2 : Bool) (a0_3 : Bool) (a0_4 : Int) (l0_5 : List Int) (a0_6 : Int) (l0_7 : List Int) : Option (Int × Int × Bool × Bool × Int × List Int × Int × List Int) := Lim fun k => laws_toLogged.f k a0_0 a0_1 a0_2 a0_3 a0_4 l0_5 a0_6 l0_7
theorem laws_toLogged.f_is (a0_0 : Int) (a0_1 : Int) (a0_2 : Bool) (a0_3 : Bool) (a0_4 : Int) (l0_5 : List Int) (a0_6 : Int) (l0_7 : List Int) : Is (fun k => laws_toLogged.f k a0_0 a0_1 a0_2 a0_3 a0_4 l0_5 a0_6 l0_7) (laws_toLogged.fv a0_0 a0_1 a0_2 a0_3 a0_4 l0_5 a0_6 l0_7) := ⟨fun k => laws_toLogged.mono a0_0 a0_1 a0_2 a0_3 a0_4 l0_5 a0_6 l0_7 k, rfl⟩
theorem laws_toLogged.fv_eq (a0_0 : Int) (a0_1 : Int) (a0_2 : Bool) (a0_3 : Bool) (a0_4 : Int) (l0_5 : List Int) (a0_6 : Int) (l0_7 : List Int) : laws_toLogged.fv a0_0 a0_1 a0_2 a0_3 a0_4 l0_5 a0_6 l0_7 = (laws_toDialed.fv a0_3 a0_4 l0_5 a0_6 l0_7).bind fun bt226 => (some (a0_0, a0_1, a0_2, bt226.1, bt226.2.1, bt226.2.2.1, bt226.2.2.2.1, bt226.2.2.2.2)) := by
  refine Is.lim (g := fun k => laws_toLogged.f k a0_0 a0_1 a0_2 a0_3 a0_4 l0_5 a0_6 l0_7) ?_
  · unfold laws_toLogged.f
    repeat' first
    | with_reducible exact laws_toDialed.f_is _ _ _ _ _
    | with_reducible exact Is.now _
    | with_reducible refine Is.ite ?_ ?_
    | with_reducible refine Is.bind ?_ (fun _ => ?_)
noncomputable def laws_toLoggedS.l0v (x0 : List (S92)) (x3 : List (S57)) (x4 : Int) : Option ((List (S57))) := Lim fun k => laws_toLoggedS.l0 k x0 x3 x4
noncomputable def laws_toLoggedS.fv (l0 : List (S92)) : Option ((List (S57))) := Lim fun k => laws_toLoggedS.f k l0
theorem laws_toLoggedS.l0_is (x0 : List (S92)) (x3 : List (S57)) (x4 : Int) : Is (fun k => laws_toLoggedS.l0 k x0 x3 x4) (laws_toLoggedS.l0v x0 x3 x4) := ⟨fun k => (laws_toLoggedS.mono_l k) x0 x3 x4, rfl⟩
theorem laws_toLoggedS.f_is (l0 : List (S92)) : Is (fun k => laws_toLoggedS.f k l0) (laws_toLoggedS.fv l0) := ⟨fun k => laws_toLoggedS.mono l0 k, rfl⟩
theorem laws_toLoggedS.l0v_eq (x0 : List (S92)) (x3 : List (S57)) (x4 : Int) : laws_toLoggedS.l0v x0 x3 x4 = if x4 < (x0.length : Int) then (if 0 ≤ x4 then ((laws_toLogged.fv ((rd_T92 x0 x4).f0) ((rd_T92 x0 x4).f1) ((rd_T92 x0 x4).f2) ((rd_T92 x0 x4).f3.f0.f0) ((rd_T92 x0 x4).f3.f0.f1) ((rd_T92 x0 x4).f3.f0.f2) ((rd_T92 x0 x4).f3.f1) ((rd_T92 x0 x4).f3.f2)).bind fun bt239 => (if x4 < (x3.length : Int) then (laws_toLoggedS.l0v x0 (x3.set (x4 : Int).toNat (⟨bt239.1, bt239.2.1, bt239.2.2.1, (⟨(⟨bt239.2.2.2.1, bt239.2.2.2.2.1, bt239.2.2.2.2.2.1⟩ : S53), bt239.2.2.2.2.2.2.1, bt239.2.2.2.2.2.2.2⟩ : S55)⟩ : S57)) (wrap64 (x4 + 1))) else (none))) else (none)) else (some x3) := by
  refine Is.step (laws_toLoggedS.l0_is x0 x3 x4).mo (fun k => by rw [laws_toLoggedS.l0]) ?_
  · skip
    repeat' first
    | with_reducible exact laws_toLogged.f_is _ _ _ _ _ _ _ _
    | with_reducible exact laws_toLoggedS.l0_is _ _ _
    | with_reducible exact Is.now _
    | with_reducible refine Is.ite ?_ ?_
    | with_reducible refine Is.bind ?_ (fun _ => ?_)
theorem laws_toLoggedS.fv_eq (l0 : List (S92)) : laws_toLoggedS.fv l0 = if 0 ≤ (l0.length : Int) then (if ((l0.length : Int) : Int).toNat ≤ 2932031007402 then (laws_toLoggedS.l0v l0 (List.replicate ((l0.length : Int) : Int).toNat z57) 0) else (none)) else (none) := by
  refine Is.lim (g := fun k => laws_toLoggedS.f k l0) ?_
  · unfold laws_toLoggedS.f
    repeat' first
    | with_reducible exact laws_toLoggedS.l0_is _ _ _
    | with_reducible exact Is.now _
    | with_reducible refine Is.ite ?_ ?_
    | with_reducible refine Is.bind ?_ (fun _ => ?_)
noncomputable def laws_toWorld.fv (l0_0 : List Int) (l0_1 : List Int) (a0_2 : Int) (l0_3 : List (S85)) (a0_4 : Int) (l0_5 : List Int) (a0_6 : Int) (a0_7 : Bool) (a0_8 : Int) (a0_9 : Int) (l0_10 : List (S89)) (l0_11 : List (S92)) (a0_12 : Int) (a0_13 : Int) (a0_14 : Int) : Option (List Int × List Int × Int × (List (S50)) × Int × List Int × Int × Bool × Int × Int × (List (S55)) × (List (S57)) × Int × Int × Int) := Lim fun k => laws_toWorld.f k l0_0 l0_1 a0_2 l0_3 a0_4 l0_5 a0_6 a0_7 a0_8 a0_9 l0_10 l0_11 a0_12 a0_13 a0_14
theorem laws_toWorld.f_is (l0_0 : List Int) (l0_1 : List Int) (a0_2 : Int) (l0_3 : List (S85)) (a0_4 : Int) (l0_5 : List Int) (a0_6 : Int) (a0_7 : Bool) (a0_8 : Int) (a0_9 : Int) (l0_10 : List (S89)) (l0_11 : List (S92)) (a0_12 : Int) (a0_13 : Int) (a0_14 : Int) : Is (fun k => laws_toWorld.f k l0_0 l0_1 a0_2 l0_3 a0_4 l0_5 a0_6 a0_7 a0_8 a0_9 l0_10 l0_11 a0_12 a0_13 a0_14) (laws_toWorld.fv l0_0 l0_1 a0_2 l0_3 a0_4 l0_5 a0_6 a0_7 a0_8 a0_9 l0_10 l0_11 a0_12 a0_13 a0_14) := ⟨fun k => laws_toWorld.mono l0_0 l0_1 a0_2 l0_3 a0_4 l0_5 a0_6 a0_7 a0_8 a0_9 l0_10 l0_11 a0_12 a0_13 a0_14 k, rfl⟩
theorem laws_toWorld.fv_eq (l0_0 : List Int) (l0_1 : List Int) (a0_2 : Int) (l0_3 : List (S85)) (a0_4 : Int) (l0_5 : List Int) (a0_6 : Int) (a0_7 : Bool) (a0_8 : Int) (a0_9 : Int) (l0_10 : List (S89)) (l0_11 : List (S92)) (a0_12 : Int) (a0_13 : Int) (a0_14 : Int) : laws_toWorld.fv l0_0 l0_1 a0_2 l0_3 a0_4 l0_5 a0_6 a0_7 a0_8 a0_9 l0_10 l0_11 a0_12 a0_13 a0_14 = (laws_toIntS.fv l0_0).bind fun t255 => ((laws_toIntS.fv l0_1).bind fun t258 => ((laws_toEndpointS.fv l0_3).bind fun t261 => ((laws_toRollout.fv a0_4 l0_5 a0_6 a0_7).bind fun bt264 => ((laws_toDialedS.fv l0_10).bind fun t270 => ((laws_toLoggedS.fv l0_11).bind fun t273 => (some (t255, t258, a0_2, t261, bt264.1, bt264.2.1, bt264.2.2.1, bt264.2.2.2, a0_8, a0_9, t270, t273, a0_12, a0_13, a0_14))))))) := by
  refine Is.lim (g := fun k => laws_toWorld.f k l0_0 l0_1 a0_2 l0_3 a0_4 l0_5 a0_6 a0_7 a0_8 a0_9 l0_10 l0_11 a0_12 a0_13 a0_14) ?_
  · unfold laws_toWorld.f
    repeat' first
    | with_reducible exact laws_toDialedS.f_is _
    | with_reducible exact laws_toEndpointS.f_is _
    | with_reducible exact laws_toIntS.f_is _
    | with_reducible exact laws_toLoggedS.f_is _
    | with_reducible exact laws_toRollout.f_is _ _ _ _
    | with_reducible exact Is.now _
    | with_reducible refine Is.ite ?_ ?_
    | with_reducible refine Is.bind ?_ (fun _ => ?_)
noncomputable def laws_eqIntS.l0v (x0 : List Int) (x1 : List Int) (x5 : Int) : Option (Bool) := Lim fun k => laws_eqIntS.l0 k x0 x1 x5
noncomputable def laws_eqIntS.fv (l0 : List Int) (l1 : List Int) : Option (Bool) := Lim fun k => laws_eqIntS.f k l0 l1
theorem laws_eqIntS.l0_is (x0 : List Int) (x1 : List Int) (x5 : Int) : Is (fun k => laws_eqIntS.l0 k x0 x1 x5) (laws_eqIntS.l0v x0 x1 x5) := ⟨fun k => (laws_eqIntS.mono_l k) x0 x1 x5, rfl⟩
theorem laws_eqIntS.f_is (l0 : List Int) (l1 : List Int) : Is (fun k => laws_eqIntS.f k l0 l1) (laws_eqIntS.fv l0 l1) := ⟨fun k => laws_eqIntS.mono l0 l1 k, rfl⟩
theorem laws_eqIntS.l0v_eq (x0 : List Int) (x1 : List Int) (x5 : Int) : laws_eqIntS.l0v x0 x1 x5 = if x5 < (x0.length : Int) then (if 0 ≤ x5 then (if x5 < (x1.length : Int) then (if (rd x0 x5) = (rd x1 x5) then (laws_eqIntS.l0v x0 x1 (wrap64 (x5 + 1))) else (some false)) else (none)) else (none)) else (some true) := by
  refine Is.step (laws_eqIntS.l0_is x0 x1 x5).mo (fun k => by rw [laws_eqIntS.l0]) ?_
  · skip
    repeat' first
    | with_reducible exact laws_eqIntS.l0_is _ _ _
    | with_reducible exact Is.now _
    | with_reducible refine Is.ite ?_ ?_
    | with_reducible refine Is.bind ?_ (fun _ => ?_)
theorem laws_eqIntS.fv_eq (l0 : List Int) (l1 : List Int) : laws_eqIntS.fv l0 l1 = if (l0.length : Int) = (l1.length : Int) then (laws_eqIntS.l0v l0 l1 0) else (some false) := by
  refine Is.lim (g := fun k => laws_eqIntS.f k l0 l1) ?_
  · unfold laws_eqIntS.f
    repeat' first
    | with_reducible exact laws_eqIntS.l0_is _ _ _
    | with_reducible exact Is.now _
    | with_reducible refine Is.ite ?_ ?_
    | with_reducible refine Is.bind ?_ (fun _ => ?_)
noncomputable def laws_eqBox.fv (a0_0 : Int) (l0_1 : List Int) (l0_2 : List Int) (a0_3 : Bool) (a1_0 : Int) (l1_1 : List Int) (l1_2 : List Int) (a1_3 : Bool) : Option (Bool) := Lim fun k => laws_eqBox.f k a0_0 l0_1 l0_2 a0_3 a1_0 l1_1 l1_2 a1_3
theorem laws_eqBox.f_is (a0_0 : Int) (l0_1 : List Int) (l0_2 : List Int) (a0_3 : Bool) (a1_0 : Int) (l1_1 : List Int) (l1_2 : List Int) (a1_3 : Bool) : Is (fun k => laws_eqBox.f k a0_0 l0_1 l0_2 a0_3 a1_0 l1_1 l1_2 a1_3) (laws_eqBox.fv a0_0 l0_1 l0_2 a0_3 a1_0 l1_1 l1_2 a1_3) := ⟨fun k => laws_eqBox.mono a0_0 l0_1 l0_2 a0_3 a1_0 l1_1 l1_2 a1_3 k, rfl⟩
theorem laws_eqBox.fv_eq (a0_0 : Int) (l0_1 : List Int) (l0_2 : List Int) (a0_3 : Bool) (a1_0 : Int) (l1_1 : List Int) (l1_2 : List Int) (a1_3 : Bool) : laws_eqBox.fv a0_0 l0_1 l0_2 a0_3 a1_0 l1_1 l1_2 a1_3 = if a0_0 = a1_0 then ((laws_eqIntS.fv l0_1 l1_1).bind fun t280 => (if t280 = true then ((laws_eqIntS.fv l0_2 l1_2).bind fun t281 => (if t281 = true then (if a0_3 = true then (if a1_3 = true then (some true) else (some false)) else (if a1_3 = true then (some false) else (some true))) else (some false))) else (some false))) else (some false) := by
  refine Is.lim (g := fun k => laws_eqBox.f k a0_0 l0_1 l0_2 a0_3 a1_0 l1_1 l1_2 a1_3) ?_
  · unfold laws_eqBox.f
    repeat' first
    | with_reducible exact laws_eqIntS.f_is _ _
    | with_reducible exact Is.now _
    | with_reducible refine Is.ite ?_ ?_
    | with_reducible refine Is.bind ?_ (fun _ => ?_)
end Go.Proofs.Ytchnkakjjbfklaa.Print

/- Written by a program of this session (limx.py): the equations of what the printed functions come to. No condition. -/
namespace Go.Proofs.Ytchnkakjjbfklaa.Print
open Go.RowKit Go.Proofs.YtchnkakjjbfklaaW.PrintWords Go.Proofs.YtchnkakjjbfklaaW.PrintLast Go.Proofs.Ytchnkakjjbfklaa.Base
set_option linter.unusedVariables false
set_option maxRecDepth 20000
noncomputable def laws_eqBoxS.l0v (x0 : List (S95)) (x1 : List (S95)) (x5 : Int) : Option (Bool) := Lim fun k => laws_eqBoxS.l0 k x0 x1 x5
noncomputable def laws_eqBoxS.fv (l0 : List (S95)) (l1 : List (S95)) : Option (Bool) := Lim fun k => laws_eqBoxS.f k l0 l1
theorem laws_eqBoxS.l0_is (x0 : List (S95)) (x1 : List (S95)) (x5 : Int) : Is (fun k => laws_eqBoxS.l0 k x0 x1 x5) (laws_eqBoxS.l0v x0 x1 x5) := ⟨fun k => (laws_eqBoxS.mono_l k) x0 x1 x5, rfl⟩
theorem laws_eqBoxS.f_is (l0 : List (S95)) (l1 : List (S95)) : Is (fun k => laws_eqBoxS.f k l0 l1) (laws_eqBoxS.fv l0 l1) := ⟨fun k => laws_eqBoxS.mono l0 l1 k, rfl⟩
theorem laws_eqBoxS.l0v_eq (x0 : List (S95)) (x1 : List (S95)) (x5 : Int) : laws_eqBoxS.l0v x0 x1 x5 = if x5 < (x0.length : Int) then (if 0 ≤ x5 then (if x5 < (x1.length : Int) then ((laws_eqBox.fv ((rd_T95 x0 x5).f0) ((rd_T95 x0 x5).f1) ((rd_T95 x0 x5).f2) ((rd_T95 x0 x5).f3) ((rd_T95 x1 x5).f0) ((rd_T95 x1 x5).f1) ((rd_T95 x1 x5).f2) ((rd_T95 x1 x5).f3)).bind fun t284 => (if t284 = true then (laws_eqBoxS.l0v x0 x1 (wrap64 (x5 + 1))) else (some false))) else (none)) else (none)) else (some true) := by
  refine Is.step (laws_eqBoxS.l0_is x0 x1 x5).mo (fun k => by rw [laws_eqBoxS.l0]) ?_
  · skip
    repeat' first
    | with_reducible exact laws_eqBox.f_is _ _ _ _ _ _ _ _
    | with_reducible exact laws_eqBoxS.l0_is _ _ _
    | with_reducible exact Is.now _
    | with_reducible refine Is.ite ?_ ?_
    | with_reducible refine Is.bind ?_ (fun _ => ?_)
theorem laws_eqBoxS.fv_eq (l0 : List (S95)) (l1 : List (S95)) : laws_eqBoxS.fv l0 l1 = if (l0.length : Int) = (l1.length : Int) then (laws_eqBoxS.l0v l0 l1 0) else (some false) := by
  refine Is.lim (g := fun k => laws_eqBoxS.f k l0 l1) ?_
  · unfold laws_eqBoxS.f
    repeat' first
    | with_reducible exact laws_eqBoxS.l0_is _ _ _
    | with_reducible exact Is.now _
    | with_reducible refine Is.ite ?_ ?_
    | with_reducible refine Is.bind ?_ (fun _ => ?_)
noncomputable def laws_eqEndpoint.fv (l0_0 : List Int) (l0_1 : List Int) (l0_2 : List (S95)) (a0_3 : Int) (l1_0 : List Int) (l1_1 : List Int) (l1_2 : List (S95)) (a1_3 : Int) : Option (Bool) := Lim fun k => laws_eqEndpoint.f k l0_0 l0_1 l0_2 a0_3 l1_0 l1_1 l1_2 a1_3
theorem laws_eqEndpoint.f_is (l0_0 : List Int) (l0_1 : List Int) (l0_2 : List (S95)) (a0_3 : Int) (l1_0 : List Int) (l1_1 : List Int) (l1_2 : List (S95)) (a1_3 : Int) : Is (fun k => laws_eqEndpoint.f k l0_0 l0_1 l0_2 a0_3 l1_0 l1_1 l1_2 a1_3) (laws_eqEndpoint.fv l0_0 l0_1 l0_2 a0_3 l1_0 l1_1 l1_2 a1_3) := ⟨fun k => laws_eqEndpoint.mono l0_0 l0_1 l0_2 a0_3 l1_0 l1_1 l1_2 a1_3 k, rfl⟩
theorem laws_eqEndpoint.fv_eq (l0_0 : List Int) (l0_1 : List Int) (l0_2 : List (S95)) (a0_3 : Int) (l1_0 : List Int) (l1_1 : List Int) (l1_2 : List (S95)) (a1_3 : Int) : laws_eqEndpoint.fv l0_0 l0_1 l0_2 a0_3 l1_0 l1_1 l1_2 a1_3 = (laws_eqIntS.fv l0_0 l1_0).bind fun t287 => (if t287 = true then ((laws_eqIntS.fv l0_1 l1_1).bind fun t288 => (if t288 = true then ((laws_eqBoxS.fv l0_2 l1_2).bind fun t289 => (if t289 = true then (if a0_3 = a1_3 then (some true) else (some false)) else (some false))) else (some false))) else (some false)) := by
  refine Is.lim (g := fun k => laws_eqEndpoint.f k l0_0 l0_1 l0_2 a0_3 l1_0 l1_1 l1_2 a1_3) ?_
  · unfold laws_eqEndpoint.f
    repeat' first
    | with_reducible exact laws_eqBoxS.f_is _ _
    | with_reducible exact laws_eqIntS.f_is _ _
    | with_reducible exact Is.now _
    | with_reducible refine Is.ite ?_ ?_
    | with_reducible refine Is.bind ?_ (fun _ => ?_)
noncomputable def laws_eqEndpointS.l0v (x0 : List (S50)) (x1 : List (S50)) (x5 : Int) : Option (Bool) := Lim fun k => laws_eqEndpointS.l0 k x0 x1 x5
noncomputable def laws_eqEndpointS.fv (l0 : List (S50)) (l1 : List (S50)) : Option (Bool) := Lim fun k => laws_eqEndpointS.f k l0 l1
theorem laws_eqEndpointS.l0_is (x0 : List (S50)) (x1 : List (S50)) (x5 : Int) : Is (fun k => laws_eqEndpointS.l0 k x0 x1 x5) (laws_eqEndpointS.l0v x0 x1 x5) := ⟨fun k => (laws_eqEndpointS.mono_l k) x0 x1 x5, rfl⟩
theorem laws_eqEndpointS.f_is (l0 : List (S50)) (l1 : List (S50)) : Is (fun k => laws_eqEndpointS.f k l0 l1) (laws_eqEndpointS.fv l0 l1) := ⟨fun k => laws_eqEndpointS.mono l0 l1 k, rfl⟩
theorem laws_eqEndpointS.l0v_eq (x0 : List (S50)) (x1 : List (S50)) (x5 : Int) : laws_eqEndpointS.l0v x0 x1 x5 = if x5 < (x0.length : Int) then (if 0 ≤ x5 then (if x5 < (x1.length : Int) then ((laws_eqEndpoint.fv ((rd_T50 x0 x5).f0) ((rd_T50 x0 x5).f1) ((rd_T50 x0 x5).f2) ((rd_T50 x0 x5).f3) ((rd_T50 x1 x5).f0) ((rd_T50 x1 x5).f1) ((rd_T50 x1 x5).f2) ((rd_T50 x1 x5).f3)).bind fun t292 => (if t292 = true then (laws_eqEndpointS.l0v x0 x1 (wrap64 (x5 + 1))) else (some false))) else (none)) else (none)) else (some true) := by
  refine Is.step (laws_eqEndpointS.l0_is x0 x1 x5).mo (fun k => by rw [laws_eqEndpointS.l0]) ?_
  · skip
    repeat' first
    | with_reducible exact laws_eqEndpoint.f_is _ _ _ _ _ _ _ _
    | with_reducible exact laws_eqEndpointS.l0_is _ _ _
    | with_reducible exact Is.now _
    | with_reducible refine Is.ite ?_ ?_
    | with_reducible refine Is.bind ?_ (fun _ => ?_)
theorem laws_eqEndpointS.fv_eq (l0 : List (S50)) (l1 : List (S50)) : laws_eqEndpointS.fv l0 l1 = if (l0.length : Int) = (l1.length : Int) then (laws_eqEndpointS.l0v l0 l1 0) else (some false) := by
  refine Is.lim (g := fun k => laws_eqEndpointS.f k l0 l1) ?_
  · unfold laws_eqEndpointS.f
    repeat' first
    | with_reducible exact laws_eqEndpointS.l0_is _ _ _
    | with_reducible exact Is.now _
    | with_reducible refine Is.ite ?_ ?_
    | with_reducible refine Is.bind ?_ (fun _ => ?_)
noncomputable def laws_eqRollout.fv (a0_0 : Int) (l0_1 : List Int) (a0_2 : Int) (a0_3 : Bool) (a1_0 : Int) (l1_1 : List Int) (a1_2 : Int) (a1_3 : Bool) : Option (Bool) := Lim fun k => laws_eqRollout.f k a0_0 l0_1 a0_2 a0_3 a1_0 l1_1 a1_2 a1_3
theorem laws_eqRollout.f_is (a0_0 : Int) (l0_1 : List Int) (a0_2 : Int) (a0_3 : Bool) (a1_0 : Int) (l1_1 : List Int) (a1_2 : Int) (a1_3 : Bool) : Is (fun k => laws_eqRollout.f k a0_0 l0_1 a0_2 a0_3 a1_0 l1_1 a1_2 a1_3) (laws_eqRollout.fv a0_0 l0_1 a0_2 a0_3 a1_0 l1_1 a1_2 a1_3) := ⟨fun k => laws_eqRollout.mono a0_0 l0_1 a0_2 a0_3 a1_0 l1_1 a1_2 a1_3 k, rfl⟩
theorem laws_eqRollout.fv_eq (a0_0 : Int) (l0_1 : List Int) (a0_2 : Int) (a0_3 : Bool) (a1_0 : Int) (l1_1 : List Int) (a1_2 : Int) (a1_3 : Bool) : laws_eqRollout.fv a0_0 l0_1 a0_2 a0_3 a1_0 l1_1 a1_2 a1_3 = if a0_0 = a1_0 then ((laws_eqIntS.fv l0_1 l1_1).bind fun t295 => (if t295 = true then (if a0_2 = a1_2 then (if a0_3 = true then (if a1_3 = true then (some true) else (some false)) else (if a1_3 = true then (some false) else (some true))) else (some false)) else (some false))) else (some false) := by
  refine Is.lim (g := fun k => laws_eqRollout.f k a0_0 l0_1 a0_2 a0_3 a1_0 l1_1 a1_2 a1_3) ?_
  · unfold laws_eqRollout.f
    repeat' first
    | with_reducible exact laws_eqIntS.f_is _ _
    | with_reducible exact Is.now _
    | with_reducible refine Is.ite ?_ ?_
    | with_reducible refine Is.bind ?_ (fun _ => ?_)
end Go.Proofs.Ytchnkakjjbfklaa.Print

/- Written by a program of this session (limx.py): the equations of what the printed functions come to. No condition. -/
namespace Go.Proofs.Ytchnkakjjbfklaa.Print
open Go.RowKit Go.Proofs.YtchnkakjjbfklaaW.PrintWords Go.Proofs.YtchnkakjjbfklaaW.PrintLast Go.Proofs.Ytchnkakjjbfklaa.Base
set_option linter.unusedVariables false
set_option maxRecDepth 20000
noncomputable def laws_eqDeal.fv (a0_0 : Bool) (a0_1 : Int) (l0_2 : List Int) (a1_0 : Bool) (a1_1 : Int) (l1_2 : List Int) : Option (Bool) := Lim fun k => laws_eqDeal.f k a0_0 a0_1 l0_2 a1_0 a1_1 l1_2
theorem laws_eqDeal.f_is (a0_0 : Bool) (a0_1 : Int) (l0_2 : List Int) (a1_0 : Bool) (a1_1 : Int) (l1_2 : List Int) : Is (fun k => laws_eqDeal.f k a0_0 a0_1 l0_2 a1_0 a1_1 l1_2) (laws_eqDeal.fv a0_0 a0_1 l0_2 a1_0 a1_1 l1_2) := ⟨fun k => laws_eqDeal.mono a0_0 a0_1 l0_2 a1_0 a1_1 l1_2 k, rfl⟩
theorem laws_eqDeal.fv_eq (a0_0 : Bool) (a0_1 : Int) (l0_2 : List Int) (a1_0 : Bool) (a1_1 : Int) (l1_2 : List Int) : laws_eqDeal.fv a0_0 a0_1 l0_2 a1_0 a1_1 l1_2 = if a0_0 = true then (if a1_0 = true then (if a0_1 = a1_1 then ((laws_eqIntS.fv l0_2 l1_2).bind fun t298 => (if t298 = true then (some true) else (some false))) else (some false)) else (some false)) else (if a1_0 = true then (some false) else (if a0_1 = a1_1 then ((laws_eqIntS.fv l0_2 l1_2).bind fun t299 => (if t299 = true then (some true) else (some false))) else (some false))) := by
  refine Is.lim (g := fun k => laws_eqDeal.f k a0_0 a0_1 l0_2 a1_0 a1_1 l1_2) ?_
  · unfold laws_eqDeal.f
    repeat' first
    | with_reducible exact laws_eqIntS.f_is _ _
    | with_reducible exact Is.now _
    | with_reducible refine Is.ite ?_ ?_
    | with_reducible refine Is.bind ?_ (fun _ => ?_)
noncomputable def laws_eqDialed.fv (a0_0 : Bool) (a0_1 : Int) (l0_2 : List Int) (a0_3 : Int) (l0_4 : List Int) (a1_0 : Bool) (a1_1 : Int) (l1_2 : List Int) (a1_3 : Int) (l1_4 : List Int) : Option (Bool) := Lim fun k => laws_eqDialed.f k a0_0 a0_1 l0_2 a0_3 l0_4 a1_0 a1_1 l1_2 a1_3 l1_4
theorem laws_eqDialed.f_is (a0_0 : Bool) (a0_1 : Int) (l0_2 : List Int) (a0_3 : Int) (l0_4 : List Int) (a1_0 : Bool) (a1_1 : Int) (l1_2 : List Int) (a1_3 : Int) (l1_4 : List Int) : Is (fun k => laws_eqDialed.f k a0_0 a0_1 l0_2 a0_3 l0_4 a1_0 a1_1 l1_2 a1_3 l1_4) (laws_eqDialed.fv a0_0 a0_1 l0_2 a0_3 l0_4 a1_0 a1_1 l1_2 a1_3 l1_4) := ⟨fun k => laws_eqDialed.mono a0_0 a0_1 l0_2 a0_3 l0_4 a1_0 a1_1 l1_2 a1_3 l1_4 k, rfl⟩
theorem laws_eqDialed.fv_eq (a0_0 : Bool) (a0_1 : Int) (l0_2 : List Int) (a0_3 : Int) (l0_4 : List Int) (a1_0 : Bool) (a1_1 : Int) (l1_2 : List Int) (a1_3 : Int) (l1_4 : List Int) : laws_eqDialed.fv a0_0 a0_1 l0_2 a0_3 l0_4 a1_0 a1_1 l1_2 a1_3 l1_4 = (laws_eqDeal.fv a0_0 a0_1 l0_2 a1_0 a1_1 l1_2).bind fun t302 => (if t302 = true then (if a0_3 = a1_3 then ((laws_eqIntS.fv l0_4 l1_4).bind fun t303 => (if t303 = true then (some true) else (some false))) else (some false)) else (some false)) := by
  refine Is.lim (g := fun k => laws_eqDialed.f k a0_0 a0_1 l0_2 a0_3 l0_4 a1_0 a1_1 l1_2 a1_3 l1_4) ?_
  · unfold laws_eqDialed.f
    repeat' first
    | with_reducible exact laws_eqDeal.f_is _ _ _ _ _ _
    | with_reducible exact laws_eqIntS.f_is _ _
    | with_reducible exact Is.now _
    | with_reducible refine Is.ite ?_ ?_
    | with_reducible refine Is.bind ?_ (fun _ => ?_)
noncomputable def laws_eqDialedS.l0v (x0 : List (S55)) (x1 : List (S55)) (x5 : Int) : Option (Bool) := Lim fun k => laws_eqDialedS.l0 k x0 x1 x5
noncomputable def laws_eqDialedS.fv (l0 : List (S55)) (l1 : List (S55)) : Option (Bool) := Lim fun k => laws_eqDialedS.f k l0 l1
theorem laws_eqDialedS.l0_is (x0 : List (S55)) (x1 : List (S55)) (x5 : Int) : Is (fun k => laws_eqDialedS.l0 k x0 x1 x5) (laws_eqDialedS.l0v x0 x1 x5) := ⟨fun k => (laws_eqDialedS.mono_l k) x0 x1 x5, rfl⟩
theorem laws_eqDialedS.f_is (l0 : List (S55)) (l1 : List (S55)) : Is (fun k => laws_eqDialedS.f k l0 l1) (laws_eqDialedS.fv l0 l1) := ⟨fun k => laws_eqDialedS.mono l0 l1 k, rfl⟩
theorem laws_eqDialedS.l0v_eq (x0 : List (S55)) (x1 : List (S55)) (x5 : Int) : laws_eqDialedS.l0v x0 x1 x5 = if x5 < (x0.length : Int) then (if 0 ≤ x5 then (if x5 < (x1.length : Int) then ((laws_eqDialed.fv ((rd_T55 x0 x5).f0.f0) ((rd_T55 x0 x5).f0.f1) ((rd_T55 x0 x5).f0.f2) ((rd_T55 x0 x5).f1) ((rd_T55 x0 x5).f2) ((rd_T55 x1 x5).f0.f0) ((rd_T55 x1 x5).f0.f1) ((rd_T55 x1 x5).f0.f2) ((rd_T55 x1 x5).f1) ((rd_T55 x1 x5).f2)).bind fun t306 => (if t306 = true then (laws_eqDialedS.l0v x0 x1 (wrap64 (x5 + 1))) else (some false))) else (none)) else (none)) else (some true) := by
  refine Is.step (laws_eqDialedS.l0_is x0 x1 x5).mo (fun k => by rw [laws_eqDialedS.l0]) ?_
  · skip
    repeat' first
    | with_reducible exact laws_eqDialed.f_is _ _ _ _ _ _ _ _ _ _
    | with_reducible exact laws_eqDialedS.l0_is _ _ _
    | with_reducible exact Is.now _
    | with_reducible refine Is.ite ?_ ?_
    | with_reducible refine Is.bind ?_ (fun _ => ?_)
theorem laws_eqDialedS.fv_eq (l0 : List (S55)) (l1 : List (S55)) : laws_eqDialedS.fv l0 l1 = if (l0.length : Int) = (l1.length : Int) then (laws_eqDialedS.l0v l0 l1 0) else (some false) := by
  refine Is.lim (g := fun k => laws_eqDialedS.f k l0 l1) ?_
  · unfold laws_eqDialedS.f
    repeat' first
    | with_reducible exact laws_eqDialedS.l0_is _ _ _
    | with_reducible exact Is.now _
    | with_reducible refine Is.ite ?_ ?_
    | with_reducible refine Is.bind ?_ (fun _ => ?_)
noncomputable def laws_eqLogged.fv (a0_0 : Int) (a0_1 : Int) (a0_2 : Bool) (a0_3 : Bool) (a0_4 : Int) (l0_5 : List Int) (a0_6 : Int) (l0_7 : List Int) (a1_0 : Int) (a1_1 : Int) (a1_2 : Bool) (a1_3 : Bool) (a1_4 : Int) (l1_5 : List Int) (a1_6 : Int) (l1_7 : List Int) : Option (Bool) := Lim fun k => laws_eqLogged.f k a0_0 a0_1 a0_2 a0_3 a0_4 l0_5 a0_6 l0_7 a1_0 a1_1 a1_2 a1_3 a1_4 l1_5 a1_6 l1_7
theorem laws_eqLogged.f_is (a0_0 : Int) (a0_1 : Int) (a0_2 : Bool) (a0_3 : Bool) (a0_4 : Int) (l0_5 : List Int) (a0_6 : Int) (l0_7 : List Int) (a1_0 : Int) (a1_1 : Int) (a1_2 : Bool) (a1_3 : Bool) (a1_4 : Int) (l1_5 : List Int) (a1_6 : Int) (l1_7 : List Int) : Is (fun k => laws_eqLogged.f k a0_0 a0_1 a0_2 a0_3 a0_4 l0_5 a0_6 l0_7 a1_0 a1_1 a1_2 a1_3 a1_4 l1_5 a1_6 l1_7) (laws_eqLogged.fv a0_0 a0_1 a0_2 a0_3 a0_4 l0_5 a0_6 l0_7 a1_0 a1_1 a1_2 a1_3 a1_4 l1_5 a1_6 l1_7) := ⟨fun k => laws_eqLogged.mono a0_0 a0_1 a0_2 a0_3 a0_4 l0_5 a0_6 l0_7 a1_0 a1_1 a1_2 a1_3 a1_4 l1_5 a1_6 l1_7 k, rfl⟩
theorem laws_eqLogged.fv_eq (a0_0 : Int) (a0_1 : Int) (a0_2 : Bool) (a0_3 : Bool) (a0_4 : Int) (l0_5 : List Int) (a0_6 : Int) (l0_7 : List Int) (a1_0 : Int) (a1_1 : Int) (a1_2 : Bool) (a1_3 : Bool) (a1_4 : Int) (l1_5 : List Int) (a1_6 : Int) (l1_7 : List Int) : laws_eqLogged.fv a0_0 a0_1 a0_2 a0_3 a0_4 l0_5 a0_6 l0_7 a1_0 a1_1 a1_2 a1_3 a1_4 l1_5 a1_6 l1_7 = if a0_0 = a1_0 then (if a0_1 = a1_1 then (if a0_2 = true then (if a1_2 = true then ((laws_eqDialed.fv a0_3 a0_4 l0_5 a0_6 l0_7 a1_3 a1_4 l1_5 a1_6 l1_7).bind fun t309 => (if t309 = true then (some true) else (some false))) else (some false)) else (if a1_2 = true then (some false) else ((laws_eqDialed.fv a0_3 a0_4 l0_5 a0_6 l0_7 a1_3 a1_4 l1_5 a1_6 l1_7).bind fun t310 => (if t310 = true then (some true) else (some false))))) else (some false)) else (some false) := by
  refine Is.lim (g := fun k => laws_eqLogged.f k a0_0 a0_1 a0_2 a0_3 a0_4 l0_5 a0_6 l0_7 a1_0 a1_1 a1_2 a1_3 a1_4 l1_5 a1_6 l1_7) ?_
  · unfold laws_eqLogged.f
    repeat' first
    | with_reducible exact laws_eqDialed.f_is _ _ _ _ _ _ _ _ _ _
    | with_reducible exact Is.now _
    | with_reducible refine Is.ite ?_ ?_
    | with_reducible refine Is.bind ?_ (fun _ => ?_)
end Go.Proofs.Ytchnkakjjbfklaa.Print

/- Written by a program of this session (limx.py): the equations of what the printed functions come to. No condition. -/
namespace Go.Proofs.Ytchnkakjjbfklaa.Print
open Go.RowKit Go.Proofs.YtchnkakjjbfklaaW.PrintWords Go.Proofs.YtchnkakjjbfklaaW.PrintLast Go.Proofs.Ytchnkakjjbfklaa.Base
set_option linter.unusedVariables false
set_option maxRecDepth 20000
noncomputable def laws_eqLoggedS.l0v (x0 : List (S57)) (x1 : List (S57)) (x5 : Int) : Option (Bool) := Lim fun k => laws_eqLoggedS.l0 k x0 x1 x5
noncomputable def laws_eqLoggedS.fv (l0 : List (S57)) (l1 : List (S57)) : Option (Bool) := Lim fun k => laws_eqLoggedS.f k l0 l1
theorem laws_eqLoggedS.l0_is (x0 : List (S57)) (x1 : List (S57)) (x5 : Int) : Is (fun k => laws_eqLoggedS.l0 k x0 x1 x5) (laws_eqLoggedS.l0v x0 x1 x5) := ⟨fun k => (laws_eqLoggedS.mono_l k) x0 x1 x5, rfl⟩
theorem laws_eqLoggedS.f_is (l0 : List (S57)) (l1 : List (S57)) : Is (fun k => laws_eqLoggedS.f k l0 l1) (laws_eqLoggedS.fv l0 l1) := ⟨fun k => laws_eqLoggedS.mono l0 l1 k, rfl⟩
theorem laws_eqLoggedS.l0v_eq (x0 : List (S57)) (x1 : List (S57)) (x5 : Int) : laws_eqLoggedS.l0v x0 x1 x5 = if x5 < (x0.length : Int) then (if 0 ≤ x5 then (if x5 < (x1.length : Int) then ((laws_eqLogged.fv ((rd_T57 x0 x5).f0) ((rd_T57 x0 x5).f1) ((rd_T57 x0 x5).f2) ((rd_T57 x0 x5).f3.f0.f0) ((rd_T57 x0 x5).f3.f0.f1) ((rd_T57 x0 x5).f3.f0.f2) ((rd_T57 x0 x5).f3.f1) ((rd_T57 x0 x5).f3.f2) ((rd_T57 x1 x5).f0) ((rd_T57 x1 x5).f1) ((rd_T57 x1 x5).f2) ((rd_T57 x1 x5).f3.f0.f0) ((rd_T57 x1 x5).f3.f0.f1) ((rd_T57 x1 x5).f3.f0.f2) ((rd_T57 x1 x5).f3.f1) ((rd_T57 x1 x5).f3.f2)).bind fun t313 => (if t313 = true then (laws_eqLoggedS.l0v x0 x1 (wrap64 (x5 + 1))) else (some false))) else (none)) else (none)) else (some true) := by
  refine Is.step (laws_eqLoggedS.l0_is x0 x1 x5).mo (fun k => by rw [laws_eqLoggedS.l0]) ?_
  · skip
    repeat' first
    | with_reducible exact laws_eqLogged.f_is _ _ _ _ _ _ _ _ _ _ _ _ _ _ _ _
    | with_reducible exact laws_eqLoggedS.l0_is _ _ _
    | with_reducible exact Is.now _
    | with_reducible refine Is.ite ?_ ?_
    | with_reducible refine Is.bind ?_ (fun _ => ?_)
theorem laws_eqLoggedS.fv_eq (l0 : List (S57)) (l1 : List (S57)) : laws_eqLoggedS.fv l0 l1 = if (l0.length : Int) = (l1.length : Int) then (laws_eqLoggedS.l0v l0 l1 0) else (some false) := by
  refine Is.lim (g := fun k => laws_eqLoggedS.f k l0 l1) ?_
  · unfold laws_eqLoggedS.f
    repeat' first
    | with_reducible exact laws_eqLoggedS.l0_is _ _ _
    | with_reducible exact Is.now _
    | with_reducible refine Is.ite ?_ ?_
    | with_reducible refine Is.bind ?_ (fun _ => ?_)
noncomputable def laws_eqWorld.fv (l0_0 : List Int) (l0_1 : List Int) (a0_2 : Int) (l0_3 : List (S50)) (a0_4 : Int) (l0_5 : List Int) (a0_6 : Int) (a0_7 : Bool) (a0_8 : Int) (a0_9 : Int) (l0_10 : List (S55)) (l0_11 : List (S57)) (a0_12 : Int) (a0_13 : Int) (a0_14 : Int) (l1_0 : List Int) (l1_1 : List Int) (a1_2 : Int) (l1_3 : List (S50)) (a1_4 : Int) (l1_5 : List Int) (a1_6 : Int) (a1_7 : Bool) (a1_8 : Int) (a1_9 : Int) (l1_10 : List (S55)) (l1_11 : List (S57)) (a1_12 : Int) (a1_13 : Int) (a1_14 : Int) : Option (Bool) := Lim fun k => laws_eqWorld.f k l0_0 l0_1 a0_2 l0_3 a0_4 l0_5 a0_6 a0_7 a0_8 a0_9 l0_10 l0_11 a0_12 a0_13 a0_14 l1_0 l1_1 a1_2 l1_3 a1_4 l1_5 a1_6 a1_7 a1_8 a1_9 l1_10 l1_11 a1_12 a1_13 a1_14
theorem laws_eqWorld.f_is (l0_0 : List Int) (l0_1 : List Int) (a0_2 : Int) (l0_3 : List (S50)) (a0_4 : Int) (l0_5 : List Int) (a0_6 : Int) (a0_7 : Bool) (a0_8 : Int) (a0_9 : Int) (l0_10 : List (S55)) (l0_11 : List (S57)) (a0_12 : Int) (a0_13 : Int) (a0_14 : Int) (l1_0 : List Int) (l1_1 : List Int) (a1_2 : Int) (l1_3 : List (S50)) (a1_4 : Int) (l1_5 : List Int) (a1_6 : Int) (a1_7 : Bool) (a1_8 : Int) (a1_9 : Int) (l1_10 : List (S55)) (l1_11 : List (S57)) (a1_12 : Int) (a1_13 : Int) (a1_14 : Int) : Is (fun k => laws_eqWorld.f k l0_0 l0_1 a0_2 l0_3 a0_4 l0_5 a0_6 a0_7 a0_8 a0_9 l0_10 l0_11 a0_12 a0_13 a0_14 l1_0 l1_1 a1_2 l1_3 a1_4 l1_5 a1_6 a1_7 a1_8 a1_9 l1_10 l1_11 a1_12 a1_13 a1_14) (laws_eqWorld.fv l0_0 l0_1 a0_2 l0_3 a0_4 l0_5 a0_6 a0_7 a0_8 a0_9 l0_10 l0_11 a0_12 a0_13 a0_14 l1_0 l1_1 a1_2 l1_3 a1_4 l1_5 a1_6 a1_7 a1_8 a1_9 l1_10 l1_11 a1_12 a1_13 a1_14) := ⟨fun k => laws_eqWorld.mono l0_0 l0_1 a0_2 l0_3 a0_4 l0_5 a0_6 a0_7 a0_8 a0_9 l0_10 l0_11 a0_12 a0_13 a0_14 l1_0 l1_1 a1_2 l1_3 a1_4 l1_5 a1_6 a1_7 a1_8 a1_9 l1_10 l1_11 a1_12 a1_13 a1_14 k, rfl⟩
theorem laws_eqWorld.fv_eq (l0_0 : List Int) (l0_1 : List Int) (a0_2 : Int) (l0_3 : List (S50)) (a0_4 : Int) (l0_5 : List Int) (a0_6 : Int) (a0_7 : Bool) (a0_8 : Int) (a0_9 : Int) (l0_10 : List (S55)) (l0_11 : List (S57)) (a0_12 : Int) (a0_13 : Int) (a0_14 : Int) (l1_0 : List Int) (l1_1 : List Int) (a1_2 : Int) (l1_3 : List (S50)) (a1_4 : Int) (l1_5 : List Int) (a1_6 : Int) (a1_7 : Bool) (a1_8 : Int) (a1_9 : Int) (l1_10 : List (S55)) (l1_11 : List (S57)) (a1_12 : Int) (a1_13 : Int) (a1_14 : Int) : laws_eqWorld.fv l0_0 l0_1 a0_2 l0_3 a0_4 l0_5 a0_6 a0_7 a0_8 a0_9 l0_10 l0_11 a0_12 a0_13 a0_14 l1_0 l1_1 a1_2 l1_3 a1_4 l1_5 a1_6 a1_7 a1_8 a1_9 l1_10 l1_11 a1_12 a1_13 a1_14 = (laws_eqIntS.fv l0_0 l1_0).bind fun t316 => (if t316 = true then ((laws_eqIntS.fv l0_1 l1_1).bind fun t317 => (if t317 = true then (if a0_2 = a1_2 then ((laws_eqEndpointS.fv l0_3 l1_3).bind fun t318 => (if t318 = true then ((laws_eqRollout.fv a0_4 l0_5 a0_6 a0_7 a1_4 l1_5 a1_6 a1_7).bind fun t319 => (if t319 = true then (if a0_8 = a1_8 then (if a0_9 = a1_9 then ((laws_eqDialedS.fv l0_10 l1_10).bind fun t320 => (if t320 = true then ((laws_eqLoggedS.fv l0_11 l1_11).bind fun t321 => (if t321 = true then (if a0_12 = a1_12 then (if a0_13 = a1_13 then (if a0_14 = a1_14 then (some true) else (some false)) else (some false)) else (some false)) else (some false))) else (some false))) else (some false)) else (some false)) else (some false))) else (some false))) else (some false)) else (some false))) else (some false)) := by
  refine Is.lim (g := fun k => laws_eqWorld.f k l0_0 l0_1 a0_2 l0_3 a0_4 l0_5 a0_6 a0_7 a0_8 a0_9 l0_10 l0_11 a0_12 a0_13 a0_14 l1_0 l1_1 a1_2 l1_3 a1_4 l1_5 a1_6 a1_7 a1_8 a1_9 l1_10 l1_11 a1_12 a1_13 a1_14) ?_
  · unfold laws_eqWorld.f
    repeat' first
    | with_reducible exact laws_eqDialedS.f_is _ _
    | with_reducible exact laws_eqEndpointS.f_is _ _
    | with_reducible exact laws_eqIntS.f_is _ _
    | with_reducible exact laws_eqLoggedS.f_is _ _
    | with_reducible exact laws_eqRollout.f_is _ _ _ _ _ _ _ _
    | with_reducible exact Is.now _
    | with_reducible refine Is.ite ?_ ?_
    | with_reducible refine Is.bind ?_ (fun _ => ?_)
noncomputable def spec_AreVersions.l0v (x0 : List Int) (x3 : Int) : Option (Bool) := Lim fun k => spec_AreVersions.l0 k x0 x3
noncomputable def spec_AreVersions.fv (l0 : List Int) : Option (Bool) := Lim fun k => spec_AreVersions.f k l0
theorem spec_AreVersions.l0_is (x0 : List Int) (x3 : Int) : Is (fun k => spec_AreVersions.l0 k x0 x3) (spec_AreVersions.l0v x0 x3) := ⟨fun k => (spec_AreVersions.mono_l k) x0 x3, rfl⟩
theorem spec_AreVersions.f_is (l0 : List Int) : Is (fun k => spec_AreVersions.f k l0) (spec_AreVersions.fv l0) := ⟨fun k => spec_AreVersions.mono l0 k, rfl⟩
theorem spec_AreVersions.l0v_eq (x0 : List Int) (x3 : Int) : spec_AreVersions.l0v x0 x3 = if x3 < (x0.length : Int) then (if 0 ≤ x3 then ((spec_l1In.f (rd x0 x3) 1 9).bind fun t323 => (if t323 = true then (if x3 > 0 then (if 0 ≤ (wrap64 (x3 - 1)) then (if (wrap64 (x3 - 1)) < (x0.length : Int) then (if (rd x0 (wrap64 (x3 - 1))) ≥ (rd x0 x3) then (some false) else (spec_AreVersions.l0v x0 (wrap64 (x3 + 1)))) else (none)) else (none)) else (spec_AreVersions.l0v x0 (wrap64 (x3 + 1)))) else (some false))) else (none)) else (some (decide ((x0.length : Int) > 0))) := by
  refine Is.step (spec_AreVersions.l0_is x0 x3).mo (fun k => by rw [spec_AreVersions.l0]) ?_
  · skip
    repeat' first
    | with_reducible exact spec_AreVersions.l0_is _ _
    | with_reducible exact Is.now _
    | with_reducible refine Is.ite ?_ ?_
    | with_reducible refine Is.bind ?_ (fun _ => ?_)
theorem spec_AreVersions.fv_eq (l0 : List Int) : spec_AreVersions.fv l0 = spec_AreVersions.l0v l0 0 := by
  refine Is.lim (g := fun k => spec_AreVersions.f k l0) ?_
  · unfold spec_AreVersions.f
    repeat' first
    | with_reducible exact spec_AreVersions.l0_is _ _
    | with_reducible exact Is.now _
    | with_reducible refine Is.ite ?_ ?_
    | with_reducible refine Is.bind ?_ (fun _ => ?_)
end Go.Proofs.Ytchnkakjjbfklaa.Print

/- Written by a program of this session (limx.py): the equations of what the printed functions come to. No condition. -/
namespace Go.Proofs.Ytchnkakjjbfklaa.Print
open Go.RowKit Go.Proofs.YtchnkakjjbfklaaW.PrintWords Go.Proofs.YtchnkakjjbfklaaW.PrintLast Go.Proofs.Ytchnkakjjbfklaa.Base
set_option linter.unusedVariables false
set_option maxRecDepth 20000
noncomputable def spec_l32Tags.l0v (x0 : List Int) (x3 : Int) : Option (Bool) := Lim fun k => spec_l32Tags.l0 k x0 x3
noncomputable def spec_l32Tags.fv (l0 : List Int) : Option (Bool) := Lim fun k => spec_l32Tags.f k l0
theorem spec_l32Tags.l0_is (x0 : List Int) (x3 : Int) : Is (fun k => spec_l32Tags.l0 k x0 x3) (spec_l32Tags.l0v x0 x3) := ⟨fun k => (spec_l32Tags.mono_l k) x0 x3, rfl⟩
theorem spec_l32Tags.f_is (l0 : List Int) : Is (fun k => spec_l32Tags.f k l0) (spec_l32Tags.fv l0) := ⟨fun k => spec_l32Tags.mono l0 k, rfl⟩
theorem spec_l32Tags.l0v_eq (x0 : List Int) (x3 : Int) : spec_l32Tags.l0v x0 x3 = if x3 < (x0.length : Int) then (if 0 ≤ x3 then ((spec_l1In.f (rd x0 x3) 0 255).bind fun t345 => (if t345 = true then (if x3 > 0 then (if 0 ≤ (wrap64 (x3 - 1)) then (if (wrap64 (x3 - 1)) < (x0.length : Int) then (if (rd x0 (wrap64 (x3 - 1))) ≥ (rd x0 x3) then (some false) else (spec_l32Tags.l0v x0 (wrap64 (x3 + 1)))) else (none)) else (none)) else (spec_l32Tags.l0v x0 (wrap64 (x3 + 1)))) else (some false))) else (none)) else (some true) := by
  refine Is.step (spec_l32Tags.l0_is x0 x3).mo (fun k => by rw [spec_l32Tags.l0]) ?_
  · skip
    repeat' first
    | with_reducible exact spec_l32Tags.l0_is _ _
    | with_reducible exact Is.now _
    | with_reducible refine Is.ite ?_ ?_
    | with_reducible refine Is.bind ?_ (fun _ => ?_)
theorem spec_l32Tags.fv_eq (l0 : List Int) : spec_l32Tags.fv l0 = spec_l32Tags.l0v l0 0 := by
  refine Is.lim (g := fun k => spec_l32Tags.f k l0) ?_
  · unfold spec_l32Tags.f
    repeat' first
    | with_reducible exact spec_l32Tags.l0_is _ _
    | with_reducible exact Is.now _
    | with_reducible refine Is.ite ?_ ?_
    | with_reducible refine Is.bind ?_ (fun _ => ?_)
noncomputable def spec_IsRollout.l0v (x3 : Int) (x350000 : Int) (x350001 : List Int) (x350002 : Int) (x350003 : Bool) : Option (Bool) := Lim fun k => spec_IsRollout.l0 k x3 x350000 x350001 x350002 x350003
noncomputable def spec_IsRollout.fv (a0_0 : Int) (l0_1 : List Int) (a0_2 : Int) (a0_3 : Bool) : Option (Bool) := Lim fun k => spec_IsRollout.f k a0_0 l0_1 a0_2 a0_3
theorem spec_IsRollout.l0_is (x3 : Int) (x350000 : Int) (x350001 : List Int) (x350002 : Int) (x350003 : Bool) : Is (fun k => spec_IsRollout.l0 k x3 x350000 x350001 x350002 x350003) (spec_IsRollout.l0v x3 x350000 x350001 x350002 x350003) := ⟨fun k => (spec_IsRollout.mono_l k) x3 x350000 x350001 x350002 x350003, rfl⟩
theorem spec_IsRollout.f_is (a0_0 : Int) (l0_1 : List Int) (a0_2 : Int) (a0_3 : Bool) : Is (fun k => spec_IsRollout.f k a0_0 l0_1 a0_2 a0_3) (spec_IsRollout.fv a0_0 l0_1 a0_2 a0_3) := ⟨fun k => spec_IsRollout.mono a0_0 l0_1 a0_2 a0_3 k, rfl⟩
theorem spec_IsRollout.l0v_eq (x3 : Int) (x350000 : Int) (x350001 : List Int) (x350002 : Int) (x350003 : Bool) : spec_IsRollout.l0v x3 x350000 x350001 x350002 x350003 = if x3 < (x350001.length : Int) then (if 0 ≤ x3 then ((spec_l1In.f (rd x350001 x3) 1 100).bind fun t351 => (if t351 = true then (if x3 > 0 then (if 0 ≤ (wrap64 (x3 - 1)) then (if (wrap64 (x3 - 1)) < (x350001.length : Int) then (if (rd x350001 (wrap64 (x3 - 1))) ≥ (rd x350001 x3) then (some false) else (spec_IsRollout.l0v (wrap64 (x3 + 1)) x350000 x350001 x350002 x350003)) else (none)) else (none)) else (spec_IsRollout.l0v (wrap64 (x3 + 1)) x350000 x350001 x350002 x350003)) else (some false))) else (none)) else ((spec_l1In.f x350000 1 9).bind fun t354 => (if t354 = true then ((spec_l1In.f (x350001.length : Int) 1 5).bind fun t355 => (if t355 = true then (if 0 ≤ (wrap64 ((x350001.length : Int) - 1)) then (if (wrap64 ((x350001.length : Int) - 1)) < (x350001.length : Int) then (if (rd x350001 (wrap64 ((x350001.length : Int) - 1))) = 100 then ((spec_l1In.f x350002 0 (wrap64 ((x350001.length : Int) - 1))).bind fun t357 => (some t357)) else (some false)) else (none)) else (none)) else (some false))) else (some false))) := by
  refine Is.step (spec_IsRollout.l0_is x3 x350000 x350001 x350002 x350003).mo (fun k => by rw [spec_IsRollout.l0]) ?_
  · skip
    repeat' first
    | with_reducible exact spec_IsRollout.l0_is _ _ _ _ _
    | with_reducible exact Is.now _
    | with_reducible refine Is.ite ?_ ?_
    | with_reducible refine Is.bind ?_ (fun _ => ?_)
theorem spec_IsRollout.fv_eq (a0_0 : Int) (l0_1 : List Int) (a0_2 : Int) (a0_3 : Bool) : spec_IsRollout.fv a0_0 l0_1 a0_2 a0_3 = spec_IsRollout.l0v 0 a0_0 l0_1 a0_2 a0_3 := by
  refine Is.lim (g := fun k => spec_IsRollout.f k a0_0 l0_1 a0_2 a0_3) ?_
  · unfold spec_IsRollout.f
    repeat' first
    | with_reducible exact spec_IsRollout.l0_is _ _ _ _ _
    | with_reducible exact Is.now _
    | with_reducible refine Is.ite ?_ ?_
    | with_reducible refine Is.bind ?_ (fun _ => ?_)
noncomputable def spec_l9Has.l0v (x0 : List Int) (x1 : Int) (x5 : Int) : Option (Bool) := Lim fun k => spec_l9Has.l0 k x0 x1 x5
noncomputable def spec_l9Has.fv (l0 : List Int) (a1 : Int) : Option (Bool) := Lim fun k => spec_l9Has.f k l0 a1
theorem spec_l9Has.l0_is (x0 : List Int) (x1 : Int) (x5 : Int) : Is (fun k => spec_l9Has.l0 k x0 x1 x5) (spec_l9Has.l0v x0 x1 x5) := ⟨fun k => (spec_l9Has.mono_l k) x0 x1 x5, rfl⟩
theorem spec_l9Has.f_is (l0 : List Int) (a1 : Int) : Is (fun k => spec_l9Has.f k l0 a1) (spec_l9Has.fv l0 a1) := ⟨fun k => spec_l9Has.mono l0 a1 k, rfl⟩
theorem spec_l9Has.l0v_eq (x0 : List Int) (x1 : Int) (x5 : Int) : spec_l9Has.l0v x0 x1 x5 = if x5 < (x0.length : Int) then (if 0 ≤ x5 then (if (rd x0 x5) = x1 then (some true) else (spec_l9Has.l0v x0 x1 (wrap64 (x5 + 1)))) else (none)) else (some false) := by
  refine Is.step (spec_l9Has.l0_is x0 x1 x5).mo (fun k => by rw [spec_l9Has.l0]) ?_
  · skip
    repeat' first
    | with_reducible exact spec_l9Has.l0_is _ _ _
    | with_reducible exact Is.now _
    | with_reducible refine Is.ite ?_ ?_
    | with_reducible refine Is.bind ?_ (fun _ => ?_)
theorem spec_l9Has.fv_eq (l0 : List Int) (a1 : Int) : spec_l9Has.fv l0 a1 = spec_l9Has.l0v l0 a1 0 := by
  refine Is.lim (g := fun k => spec_l9Has.f k l0 a1) ?_
  · unfold spec_l9Has.f
    repeat' first
    | with_reducible exact spec_l9Has.l0_is _ _ _
    | with_reducible exact Is.now _
    | with_reducible refine Is.ite ?_ ?_
    | with_reducible refine Is.bind ?_ (fun _ => ?_)
noncomputable def spec_CommonOf.l0v (x0 : List Int) (x1 : List Int) (x5 : List Int) (x6 : Int) : Option (List Int) := Lim fun k => spec_CommonOf.l0 k x0 x1 x5 x6
noncomputable def spec_CommonOf.fv (l0 : List Int) (l1 : List Int) : Option (List Int) := Lim fun k => spec_CommonOf.f k l0 l1
theorem spec_CommonOf.l0_is (x0 : List Int) (x1 : List Int) (x5 : List Int) (x6 : Int) : Is (fun k => spec_CommonOf.l0 k x0 x1 x5 x6) (spec_CommonOf.l0v x0 x1 x5 x6) := ⟨fun k => (spec_CommonOf.mono_l k) x0 x1 x5 x6, rfl⟩
theorem spec_CommonOf.f_is (l0 : List Int) (l1 : List Int) : Is (fun k => spec_CommonOf.f k l0 l1) (spec_CommonOf.fv l0 l1) := ⟨fun k => spec_CommonOf.mono l0 l1 k, rfl⟩
theorem spec_CommonOf.l0v_eq (x0 : List Int) (x1 : List Int) (x5 : List Int) (x6 : Int) : spec_CommonOf.l0v x0 x1 x5 x6 = if x6 < (x0.length : Int) then (if 0 ≤ x6 then ((spec_l9Has.fv x1 (rd x0 x6)).bind fun t363 => (if t363 = true then (if x5.length < 17592186044416 then (spec_CommonOf.l0v x0 x1 (x5 ++ [rd x0 x6]) (wrap64 (x6 + 1))) else (none)) else (spec_CommonOf.l0v x0 x1 x5 (wrap64 (x6 + 1))))) else (none)) else (some x5) := by
  refine Is.step (spec_CommonOf.l0_is x0 x1 x5 x6).mo (fun k => by rw [spec_CommonOf.l0]) ?_
  · skip
    repeat' first
    | with_reducible exact spec_CommonOf.l0_is _ _ _ _
    | with_reducible exact spec_l9Has.f_is _ _
    | with_reducible exact Is.now _
    | with_reducible refine Is.ite ?_ ?_
    | with_reducible refine Is.bind ?_ (fun _ => ?_)
theorem spec_CommonOf.fv_eq (l0 : List Int) (l1 : List Int) : spec_CommonOf.fv l0 l1 = spec_CommonOf.l0v l0 l1 (([] : List Int)) 0 := by
  refine Is.lim (g := fun k => spec_CommonOf.f k l0 l1) ?_
  · unfold spec_CommonOf.f
    repeat' first
    | with_reducible exact spec_CommonOf.l0_is _ _ _ _
    | with_reducible exact Is.now _
    | with_reducible refine Is.ite ?_ ?_
    | with_reducible refine Is.bind ?_ (fun _ => ?_)
noncomputable def spec_BestCommon.fv (l0 : List Int) (l1 : List Int) : Option (Int) := Lim fun k => spec_BestCommon.f k l0 l1
theorem spec_BestCommon.f_is (l0 : List Int) (l1 : List Int) : Is (fun k => spec_BestCommon.f k l0 l1) (spec_BestCommon.fv l0 l1) := ⟨fun k => spec_BestCommon.mono l0 l1 k, rfl⟩
theorem spec_BestCommon.fv_eq (l0 : List Int) (l1 : List Int) : spec_BestCommon.fv l0 l1 = (spec_CommonOf.fv l0 l1).bind fun t368 => ((spec_AreVersions.fv l0).bind fun t371 => (if t371 = true then ((spec_AreVersions.fv l1).bind fun t372 => (if t372 = true then (if (t368.length : Int) = 0 then (some 0) else (if 0 ≤ (wrap64 ((t368.length : Int) - 1)) then (if (wrap64 ((t368.length : Int) - 1)) < (t368.length : Int) then (some (rd t368 (wrap64 ((t368.length : Int) - 1)))) else (none)) else (none))) else (some 0))) else (some 0))) := by
  refine Is.lim (g := fun k => spec_BestCommon.f k l0 l1) ?_
  · unfold spec_BestCommon.f
    repeat' first
    | with_reducible exact spec_AreVersions.f_is _
    | with_reducible exact spec_CommonOf.f_is _ _
    | with_reducible exact Is.now _
    | with_reducible refine Is.ite ?_ ?_
    | with_reducible refine Is.bind ?_ (fun _ => ?_)
end Go.Proofs.Ytchnkakjjbfklaa.Print

/- Written by a program of this session (limx.py): the equations of what the printed functions come to. No condition. -/
namespace Go.Proofs.Ytchnkakjjbfklaa.Print
open Go.RowKit Go.Proofs.YtchnkakjjbfklaaW.PrintWords Go.Proofs.YtchnkakjjbfklaaW.PrintLast Go.Proofs.Ytchnkakjjbfklaa.Base
set_option linter.unusedVariables false
set_option maxRecDepth 20000
noncomputable def impl_AreVersions.l0v (x0 : List Int) (x5 : List Int) (x6 : Int) (x7 : Int) : Option (Bool) := Lim fun k => impl_AreVersions.l0 k x0 x5 x6 x7
noncomputable def impl_AreVersions.fv (l0 : List Int) : Option (Bool) := Lim fun k => impl_AreVersions.f k l0
theorem impl_AreVersions.l0_is (x0 : List Int) (x5 : List Int) (x6 : Int) (x7 : Int) : Is (fun k => impl_AreVersions.l0 k x0 x5 x6 x7) (impl_AreVersions.l0v x0 x5 x6 x7) := ⟨fun k => (impl_AreVersions.mono_l k) x0 x5 x6 x7, rfl⟩
theorem impl_AreVersions.f_is (l0 : List Int) : Is (fun k => impl_AreVersions.f k l0) (impl_AreVersions.fv l0) := ⟨fun k => impl_AreVersions.mono l0 k, rfl⟩
theorem impl_AreVersions.l0v_eq (x0 : List Int) (x5 : List Int) (x6 : Int) (x7 : Int) : impl_AreVersions.l0v x0 x5 x6 x7 = if x7 < x6 then (if 0 ≤ x7 then (if x7 < (x5.length : Int) then ((impl_InRange.f (rd x5 x7) 1 9).bind fun t409 => (if t409 = true then (if x7 > 0 then (if 0 ≤ (wrap64 (x7 - 1)) then (if (wrap64 (x7 - 1)) < (x0.length : Int) then (if (rd x0 (wrap64 (x7 - 1))) ≥ (rd x5 x7) then (some false) else (impl_AreVersions.l0v x0 x5 x6 (wrap64 (x7 + 1)))) else (none)) else (none)) else (impl_AreVersions.l0v x0 x5 x6 (wrap64 (x7 + 1)))) else (some false))) else (none)) else (none)) else (some (decide ((x0.length : Int) > 0))) := by
  refine Is.step (impl_AreVersions.l0_is x0 x5 x6 x7).mo (fun k => by rw [impl_AreVersions.l0]) ?_
  · skip
    repeat' first
    | with_reducible exact impl_AreVersions.l0_is _ _ _ _
    | with_reducible exact Is.now _
    | with_reducible refine Is.ite ?_ ?_
    | with_reducible refine Is.bind ?_ (fun _ => ?_)
theorem impl_AreVersions.fv_eq (l0 : List Int) : impl_AreVersions.fv l0 = impl_AreVersions.l0v l0 l0 (l0.length : Int) 0 := by
  refine Is.lim (g := fun k => impl_AreVersions.f k l0) ?_
  · unfold impl_AreVersions.f
    repeat' first
    | with_reducible exact impl_AreVersions.l0_is _ _ _ _
    | with_reducible exact Is.now _
    | with_reducible refine Is.ite ?_ ?_
    | with_reducible refine Is.bind ?_ (fun _ => ?_)
noncomputable def slices_Index_int_int.l0v (x0 : List Int) (x1 : Int) (x7 : Int) (x8 : Int) : Option (Int) := Lim fun k => slices_Index_int_int.l0 k x0 x1 x7 x8
noncomputable def slices_Index_int_int.fv (l0 : List Int) (a1 : Int) : Option (Int) := Lim fun k => slices_Index_int_int.f k l0 a1
theorem slices_Index_int_int.l0_is (x0 : List Int) (x1 : Int) (x7 : Int) (x8 : Int) : Is (fun k => slices_Index_int_int.l0 k x0 x1 x7 x8) (slices_Index_int_int.l0v x0 x1 x7 x8) := ⟨fun k => (slices_Index_int_int.mono_l k) x0 x1 x7 x8, rfl⟩
theorem slices_Index_int_int.f_is (l0 : List Int) (a1 : Int) : Is (fun k => slices_Index_int_int.f k l0 a1) (slices_Index_int_int.fv l0 a1) := ⟨fun k => slices_Index_int_int.mono l0 a1 k, rfl⟩
theorem slices_Index_int_int.l0v_eq (x0 : List Int) (x1 : Int) (x7 : Int) (x8 : Int) : slices_Index_int_int.l0v x0 x1 x7 x8 = if x8 < x7 then (if 0 ≤ x8 then (if x8 < (x0.length : Int) then (if x1 = (rd x0 x8) then (some x8) else (slices_Index_int_int.l0v x0 x1 x7 (wrap64 (x8 + 1)))) else (none)) else (none)) else (some (-1)) := by
  refine Is.step (slices_Index_int_int.l0_is x0 x1 x7 x8).mo (fun k => by rw [slices_Index_int_int.l0]) ?_
  · skip
    repeat' first
    | with_reducible exact slices_Index_int_int.l0_is _ _ _ _
    | with_reducible exact Is.now _
    | with_reducible refine Is.ite ?_ ?_
    | with_reducible refine Is.bind ?_ (fun _ => ?_)
theorem slices_Index_int_int.fv_eq (l0 : List Int) (a1 : Int) : slices_Index_int_int.fv l0 a1 = slices_Index_int_int.l0v l0 a1 (l0.length : Int) 0 := by
  refine Is.lim (g := fun k => slices_Index_int_int.f k l0 a1) ?_
  · unfold slices_Index_int_int.f
    repeat' first
    | with_reducible exact slices_Index_int_int.l0_is _ _ _ _
    | with_reducible exact Is.now _
    | with_reducible refine Is.ite ?_ ?_
    | with_reducible refine Is.bind ?_ (fun _ => ?_)
noncomputable def slices_Contains_int_int.fv (l0 : List Int) (a1 : Int) : Option (Bool) := Lim fun k => slices_Contains_int_int.f k l0 a1
theorem slices_Contains_int_int.f_is (l0 : List Int) (a1 : Int) : Is (fun k => slices_Contains_int_int.f k l0 a1) (slices_Contains_int_int.fv l0 a1) := ⟨fun k => slices_Contains_int_int.mono l0 a1 k, rfl⟩
theorem slices_Contains_int_int.fv_eq (l0 : List Int) (a1 : Int) : slices_Contains_int_int.fv l0 a1 = (slices_Index_int_int.fv l0 a1).bind fun t412 => (some (decide (t412 ≥ 0))) := by
  refine Is.lim (g := fun k => slices_Contains_int_int.f k l0 a1) ?_
  · unfold slices_Contains_int_int.f
    repeat' first
    | with_reducible exact slices_Index_int_int.f_is _ _
    | with_reducible exact Is.now _
    | with_reducible refine Is.ite ?_ ?_
    | with_reducible refine Is.bind ?_ (fun _ => ?_)
noncomputable def impl_CommonOf.l0v (x1 : List Int) (x5 : List Int) (x9 : List Int) (x10 : Int) (x11 : Int) : Option (List Int) := Lim fun k => impl_CommonOf.l0 k x1 x5 x9 x10 x11
noncomputable def impl_CommonOf.fv (l0 : List Int) (l1 : List Int) : Option (List Int) := Lim fun k => impl_CommonOf.f k l0 l1
theorem impl_CommonOf.l0_is (x1 : List Int) (x5 : List Int) (x9 : List Int) (x10 : Int) (x11 : Int) : Is (fun k => impl_CommonOf.l0 k x1 x5 x9 x10 x11) (impl_CommonOf.l0v x1 x5 x9 x10 x11) := ⟨fun k => (impl_CommonOf.mono_l k) x1 x5 x9 x10 x11, rfl⟩
theorem impl_CommonOf.f_is (l0 : List Int) (l1 : List Int) : Is (fun k => impl_CommonOf.f k l0 l1) (impl_CommonOf.fv l0 l1) := ⟨fun k => impl_CommonOf.mono l0 l1 k, rfl⟩
theorem impl_CommonOf.l0v_eq (x1 : List Int) (x5 : List Int) (x9 : List Int) (x10 : Int) (x11 : Int) : impl_CommonOf.l0v x1 x5 x9 x10 x11 = if x11 < x10 then (if 0 ≤ x11 then (if x11 < (x9.length : Int) then ((slices_Contains_int_int.fv x1 (rd x9 x11)).bind fun t417 => (if t417 = true then (if x5.length < 17592186044416 then (impl_CommonOf.l0v x1 (x5 ++ [rd x9 x11]) x9 x10 (wrap64 (x11 + 1))) else (none)) else (impl_CommonOf.l0v x1 x5 x9 x10 (wrap64 (x11 + 1))))) else (none)) else (none)) else (some x5) := by
  refine Is.step (impl_CommonOf.l0_is x1 x5 x9 x10 x11).mo (fun k => by rw [impl_CommonOf.l0]) ?_
  · skip
    repeat' first
    | with_reducible exact impl_CommonOf.l0_is _ _ _ _ _
    | with_reducible exact slices_Contains_int_int.f_is _ _
    | with_reducible exact Is.now _
    | with_reducible refine Is.ite ?_ ?_
    | with_reducible refine Is.bind ?_ (fun _ => ?_)
theorem impl_CommonOf.fv_eq (l0 : List Int) (l1 : List Int) : impl_CommonOf.fv l0 l1 = impl_CommonOf.l0v l1 (([] : List Int)) l0 (l0.length : Int) 0 := by
  refine Is.lim (g := fun k => impl_CommonOf.f k l0 l1) ?_
  · unfold impl_CommonOf.f
    repeat' first
    | with_reducible exact impl_CommonOf.l0_is _ _ _ _ _
    | with_reducible exact Is.now _
    | with_reducible refine Is.ite ?_ ?_
    | with_reducible refine Is.bind ?_ (fun _ => ?_)
noncomputable def impl_BestCommon.j0v (x0 : List Int) (x1 : List Int) (x15 : Bool) : Option (Int) := Lim fun k => impl_BestCommon.j0 k x0 x1 x15
noncomputable def impl_BestCommon.l0v (x5 : Int) (x18 : List Int) (x19 : Int) (x20 : Int) : Option (Int) := Lim fun k => impl_BestCommon.l0 k x5 x18 x19 x20
noncomputable def impl_BestCommon.fv (l0 : List Int) (l1 : List Int) : Option (Int) := Lim fun k => impl_BestCommon.f k l0 l1
theorem impl_BestCommon.j0_is (x0 : List Int) (x1 : List Int) (x15 : Bool) : Is (fun k => impl_BestCommon.j0 k x0 x1 x15) (impl_BestCommon.j0v x0 x1 x15) := ⟨fun k => (impl_BestCommon.mono_l k).1 x0 x1 x15, rfl⟩
theorem impl_BestCommon.l0_is (x5 : Int) (x18 : List Int) (x19 : Int) (x20 : Int) : Is (fun k => impl_BestCommon.l0 k x5 x18 x19 x20) (impl_BestCommon.l0v x5 x18 x19 x20) := ⟨fun k => (impl_BestCommon.mono_l k).2 x5 x18 x19 x20, rfl⟩
theorem impl_BestCommon.f_is (l0 : List Int) (l1 : List Int) : Is (fun k => impl_BestCommon.f k l0 l1) (impl_BestCommon.fv l0 l1) := ⟨fun k => impl_BestCommon.mono l0 l1 k, rfl⟩
theorem impl_BestCommon.j0v_eq (x0 : List Int) (x1 : List Int) (x15 : Bool) : impl_BestCommon.j0v x0 x1 x15 = if x15 = true then (some 0) else ((impl_CommonOf.fv x0 x1).bind fun t423 => (impl_BestCommon.l0v 0 t423 (t423.length : Int) 0)) := by
  refine Is.step (impl_BestCommon.j0_is x0 x1 x15).mo (fun k => by rw [impl_BestCommon.j0]) ?_
  · skip
    repeat' first
    | with_reducible exact impl_BestCommon.l0_is _ _ _ _
    | with_reducible exact impl_CommonOf.f_is _ _
    | with_reducible exact Is.now _
    | with_reducible refine Is.ite ?_ ?_
    | with_reducible refine Is.bind ?_ (fun _ => ?_)
theorem impl_BestCommon.l0v_eq (x5 : Int) (x18 : List Int) (x19 : Int) (x20 : Int) : impl_BestCommon.l0v x5 x18 x19 x20 = if x20 < x19 then (if 0 ≤ x20 then (if x20 < (x18.length : Int) then (impl_BestCommon.l0v (mx x5 (rd x18 x20)) x18 x19 (wrap64 (x20 + 1))) else (none)) else (none)) else (some x5) := by
  refine Is.step (impl_BestCommon.l0_is x5 x18 x19 x20).mo (fun k => by rw [impl_BestCommon.l0]) ?_
  · skip
    repeat' first
    | with_reducible exact impl_BestCommon.l0_is _ _ _ _
    | with_reducible exact Is.now _
    | with_reducible refine Is.ite ?_ ?_
    | with_reducible refine Is.bind ?_ (fun _ => ?_)
theorem impl_BestCommon.fv_eq (l0 : List Int) (l1 : List Int) : impl_BestCommon.fv l0 l1 = (impl_AreVersions.fv l0).bind fun t421 => (if t421 = true then ((impl_AreVersions.fv l1).bind fun t422 => (impl_BestCommon.j0v l0 l1 (!t422))) else (impl_BestCommon.j0v l0 l1 true)) := by
  refine Is.lim (g := fun k => impl_BestCommon.f k l0 l1) ?_
  · unfold impl_BestCommon.f
    repeat' first
    | with_reducible exact impl_AreVersions.f_is _
    | with_reducible exact impl_BestCommon.j0_is _ _ _
    | with_reducible exact Is.now _
    | with_reducible refine Is.ite ?_ ?_
    | with_reducible refine Is.bind ?_ (fun _ => ?_)
noncomputable def impl_AllReach_1.fv (l0 : List Int) (l1_0 : List Int) : Option (Bool) := Lim fun k => impl_AllReach_1.f k l0 l1_0
theorem impl_AllReach_1.f_is (l0 : List Int) (l1_0 : List Int) : Is (fun k => impl_AllReach_1.f k l0 l1_0) (impl_AllReach_1.fv l0 l1_0) := ⟨fun k => impl_AllReach_1.mono l0 l1_0 k, rfl⟩
theorem impl_AllReach_1.fv_eq (l0 : List Int) (l1_0 : List Int) : impl_AllReach_1.fv l0 l1_0 = (impl_BestCommon.fv l1_0 l0).bind fun t427 => (some (t427 == 0)) := by
  refine Is.lim (g := fun k => impl_AllReach_1.f k l0 l1_0) ?_
  · unfold impl_AllReach_1.f
    repeat' first
    | with_reducible exact impl_BestCommon.f_is _ _
    | with_reducible exact Is.now _
    | with_reducible refine Is.ite ?_ ?_
    | with_reducible refine Is.bind ?_ (fun _ => ?_)
noncomputable def slices_IndexFunc_int_int_with_impl_AllReach_1.l0v (x0 : List (List Int)) (x7 : Int) (x8 : Int) (x2000 : List Int) : Option (Int) := Lim fun k => slices_IndexFunc_int_int_with_impl_AllReach_1.l0 k x0 x7 x8 x2000
noncomputable def slices_IndexFunc_int_int_with_impl_AllReach_1.fv (l0 : List (List Int)) (l1_0 : List Int) : Option (Int) := Lim fun k => slices_IndexFunc_int_int_with_impl_AllReach_1.f k l0 l1_0
theorem slices_IndexFunc_int_int_with_impl_AllReach_1.l0_is (x0 : List (List Int)) (x7 : Int) (x8 : Int) (x2000 : List Int) : Is (fun k => slices_IndexFunc_int_int_with_impl_AllReach_1.l0 k x0 x7 x8 x2000) (slices_IndexFunc_int_int_with_impl_AllReach_1.l0v x0 x7 x8 x2000) := ⟨fun k => (slices_IndexFunc_int_int_with_impl_AllReach_1.mono_l k) x0 x7 x8 x2000, rfl⟩
theorem slices_IndexFunc_int_int_with_impl_AllReach_1.f_is (l0 : List (List Int)) (l1_0 : List Int) : Is (fun k => slices_IndexFunc_int_int_with_impl_AllReach_1.f k l0 l1_0) (slices_IndexFunc_int_int_with_impl_AllReach_1.fv l0 l1_0) := ⟨fun k => slices_IndexFunc_int_int_with_impl_AllReach_1.mono l0 l1_0 k, rfl⟩
theorem slices_IndexFunc_int_int_with_impl_AllReach_1.l0v_eq (x0 : List (List Int)) (x7 : Int) (x8 : Int) (x2000 : List Int) : slices_IndexFunc_int_int_with_impl_AllReach_1.l0v x0 x7 x8 x2000 = if x8 < x7 then (if 0 ≤ x8 then (if x8 < (x0.length : Int) then ((impl_AllReach_1.fv (rd_L1 x0 x8) x2000).bind fun t429 => (if t429 = true then (some x8) else (slices_IndexFunc_int_int_with_impl_AllReach_1.l0v x0 x7 (wrap64 (x8 + 1)) x2000))) else (none)) else (none)) else (some (-1)) := by
  refine Is.step (slices_IndexFunc_int_int_with_impl_AllReach_1.l0_is x0 x7 x8 x2000).mo (fun k => by rw [slices_IndexFunc_int_int_with_impl_AllReach_1.l0]) ?_
  · skip
    repeat' first
    | with_reducible exact impl_AllReach_1.f_is _ _
    | with_reducible exact slices_IndexFunc_int_int_with_impl_AllReach_1.l0_is _ _ _ _
    | with_reducible exact Is.now _
    | with_reducible refine Is.ite ?_ ?_
    | with_reducible refine Is.bind ?_ (fun _ => ?_)
theorem slices_IndexFunc_int_int_with_impl_AllReach_1.fv_eq (l0 : List (List Int)) (l1_0 : List Int) : slices_IndexFunc_int_int_with_impl_AllReach_1.fv l0 l1_0 = slices_IndexFunc_int_int_with_impl_AllReach_1.l0v l0 (l0.length : Int) 0 l1_0 := by
  refine Is.lim (g := fun k => slices_IndexFunc_int_int_with_impl_AllReach_1.f k l0 l1_0) ?_
  · unfold slices_IndexFunc_int_int_with_impl_AllReach_1.f
    repeat' first
    | with_reducible exact slices_IndexFunc_int_int_with_impl_AllReach_1.l0_is _ _ _ _
    | with_reducible exact Is.now _
    | with_reducible refine Is.ite ?_ ?_
    | with_reducible refine Is.bind ?_ (fun _ => ?_)
end Go.Proofs.Ytchnkakjjbfklaa.Print

/- Written by a program of this session (limx.py): the equations of what the printed functions come to. No condition. -/
namespace Go.Proofs.Ytchnkakjjbfklaa.Print
open Go.RowKit Go.Proofs.YtchnkakjjbfklaaW.PrintWords Go.Proofs.YtchnkakjjbfklaaW.PrintLast Go.Proofs.Ytchnkakjjbfklaa.Base
set_option linter.unusedVariables false
set_option maxRecDepth 20000
noncomputable def slices_ContainsFunc_int_int_with_impl_AllReach_1.fv (l0 : List (List Int)) (l1_0 : List Int) : Option (Bool) := Lim fun k => slices_ContainsFunc_int_int_with_impl_AllReach_1.f k l0 l1_0
theorem slices_ContainsFunc_int_int_with_impl_AllReach_1.f_is (l0 : List (List Int)) (l1_0 : List Int) : Is (fun k => slices_ContainsFunc_int_int_with_impl_AllReach_1.f k l0 l1_0) (slices_ContainsFunc_int_int_with_impl_AllReach_1.fv l0 l1_0) := ⟨fun k => slices_ContainsFunc_int_int_with_impl_AllReach_1.mono l0 l1_0 k, rfl⟩
theorem slices_ContainsFunc_int_int_with_impl_AllReach_1.fv_eq (l0 : List (List Int)) (l1_0 : List Int) : slices_ContainsFunc_int_int_with_impl_AllReach_1.fv l0 l1_0 = (slices_IndexFunc_int_int_with_impl_AllReach_1.fv l0 l1_0).bind fun t430 => (some (decide (t430 ≥ 0))) := by
  refine Is.lim (g := fun k => slices_ContainsFunc_int_int_with_impl_AllReach_1.f k l0 l1_0) ?_
  · unfold slices_ContainsFunc_int_int_with_impl_AllReach_1.f
    repeat' first
    | with_reducible exact slices_IndexFunc_int_int_with_impl_AllReach_1.f_is _ _
    | with_reducible exact Is.now _
    | with_reducible refine Is.ite ?_ ?_
    | with_reducible refine Is.bind ?_ (fun _ => ?_)
noncomputable def impl_AllReach.fv (l0 : List Int) (l1 : List (List Int)) : Option (Bool) := Lim fun k => impl_AllReach.f k l0 l1
theorem impl_AllReach.f_is (l0 : List Int) (l1 : List (List Int)) : Is (fun k => impl_AllReach.f k l0 l1) (impl_AllReach.fv l0 l1) := ⟨fun k => impl_AllReach.mono l0 l1 k, rfl⟩
theorem impl_AllReach.fv_eq (l0 : List Int) (l1 : List (List Int)) : impl_AllReach.fv l0 l1 = (impl_AreVersions.fv l0).bind fun t432 => (if t432 = true then ((slices_ContainsFunc_int_int_with_impl_AllReach_1.fv l1 l0).bind fun t433 => (some (!t433))) else (some false)) := by
  refine Is.lim (g := fun k => impl_AllReach.f k l0 l1) ?_
  · unfold impl_AllReach.f
    repeat' first
    | with_reducible exact impl_AreVersions.f_is _
    | with_reducible exact slices_ContainsFunc_int_int_with_impl_AllReach_1.f_is _ _
    | with_reducible exact Is.now _
    | with_reducible refine Is.ite ?_ ?_
    | with_reducible refine Is.bind ?_ (fun _ => ?_)
noncomputable def impl_ListsOf.l0v (x3 : List (List Int)) (x8 : List (S50)) (x9 : Int) (x10 : Int) : Option ((List (List Int))) := Lim fun k => impl_ListsOf.l0 k x3 x8 x9 x10
noncomputable def impl_ListsOf.fv (l0_0 : List Int) (l0_1 : List Int) (a0_2 : Int) (l0_3 : List (S50)) (a0_4 : Int) (l0_5 : List Int) (a0_6 : Int) (a0_7 : Bool) (a0_8 : Int) (a0_9 : Int) (l0_10 : List (S55)) (l0_11 : List (S57)) (a0_12 : Int) (a0_13 : Int) (a0_14 : Int) : Option ((List (List Int))) := Lim fun k => impl_ListsOf.f k l0_0 l0_1 a0_2 l0_3 a0_4 l0_5 a0_6 a0_7 a0_8 a0_9 l0_10 l0_11 a0_12 a0_13 a0_14
theorem impl_ListsOf.l0_is (x3 : List (List Int)) (x8 : List (S50)) (x9 : Int) (x10 : Int) : Is (fun k => impl_ListsOf.l0 k x3 x8 x9 x10) (impl_ListsOf.l0v x3 x8 x9 x10) := ⟨fun k => (impl_ListsOf.mono_l k) x3 x8 x9 x10, rfl⟩
theorem impl_ListsOf.f_is (l0_0 : List Int) (l0_1 : List Int) (a0_2 : Int) (l0_3 : List (S50)) (a0_4 : Int) (l0_5 : List Int) (a0_6 : Int) (a0_7 : Bool) (a0_8 : Int) (a0_9 : Int) (l0_10 : List (S55)) (l0_11 : List (S57)) (a0_12 : Int) (a0_13 : Int) (a0_14 : Int) : Is (fun k => impl_ListsOf.f k l0_0 l0_1 a0_2 l0_3 a0_4 l0_5 a0_6 a0_7 a0_8 a0_9 l0_10 l0_11 a0_12 a0_13 a0_14) (impl_ListsOf.fv l0_0 l0_1 a0_2 l0_3 a0_4 l0_5 a0_6 a0_7 a0_8 a0_9 l0_10 l0_11 a0_12 a0_13 a0_14) := ⟨fun k => impl_ListsOf.mono l0_0 l0_1 a0_2 l0_3 a0_4 l0_5 a0_6 a0_7 a0_8 a0_9 l0_10 l0_11 a0_12 a0_13 a0_14 k, rfl⟩
theorem impl_ListsOf.l0v_eq (x3 : List (List Int)) (x8 : List (S50)) (x9 : Int) (x10 : Int) : impl_ListsOf.l0v x3 x8 x9 x10 = if x10 < x9 then (if 0 ≤ x10 then (if x10 < (x8.length : Int) then ((some (([] : List Int) : List Int)).bind fun y440 => (if y440.length + ((rd_T50 x8 x10).f0).length < 17592186044416 then (if x3.length < 5864062014805 then (impl_ListsOf.l0v (x3 ++ [(y440 ++ ((rd_T50 x8 x10).f0))]) x8 x9 (wrap64 (x10 + 1))) else (none)) else (none))) else (none)) else (none)) else (some x3) := by
  refine Is.step (impl_ListsOf.l0_is x3 x8 x9 x10).mo (fun k => by rw [impl_ListsOf.l0]) ?_
  · skip
    repeat' first
    | with_reducible exact impl_ListsOf.l0_is _ _ _ _
    | with_reducible exact Is.now _
    | with_reducible refine Is.ite ?_ ?_
    | with_reducible refine Is.bind ?_ (fun _ => ?_)
theorem impl_ListsOf.fv_eq (l0_0 : List Int) (l0_1 : List Int) (a0_2 : Int) (l0_3 : List (S50)) (a0_4 : Int) (l0_5 : List Int) (a0_6 : Int) (a0_7 : Bool) (a0_8 : Int) (a0_9 : Int) (l0_10 : List (S55)) (l0_11 : List (S57)) (a0_12 : Int) (a0_13 : Int) (a0_14 : Int) : impl_ListsOf.fv l0_0 l0_1 a0_2 l0_3 a0_4 l0_5 a0_6 a0_7 a0_8 a0_9 l0_10 l0_11 a0_12 a0_13 a0_14 = impl_ListsOf.l0v (([] : List (List Int))) l0_3 (l0_3.length : Int) 0 := by
  refine Is.lim (g := fun k => impl_ListsOf.f k l0_0 l0_1 a0_2 l0_3 a0_4 l0_5 a0_6 a0_7 a0_8 a0_9 l0_10 l0_11 a0_12 a0_13 a0_14) ?_
  · unfold impl_ListsOf.f
    repeat' first
    | with_reducible exact impl_ListsOf.l0_is _ _ _ _
    | with_reducible exact Is.now _
    | with_reducible refine Is.ite ?_ ?_
    | with_reducible refine Is.bind ?_ (fun _ => ?_)
noncomputable def slices_IndexFunc_int_int_with_impl_areNumbers_1.l0v (x0 : List Int) (x7 : Int) (x8 : Int) (x2000 : Int) (x3000 : Int) : Option (Int) := Lim fun k => slices_IndexFunc_int_int_with_impl_areNumbers_1.l0 k x0 x7 x8 x2000 x3000
noncomputable def slices_IndexFunc_int_int_with_impl_areNumbers_1.fv (l0 : List Int) (a1_0 : Int) (a2_0 : Int) : Option (Int) := Lim fun k => slices_IndexFunc_int_int_with_impl_areNumbers_1.f k l0 a1_0 a2_0
theorem slices_IndexFunc_int_int_with_impl_areNumbers_1.l0_is (x0 : List Int) (x7 : Int) (x8 : Int) (x2000 : Int) (x3000 : Int) : Is (fun k => slices_IndexFunc_int_int_with_impl_areNumbers_1.l0 k x0 x7 x8 x2000 x3000) (slices_IndexFunc_int_int_with_impl_areNumbers_1.l0v x0 x7 x8 x2000 x3000) := ⟨fun k => (slices_IndexFunc_int_int_with_impl_areNumbers_1.mono_l k) x0 x7 x8 x2000 x3000, rfl⟩
theorem slices_IndexFunc_int_int_with_impl_areNumbers_1.f_is (l0 : List Int) (a1_0 : Int) (a2_0 : Int) : Is (fun k => slices_IndexFunc_int_int_with_impl_areNumbers_1.f k l0 a1_0 a2_0) (slices_IndexFunc_int_int_with_impl_areNumbers_1.fv l0 a1_0 a2_0) := ⟨fun k => slices_IndexFunc_int_int_with_impl_areNumbers_1.mono l0 a1_0 a2_0 k, rfl⟩
theorem slices_IndexFunc_int_int_with_impl_areNumbers_1.l0v_eq (x0 : List Int) (x7 : Int) (x8 : Int) (x2000 : Int) (x3000 : Int) : slices_IndexFunc_int_int_with_impl_areNumbers_1.l0v x0 x7 x8 x2000 x3000 = if x8 < x7 then (if 0 ≤ x8 then (if x8 < (x0.length : Int) then ((impl_areNumbers_1.f (rd x0 x8) x2000 x3000).bind fun t451 => (if t451 = true then (some x8) else (slices_IndexFunc_int_int_with_impl_areNumbers_1.l0v x0 x7 (wrap64 (x8 + 1)) x2000 x3000))) else (none)) else (none)) else (some (-1)) := by
  refine Is.step (slices_IndexFunc_int_int_with_impl_areNumbers_1.l0_is x0 x7 x8 x2000 x3000).mo (fun k => by rw [slices_IndexFunc_int_int_with_impl_areNumbers_1.l0]) ?_
  · skip
    repeat' first
    | with_reducible exact slices_IndexFunc_int_int_with_impl_areNumbers_1.l0_is _ _ _ _ _
    | with_reducible exact Is.now _
    | with_reducible refine Is.ite ?_ ?_
    | with_reducible refine Is.bind ?_ (fun _ => ?_)
theorem slices_IndexFunc_int_int_with_impl_areNumbers_1.fv_eq (l0 : List Int) (a1_0 : Int) (a2_0 : Int) : slices_IndexFunc_int_int_with_impl_areNumbers_1.fv l0 a1_0 a2_0 = slices_IndexFunc_int_int_with_impl_areNumbers_1.l0v l0 (l0.length : Int) 0 a1_0 a2_0 := by
  refine Is.lim (g := fun k => slices_IndexFunc_int_int_with_impl_areNumbers_1.f k l0 a1_0 a2_0) ?_
  · unfold slices_IndexFunc_int_int_with_impl_areNumbers_1.f
    repeat' first
    | with_reducible exact slices_IndexFunc_int_int_with_impl_areNumbers_1.l0_is _ _ _ _ _
    | with_reducible exact Is.now _
    | with_reducible refine Is.ite ?_ ?_
    | with_reducible refine Is.bind ?_ (fun _ => ?_)
noncomputable def slices_ContainsFunc_int_int_with_impl_areNumbers_1.fv (l0 : List Int) (a1_0 : Int) (a2_0 : Int) : Option (Bool) := Lim fun k => slices_ContainsFunc_int_int_with_impl_areNumbers_1.f k l0 a1_0 a2_0
theorem slices_ContainsFunc_int_int_with_impl_areNumbers_1.f_is (l0 : List Int) (a1_0 : Int) (a2_0 : Int) : Is (fun k => slices_ContainsFunc_int_int_with_impl_areNumbers_1.f k l0 a1_0 a2_0) (slices_ContainsFunc_int_int_with_impl_areNumbers_1.fv l0 a1_0 a2_0) := ⟨fun k => slices_ContainsFunc_int_int_with_impl_areNumbers_1.mono l0 a1_0 a2_0 k, rfl⟩
theorem slices_ContainsFunc_int_int_with_impl_areNumbers_1.fv_eq (l0 : List Int) (a1_0 : Int) (a2_0 : Int) : slices_ContainsFunc_int_int_with_impl_areNumbers_1.fv l0 a1_0 a2_0 = (slices_IndexFunc_int_int_with_impl_areNumbers_1.fv l0 a1_0 a2_0).bind fun t452 => (some (decide (t452 ≥ 0))) := by
  refine Is.lim (g := fun k => slices_ContainsFunc_int_int_with_impl_areNumbers_1.f k l0 a1_0 a2_0) ?_
  · unfold slices_ContainsFunc_int_int_with_impl_areNumbers_1.f
    repeat' first
    | with_reducible exact slices_IndexFunc_int_int_with_impl_areNumbers_1.f_is _ _ _
    | with_reducible exact Is.now _
    | with_reducible refine Is.ite ?_ ?_
    | with_reducible refine Is.bind ?_ (fun _ => ?_)
noncomputable def impl_areNumbers.fv (l0 : List Int) (a1 : Int) (a2 : Int) : Option (Bool) := Lim fun k => impl_areNumbers.f k l0 a1 a2
theorem impl_areNumbers.f_is (l0 : List Int) (a1 : Int) (a2 : Int) : Is (fun k => impl_areNumbers.f k l0 a1 a2) (impl_areNumbers.fv l0 a1 a2) := ⟨fun k => impl_areNumbers.mono l0 a1 a2 k, rfl⟩
theorem impl_areNumbers.fv_eq (l0 : List Int) (a1 : Int) (a2 : Int) : impl_areNumbers.fv l0 a1 a2 = (slices_ContainsFunc_int_int_with_impl_areNumbers_1.fv l0 a1 a2).bind fun t455 => (some (!t455)) := by
  refine Is.lim (g := fun k => impl_areNumbers.f k l0 a1 a2) ?_
  · unfold impl_areNumbers.f
    repeat' first
    | with_reducible exact slices_ContainsFunc_int_int_with_impl_areNumbers_1.f_is _ _ _
    | with_reducible exact Is.now _
    | with_reducible refine Is.ite ?_ ?_
    | with_reducible refine Is.bind ?_ (fun _ => ?_)
noncomputable def impl_areTags.l0v (x0 : List Int) (x5 : List Int) (x6 : Int) (x7 : Int) : Option (Bool) := Lim fun k => impl_areTags.l0 k x0 x5 x6 x7
noncomputable def impl_areTags.fv (l0 : List Int) : Option (Bool) := Lim fun k => impl_areTags.f k l0
theorem impl_areTags.l0_is (x0 : List Int) (x5 : List Int) (x6 : Int) (x7 : Int) : Is (fun k => impl_areTags.l0 k x0 x5 x6 x7) (impl_areTags.l0v x0 x5 x6 x7) := ⟨fun k => (impl_areTags.mono_l k) x0 x5 x6 x7, rfl⟩
theorem impl_areTags.f_is (l0 : List Int) : Is (fun k => impl_areTags.f k l0) (impl_areTags.fv l0) := ⟨fun k => impl_areTags.mono l0 k, rfl⟩
theorem impl_areTags.l0v_eq (x0 : List Int) (x5 : List Int) (x6 : Int) (x7 : Int) : impl_areTags.l0v x0 x5 x6 x7 = if x7 < x6 then (if 0 ≤ x7 then (if x7 < (x5.length : Int) then (if x7 > 0 then (if 0 ≤ (wrap64 (x7 - 1)) then (if (wrap64 (x7 - 1)) < (x0.length : Int) then (if (rd x0 (wrap64 (x7 - 1))) ≥ (rd x5 x7) then (some false) else (impl_areTags.l0v x0 x5 x6 (wrap64 (x7 + 1)))) else (none)) else (none)) else (impl_areTags.l0v x0 x5 x6 (wrap64 (x7 + 1)))) else (none)) else (none)) else ((impl_areNumbers.fv x0 0 255).bind fun t458 => (some t458)) := by
  refine Is.step (impl_areTags.l0_is x0 x5 x6 x7).mo (fun k => by rw [impl_areTags.l0]) ?_
  · skip
    repeat' first
    | with_reducible exact impl_areNumbers.f_is _ _ _
    | with_reducible exact impl_areTags.l0_is _ _ _ _
    | with_reducible exact Is.now _
    | with_reducible refine Is.ite ?_ ?_
    | with_reducible refine Is.bind ?_ (fun _ => ?_)
theorem impl_areTags.fv_eq (l0 : List Int) : impl_areTags.fv l0 = impl_areTags.l0v l0 l0 (l0.length : Int) 0 := by
  refine Is.lim (g := fun k => impl_areTags.f k l0) ?_
  · unfold impl_areTags.f
    repeat' first
    | with_reducible exact impl_areTags.l0_is _ _ _ _
    | with_reducible exact Is.now _
    | with_reducible refine Is.ite ?_ ?_
    | with_reducible refine Is.bind ?_ (fun _ => ?_)
noncomputable def slices_IndexFunc_int_int_with_impl_IsReserved.l0v (x0 : List Int) (x7 : Int) (x8 : Int) : Option (Int) := Lim fun k => slices_IndexFunc_int_int_with_impl_IsReserved.l0 k x0 x7 x8
noncomputable def slices_IndexFunc_int_int_with_impl_IsReserved.fv (l0 : List Int) : Option (Int) := Lim fun k => slices_IndexFunc_int_int_with_impl_IsReserved.f k l0
theorem slices_IndexFunc_int_int_with_impl_IsReserved.l0_is (x0 : List Int) (x7 : Int) (x8 : Int) : Is (fun k => slices_IndexFunc_int_int_with_impl_IsReserved.l0 k x0 x7 x8) (slices_IndexFunc_int_int_with_impl_IsReserved.l0v x0 x7 x8) := ⟨fun k => (slices_IndexFunc_int_int_with_impl_IsReserved.mono_l k) x0 x7 x8, rfl⟩
theorem slices_IndexFunc_int_int_with_impl_IsReserved.f_is (l0 : List Int) : Is (fun k => slices_IndexFunc_int_int_with_impl_IsReserved.f k l0) (slices_IndexFunc_int_int_with_impl_IsReserved.fv l0) := ⟨fun k => slices_IndexFunc_int_int_with_impl_IsReserved.mono l0 k, rfl⟩
theorem slices_IndexFunc_int_int_with_impl_IsReserved.l0v_eq (x0 : List Int) (x7 : Int) (x8 : Int) : slices_IndexFunc_int_int_with_impl_IsReserved.l0v x0 x7 x8 = if x8 < x7 then (if 0 ≤ x8 then (if x8 < (x0.length : Int) then ((impl_IsReserved.f (rd x0 x8)).bind fun t462 => (if t462 = true then (some x8) else (slices_IndexFunc_int_int_with_impl_IsReserved.l0v x0 x7 (wrap64 (x8 + 1))))) else (none)) else (none)) else (some (-1)) := by
  refine Is.step (slices_IndexFunc_int_int_with_impl_IsReserved.l0_is x0 x7 x8).mo (fun k => by rw [slices_IndexFunc_int_int_with_impl_IsReserved.l0]) ?_
  · skip
    repeat' first
    | with_reducible exact slices_IndexFunc_int_int_with_impl_IsReserved.l0_is _ _ _
    | with_reducible exact Is.now _
    | with_reducible refine Is.ite ?_ ?_
    | with_reducible refine Is.bind ?_ (fun _ => ?_)
theorem slices_IndexFunc_int_int_with_impl_IsReserved.fv_eq (l0 : List Int) : slices_IndexFunc_int_int_with_impl_IsReserved.fv l0 = slices_IndexFunc_int_int_with_impl_IsReserved.l0v l0 (l0.length : Int) 0 := by
  refine Is.lim (g := fun k => slices_IndexFunc_int_int_with_impl_IsReserved.f k l0) ?_
  · unfold slices_IndexFunc_int_int_with_impl_IsReserved.f
    repeat' first
    | with_reducible exact slices_IndexFunc_int_int_with_impl_IsReserved.l0_is _ _ _
    | with_reducible exact Is.now _
    | with_reducible refine Is.ite ?_ ?_
    | with_reducible refine Is.bind ?_ (fun _ => ?_)
noncomputable def slices_ContainsFunc_int_int_with_impl_IsReserved.fv (l0 : List Int) : Option (Bool) := Lim fun k => slices_ContainsFunc_int_int_with_impl_IsReserved.f k l0
theorem slices_ContainsFunc_int_int_with_impl_IsReserved.f_is (l0 : List Int) : Is (fun k => slices_ContainsFunc_int_int_with_impl_IsReserved.f k l0) (slices_ContainsFunc_int_int_with_impl_IsReserved.fv l0) := ⟨fun k => slices_ContainsFunc_int_int_with_impl_IsReserved.mono l0 k, rfl⟩
theorem slices_ContainsFunc_int_int_with_impl_IsReserved.fv_eq (l0 : List Int) : slices_ContainsFunc_int_int_with_impl_IsReserved.fv l0 = (slices_IndexFunc_int_int_with_impl_IsReserved.fv l0).bind fun t463 => (some (decide (t463 ≥ 0))) := by
  refine Is.lim (g := fun k => slices_ContainsFunc_int_int_with_impl_IsReserved.f k l0) ?_
  · unfold slices_ContainsFunc_int_int_with_impl_IsReserved.f
    repeat' first
    | with_reducible exact slices_IndexFunc_int_int_with_impl_IsReserved.f_is _
    | with_reducible exact Is.now _
    | with_reducible refine Is.ite ?_ ?_
    | with_reducible refine Is.bind ?_ (fun _ => ?_)
end Go.Proofs.Ytchnkakjjbfklaa.Print

/- Written by a program of this session (limx.py): the equations of what the printed functions come to. No condition. -/
namespace Go.Proofs.Ytchnkakjjbfklaa.Print
open Go.RowKit Go.Proofs.YtchnkakjjbfklaaW.PrintWords Go.Proofs.YtchnkakjjbfklaaW.PrintLast Go.Proofs.Ytchnkakjjbfklaa.Base
set_option linter.unusedVariables false
set_option maxRecDepth 20000
noncomputable def impl_IsHardened.fv (l0 : List Int) : Option (Bool) := Lim fun k => impl_IsHardened.f k l0
theorem impl_IsHardened.f_is (l0 : List Int) : Is (fun k => impl_IsHardened.f k l0) (impl_IsHardened.fv l0) := ⟨fun k => impl_IsHardened.mono l0 k, rfl⟩
theorem impl_IsHardened.fv_eq (l0 : List Int) : impl_IsHardened.fv l0 = (slices_ContainsFunc_int_int_with_impl_IsReserved.fv l0).bind fun t464 => (some t464) := by
  refine Is.lim (g := fun k => impl_IsHardened.f k l0) ?_
  · unfold impl_IsHardened.f
    repeat' first
    | with_reducible exact slices_ContainsFunc_int_int_with_impl_IsReserved.f_is _
    | with_reducible exact Is.now _
    | with_reducible refine Is.ite ?_ ?_
    | with_reducible refine Is.bind ?_ (fun _ => ?_)
noncomputable def impl_IsBox.fv (a0_0 : Int) (l0_1 : List Int) (l0_2 : List Int) (a0_3 : Bool) : Option (Bool) := Lim fun k => impl_IsBox.f k a0_0 l0_1 l0_2 a0_3
theorem impl_IsBox.f_is (a0_0 : Int) (l0_1 : List Int) (l0_2 : List Int) (a0_3 : Bool) : Is (fun k => impl_IsBox.f k a0_0 l0_1 l0_2 a0_3) (impl_IsBox.fv a0_0 l0_1 l0_2 a0_3) := ⟨fun k => impl_IsBox.mono a0_0 l0_1 l0_2 a0_3 k, rfl⟩
theorem impl_IsBox.fv_eq (a0_0 : Int) (l0_1 : List Int) (l0_2 : List Int) (a0_3 : Bool) : impl_IsBox.fv a0_0 l0_1 l0_2 a0_3 = (impl_InRange.f a0_0 0 9).bind fun t466 => (if t466 = true then (if (l0_1.length : Int) ≤ 6 then (if (l0_2.length : Int) ≤ 6 then ((impl_areNumbers.fv l0_1 0 255).bind fun t467 => (if t467 = true then ((impl_areNumbers.fv l0_2 0 255).bind fun t468 => (some t468)) else (some false))) else (some false)) else (some false)) else (some false)) := by
  refine Is.lim (g := fun k => impl_IsBox.f k a0_0 l0_1 l0_2 a0_3) ?_
  · unfold impl_IsBox.f
    repeat' first
    | with_reducible exact impl_areNumbers.f_is _ _ _
    | with_reducible exact Is.now _
    | with_reducible refine Is.ite ?_ ?_
    | with_reducible refine Is.bind ?_ (fun _ => ?_)
noncomputable def impl_IsEndpoint_1.fv (a0_0 : Int) (l0_1 : List Int) (l0_2 : List Int) (a0_3 : Bool) : Option (Bool) := Lim fun k => impl_IsEndpoint_1.f k a0_0 l0_1 l0_2 a0_3
theorem impl_IsEndpoint_1.f_is (a0_0 : Int) (l0_1 : List Int) (l0_2 : List Int) (a0_3 : Bool) : Is (fun k => impl_IsEndpoint_1.f k a0_0 l0_1 l0_2 a0_3) (impl_IsEndpoint_1.fv a0_0 l0_1 l0_2 a0_3) := ⟨fun k => impl_IsEndpoint_1.mono a0_0 l0_1 l0_2 a0_3 k, rfl⟩
theorem impl_IsEndpoint_1.fv_eq (a0_0 : Int) (l0_1 : List Int) (l0_2 : List Int) (a0_3 : Bool) : impl_IsEndpoint_1.fv a0_0 l0_1 l0_2 a0_3 = (impl_IsBox.fv a0_0 l0_1 l0_2 a0_3).bind fun t470 => (some (!t470)) := by
  refine Is.lim (g := fun k => impl_IsEndpoint_1.f k a0_0 l0_1 l0_2 a0_3) ?_
  · unfold impl_IsEndpoint_1.f
    repeat' first
    | with_reducible exact impl_IsBox.f_is _ _ _ _
    | with_reducible exact Is.now _
    | with_reducible refine Is.ite ?_ ?_
    | with_reducible refine Is.bind ?_ (fun _ => ?_)
noncomputable def slices_IndexFunc_impl_Box_impl_Box_with_impl_IsEndpoint_1.l0v (x0 : List (S95)) (x7 : Int) (x8 : Int) : Option (Int) := Lim fun k => slices_IndexFunc_impl_Box_impl_Box_with_impl_IsEndpoint_1.l0 k x0 x7 x8
noncomputable def slices_IndexFunc_impl_Box_impl_Box_with_impl_IsEndpoint_1.fv (l0 : List (S95)) : Option (Int) := Lim fun k => slices_IndexFunc_impl_Box_impl_Box_with_impl_IsEndpoint_1.f k l0
theorem slices_IndexFunc_impl_Box_impl_Box_with_impl_IsEndpoint_1.l0_is (x0 : List (S95)) (x7 : Int) (x8 : Int) : Is (fun k => slices_IndexFunc_impl_Box_impl_Box_with_impl_IsEndpoint_1.l0 k x0 x7 x8) (slices_IndexFunc_impl_Box_impl_Box_with_impl_IsEndpoint_1.l0v x0 x7 x8) := ⟨fun k => (slices_IndexFunc_impl_Box_impl_Box_with_impl_IsEndpoint_1.mono_l k) x0 x7 x8, rfl⟩
theorem slices_IndexFunc_impl_Box_impl_Box_with_impl_IsEndpoint_1.f_is (l0 : List (S95)) : Is (fun k => slices_IndexFunc_impl_Box_impl_Box_with_impl_IsEndpoint_1.f k l0) (slices_IndexFunc_impl_Box_impl_Box_with_impl_IsEndpoint_1.fv l0) := ⟨fun k => slices_IndexFunc_impl_Box_impl_Box_with_impl_IsEndpoint_1.mono l0 k, rfl⟩
theorem slices_IndexFunc_impl_Box_impl_Box_with_impl_IsEndpoint_1.l0v_eq (x0 : List (S95)) (x7 : Int) (x8 : Int) : slices_IndexFunc_impl_Box_impl_Box_with_impl_IsEndpoint_1.l0v x0 x7 x8 = if x8 < x7 then (if 0 ≤ x8 then (if x8 < (x0.length : Int) then ((impl_IsEndpoint_1.fv ((rd_T95 x0 x8).f0) ((rd_T95 x0 x8).f1) ((rd_T95 x0 x8).f2) ((rd_T95 x0 x8).f3)).bind fun t472 => (if t472 = true then (some x8) else (slices_IndexFunc_impl_Box_impl_Box_with_impl_IsEndpoint_1.l0v x0 x7 (wrap64 (x8 + 1))))) else (none)) else (none)) else (some (-1)) := by
  refine Is.step (slices_IndexFunc_impl_Box_impl_Box_with_impl_IsEndpoint_1.l0_is x0 x7 x8).mo (fun k => by rw [slices_IndexFunc_impl_Box_impl_Box_with_impl_IsEndpoint_1.l0]) ?_
  · skip
    repeat' first
    | with_reducible exact impl_IsEndpoint_1.f_is _ _ _ _
    | with_reducible exact slices_IndexFunc_impl_Box_impl_Box_with_impl_IsEndpoint_1.l0_is _ _ _
    | with_reducible exact Is.now _
    | with_reducible refine Is.ite ?_ ?_
    | with_reducible refine Is.bind ?_ (fun _ => ?_)
theorem slices_IndexFunc_impl_Box_impl_Box_with_impl_IsEndpoint_1.fv_eq (l0 : List (S95)) : slices_IndexFunc_impl_Box_impl_Box_with_impl_IsEndpoint_1.fv l0 = slices_IndexFunc_impl_Box_impl_Box_with_impl_IsEndpoint_1.l0v l0 (l0.length : Int) 0 := by
  refine Is.lim (g := fun k => slices_IndexFunc_impl_Box_impl_Box_with_impl_IsEndpoint_1.f k l0) ?_
  · unfold slices_IndexFunc_impl_Box_impl_Box_with_impl_IsEndpoint_1.f
    repeat' first
    | with_reducible exact slices_IndexFunc_impl_Box_impl_Box_with_impl_IsEndpoint_1.l0_is _ _ _
    | with_reducible exact Is.now _
    | with_reducible refine Is.ite ?_ ?_
    | with_reducible refine Is.bind ?_ (fun _ => ?_)
noncomputable def slices_ContainsFunc_impl_Box_impl_Box_with_impl_IsEndpoint_1.fv (l0 : List (S95)) : Option (Bool) := Lim fun k => slices_ContainsFunc_impl_Box_impl_Box_with_impl_IsEndpoint_1.f k l0
theorem slices_ContainsFunc_impl_Box_impl_Box_with_impl_IsEndpoint_1.f_is (l0 : List (S95)) : Is (fun k => slices_ContainsFunc_impl_Box_impl_Box_with_impl_IsEndpoint_1.f k l0) (slices_ContainsFunc_impl_Box_impl_Box_with_impl_IsEndpoint_1.fv l0) := ⟨fun k => slices_ContainsFunc_impl_Box_impl_Box_with_impl_IsEndpoint_1.mono l0 k, rfl⟩
theorem slices_ContainsFunc_impl_Box_impl_Box_with_impl_IsEndpoint_1.fv_eq (l0 : List (S95)) : slices_ContainsFunc_impl_Box_impl_Box_with_impl_IsEndpoint_1.fv l0 = (slices_IndexFunc_impl_Box_impl_Box_with_impl_IsEndpoint_1.fv l0).bind fun t473 => (some (decide (t473 ≥ 0))) := by
  refine Is.lim (g := fun k => slices_ContainsFunc_impl_Box_impl_Box_with_impl_IsEndpoint_1.f k l0) ?_
  · unfold slices_ContainsFunc_impl_Box_impl_Box_with_impl_IsEndpoint_1.f
    repeat' first
    | with_reducible exact slices_IndexFunc_impl_Box_impl_Box_with_impl_IsEndpoint_1.f_is _
    | with_reducible exact Is.now _
    | with_reducible refine Is.ite ?_ ?_
    | with_reducible refine Is.bind ?_ (fun _ => ?_)
noncomputable def impl_IsEndpoint.fv (l0_0 : List Int) (l0_1 : List Int) (l0_2 : List (S95)) (a0_3 : Int) : Option (Bool) := Lim fun k => impl_IsEndpoint.f k l0_0 l0_1 l0_2 a0_3
theorem impl_IsEndpoint.f_is (l0_0 : List Int) (l0_1 : List Int) (l0_2 : List (S95)) (a0_3 : Int) : Is (fun k => impl_IsEndpoint.f k l0_0 l0_1 l0_2 a0_3) (impl_IsEndpoint.fv l0_0 l0_1 l0_2 a0_3) := ⟨fun k => impl_IsEndpoint.mono l0_0 l0_1 l0_2 a0_3 k, rfl⟩
theorem impl_IsEndpoint.fv_eq (l0_0 : List Int) (l0_1 : List Int) (l0_2 : List (S95)) (a0_3 : Int) : impl_IsEndpoint.fv l0_0 l0_1 l0_2 a0_3 = (impl_AreVersions.fv l0_0).bind fun t475 => (if t475 = true then (if (l0_1.length : Int) ≤ 5 then ((impl_areTags.fv l0_1).bind fun t476 => (if t476 = true then ((impl_IsHardened.fv l0_1).bind fun t477 => (if t477 = true then (some false) else (if (l0_2.length : Int) ≤ 4 then ((slices_ContainsFunc_impl_Box_impl_Box_with_impl_IsEndpoint_1.fv l0_2).bind fun t478 => (if t478 = true then (some false) else ((impl_InRange.f a0_3 0 5).bind fun t479 => (some t479)))) else (some false)))) else (some false))) else (some false)) else (some false)) := by
  refine Is.lim (g := fun k => impl_IsEndpoint.f k l0_0 l0_1 l0_2 a0_3) ?_
  · unfold impl_IsEndpoint.f
    repeat' first
    | with_reducible exact impl_AreVersions.f_is _
    | with_reducible exact impl_IsHardened.f_is _
    | with_reducible exact impl_areTags.f_is _
    | with_reducible exact slices_ContainsFunc_impl_Box_impl_Box_with_impl_IsEndpoint_1.f_is _
    | with_reducible exact Is.now _
    | with_reducible refine Is.ite ?_ ?_
    | with_reducible refine Is.bind ?_ (fun _ => ?_)
noncomputable def impl_IsRollout.l0v (x6 : List Int) (x7 : Int) (x8 : Int) (x481000 : Int) (x481001 : List Int) (x481002 : Int) (x481003 : Bool) : Option (Bool) := Lim fun k => impl_IsRollout.l0 k x6 x7 x8 x481000 x481001 x481002 x481003
noncomputable def impl_IsRollout.fv (a0_0 : Int) (l0_1 : List Int) (a0_2 : Int) (a0_3 : Bool) : Option (Bool) := Lim fun k => impl_IsRollout.f k a0_0 l0_1 a0_2 a0_3
theorem impl_IsRollout.l0_is (x6 : List Int) (x7 : Int) (x8 : Int) (x481000 : Int) (x481001 : List Int) (x481002 : Int) (x481003 : Bool) : Is (fun k => impl_IsRollout.l0 k x6 x7 x8 x481000 x481001 x481002 x481003) (impl_IsRollout.l0v x6 x7 x8 x481000 x481001 x481002 x481003) := ⟨fun k => (impl_IsRollout.mono_l k) x6 x7 x8 x481000 x481001 x481002 x481003, rfl⟩
theorem impl_IsRollout.f_is (a0_0 : Int) (l0_1 : List Int) (a0_2 : Int) (a0_3 : Bool) : Is (fun k => impl_IsRollout.f k a0_0 l0_1 a0_2 a0_3) (impl_IsRollout.fv a0_0 l0_1 a0_2 a0_3) := ⟨fun k => impl_IsRollout.mono a0_0 l0_1 a0_2 a0_3 k, rfl⟩
theorem impl_IsRollout.l0v_eq (x6 : List Int) (x7 : Int) (x8 : Int) (x481000 : Int) (x481001 : List Int) (x481002 : Int) (x481003 : Bool) : impl_IsRollout.l0v x6 x7 x8 x481000 x481001 x481002 x481003 = if x8 < x7 then (if 0 ≤ x8 then (if x8 < (x6.length : Int) then ((impl_InRange.f (rd x6 x8) 1 100).bind fun t482 => (if t482 = true then (if x8 > 0 then (if 0 ≤ (wrap64 (x8 - 1)) then (if (wrap64 (x8 - 1)) < (x481001.length : Int) then (if (rd x481001 (wrap64 (x8 - 1))) ≥ (rd x6 x8) then (some false) else (impl_IsRollout.l0v x6 x7 (wrap64 (x8 + 1)) x481000 x481001 x481002 x481003)) else (none)) else (none)) else (impl_IsRollout.l0v x6 x7 (wrap64 (x8 + 1)) x481000 x481001 x481002 x481003)) else (some false))) else (none)) else (none)) else ((impl_InRange.f x481000 1 9).bind fun t484 => (if t484 = true then ((impl_InRange.f (x481001.length : Int) 1 5).bind fun t485 => (if t485 = true then (if 0 ≤ (wrap64 ((x481001.length : Int) - 1)) then (if (wrap64 ((x481001.length : Int) - 1)) < (x481001.length : Int) then (if (rd x481001 (wrap64 ((x481001.length : Int) - 1))) = 100 then ((impl_InRange.f x481002 0 (wrap64 ((x481001.length : Int) - 1))).bind fun t487 => (some t487)) else (some false)) else (none)) else (none)) else (some false))) else (some false))) := by
  refine Is.step (impl_IsRollout.l0_is x6 x7 x8 x481000 x481001 x481002 x481003).mo (fun k => by rw [impl_IsRollout.l0]) ?_
  · skip
    repeat' first
    | with_reducible exact impl_IsRollout.l0_is _ _ _ _ _ _ _
    | with_reducible exact Is.now _
    | with_reducible refine Is.ite ?_ ?_
    | with_reducible refine Is.bind ?_ (fun _ => ?_)
theorem impl_IsRollout.fv_eq (a0_0 : Int) (l0_1 : List Int) (a0_2 : Int) (a0_3 : Bool) : impl_IsRollout.fv a0_0 l0_1 a0_2 a0_3 = impl_IsRollout.l0v l0_1 (l0_1.length : Int) 0 a0_0 l0_1 a0_2 a0_3 := by
  refine Is.lim (g := fun k => impl_IsRollout.f k a0_0 l0_1 a0_2 a0_3) ?_
  · unfold impl_IsRollout.f
    repeat' first
    | with_reducible exact impl_IsRollout.l0_is _ _ _ _ _ _ _
    | with_reducible exact Is.now _
    | with_reducible refine Is.ite ?_ ?_
    | with_reducible refine Is.bind ?_ (fun _ => ?_)
noncomputable def impl_IsWorld_1.fv (l0_0 : List Int) (l0_1 : List Int) (l0_2 : List (S95)) (a0_3 : Int) : Option (Bool) := Lim fun k => impl_IsWorld_1.f k l0_0 l0_1 l0_2 a0_3
theorem impl_IsWorld_1.f_is (l0_0 : List Int) (l0_1 : List Int) (l0_2 : List (S95)) (a0_3 : Int) : Is (fun k => impl_IsWorld_1.f k l0_0 l0_1 l0_2 a0_3) (impl_IsWorld_1.fv l0_0 l0_1 l0_2 a0_3) := ⟨fun k => impl_IsWorld_1.mono l0_0 l0_1 l0_2 a0_3 k, rfl⟩
theorem impl_IsWorld_1.fv_eq (l0_0 : List Int) (l0_1 : List Int) (l0_2 : List (S95)) (a0_3 : Int) : impl_IsWorld_1.fv l0_0 l0_1 l0_2 a0_3 = (impl_IsEndpoint.fv l0_0 l0_1 l0_2 a0_3).bind fun t489 => (some (!t489)) := by
  refine Is.lim (g := fun k => impl_IsWorld_1.f k l0_0 l0_1 l0_2 a0_3) ?_
  · unfold impl_IsWorld_1.f
    repeat' first
    | with_reducible exact impl_IsEndpoint.f_is _ _ _ _
    | with_reducible exact Is.now _
    | with_reducible refine Is.ite ?_ ?_
    | with_reducible refine Is.bind ?_ (fun _ => ?_)
end Go.Proofs.Ytchnkakjjbfklaa.Print

/- Written by a program of this session (limx.py): the equations of what the printed functions come to. No condition. -/
namespace Go.Proofs.Ytchnkakjjbfklaa.Print
open Go.RowKit Go.Proofs.YtchnkakjjbfklaaW.PrintWords Go.Proofs.YtchnkakjjbfklaaW.PrintLast Go.Proofs.Ytchnkakjjbfklaa.Base
set_option linter.unusedVariables false
set_option maxRecDepth 20000
noncomputable def spec_AllReach.l0v (x0 : List Int) (x1 : List (List Int)) (x5 : Int) : Option (Bool) := Lim fun k => spec_AllReach.l0 k x0 x1 x5
noncomputable def spec_AllReach.fv (l0 : List Int) (l1 : List (List Int)) : Option (Bool) := Lim fun k => spec_AllReach.f k l0 l1
theorem spec_AllReach.l0_is (x0 : List Int) (x1 : List (List Int)) (x5 : Int) : Is (fun k => spec_AllReach.l0 k x0 x1 x5) (spec_AllReach.l0v x0 x1 x5) := ⟨fun k => (spec_AllReach.mono_l k) x0 x1 x5, rfl⟩
theorem spec_AllReach.f_is (l0 : List Int) (l1 : List (List Int)) : Is (fun k => spec_AllReach.f k l0 l1) (spec_AllReach.fv l0 l1) := ⟨fun k => spec_AllReach.mono l0 l1 k, rfl⟩
theorem spec_AllReach.l0v_eq (x0 : List Int) (x1 : List (List Int)) (x5 : Int) : spec_AllReach.l0v x0 x1 x5 = if x5 < (x1.length : Int) then (if 0 ≤ x5 then ((spec_BestCommon.fv x0 (rd_L1 x1 x5)).bind fun t375 => (if t375 = 0 then (some false) else (spec_AllReach.l0v x0 x1 (wrap64 (x5 + 1))))) else (none)) else ((spec_AreVersions.fv x0).bind fun t376 => (some t376)) := by
  refine Is.step (spec_AllReach.l0_is x0 x1 x5).mo (fun k => by rw [spec_AllReach.l0]) ?_
  · skip
    repeat' first
    | with_reducible exact spec_AllReach.l0_is _ _ _
    | with_reducible exact spec_AreVersions.f_is _
    | with_reducible exact spec_BestCommon.f_is _ _
    | with_reducible exact Is.now _
    | with_reducible refine Is.ite ?_ ?_
    | with_reducible refine Is.bind ?_ (fun _ => ?_)
theorem spec_AllReach.fv_eq (l0 : List Int) (l1 : List (List Int)) : spec_AllReach.fv l0 l1 = spec_AllReach.l0v l0 l1 0 := by
  refine Is.lim (g := fun k => spec_AllReach.f k l0 l1) ?_
  · unfold spec_AllReach.f
    repeat' first
    | with_reducible exact spec_AllReach.l0_is _ _ _
    | with_reducible exact Is.now _
    | with_reducible refine Is.ite ?_ ?_
    | with_reducible refine Is.bind ?_ (fun _ => ?_)
noncomputable def spec_ListsOf.l0v (x3 : List (List Int)) (x4 : Int) (x378000 : List Int) (x378001 : List Int) (x378002 : Int) (x378003 : List (S50)) (x378004 : Int) (x378005 : List Int) (x378006 : Int) (x378007 : Bool) (x378008 : Int) (x378009 : Int) (x378010 : List (S55)) (x378011 : List (S57)) (x378012 : Int) (x378013 : Int) (x378014 : Int) : Option ((List (List Int))) := Lim fun k => spec_ListsOf.l0 k x3 x4 x378000 x378001 x378002 x378003 x378004 x378005 x378006 x378007 x378008 x378009 x378010 x378011 x378012 x378013 x378014
noncomputable def spec_ListsOf.fv (l0_0 : List Int) (l0_1 : List Int) (a0_2 : Int) (l0_3 : List (S50)) (a0_4 : Int) (l0_5 : List Int) (a0_6 : Int) (a0_7 : Bool) (a0_8 : Int) (a0_9 : Int) (l0_10 : List (S55)) (l0_11 : List (S57)) (a0_12 : Int) (a0_13 : Int) (a0_14 : Int) : Option ((List (List Int))) := Lim fun k => spec_ListsOf.f k l0_0 l0_1 a0_2 l0_3 a0_4 l0_5 a0_6 a0_7 a0_8 a0_9 l0_10 l0_11 a0_12 a0_13 a0_14
theorem spec_ListsOf.l0_is (x3 : List (List Int)) (x4 : Int) (x378000 : List Int) (x378001 : List Int) (x378002 : Int) (x378003 : List (S50)) (x378004 : Int) (x378005 : List Int) (x378006 : Int) (x378007 : Bool) (x378008 : Int) (x378009 : Int) (x378010 : List (S55)) (x378011 : List (S57)) (x378012 : Int) (x378013 : Int) (x378014 : Int) : Is (fun k => spec_ListsOf.l0 k x3 x4 x378000 x378001 x378002 x378003 x378004 x378005 x378006 x378007 x378008 x378009 x378010 x378011 x378012 x378013 x378014) (spec_ListsOf.l0v x3 x4 x378000 x378001 x378002 x378003 x378004 x378005 x378006 x378007 x378008 x378009 x378010 x378011 x378012 x378013 x378014) := ⟨fun k => (spec_ListsOf.mono_l k) x3 x4 x378000 x378001 x378002 x378003 x378004 x378005 x378006 x378007 x378008 x378009 x378010 x378011 x378012 x378013 x378014, rfl⟩
theorem spec_ListsOf.f_is (l0_0 : List Int) (l0_1 : List Int) (a0_2 : Int) (l0_3 : List (S50)) (a0_4 : Int) (l0_5 : List Int) (a0_6 : Int) (a0_7 : Bool) (a0_8 : Int) (a0_9 : Int) (l0_10 : List (S55)) (l0_11 : List (S57)) (a0_12 : Int) (a0_13 : Int) (a0_14 : Int) : Is (fun k => spec_ListsOf.f k l0_0 l0_1 a0_2 l0_3 a0_4 l0_5 a0_6 a0_7 a0_8 a0_9 l0_10 l0_11 a0_12 a0_13 a0_14) (spec_ListsOf.fv l0_0 l0_1 a0_2 l0_3 a0_4 l0_5 a0_6 a0_7 a0_8 a0_9 l0_10 l0_11 a0_12 a0_13 a0_14) := ⟨fun k => spec_ListsOf.mono l0_0 l0_1 a0_2 l0_3 a0_4 l0_5 a0_6 a0_7 a0_8 a0_9 l0_10 l0_11 a0_12 a0_13 a0_14 k, rfl⟩
theorem spec_ListsOf.l0v_eq (x3 : List (List Int)) (x4 : Int) (x378000 : List Int) (x378001 : List Int) (x378002 : Int) (x378003 : List (S50)) (x378004 : Int) (x378005 : List Int) (x378006 : Int) (x378007 : Bool) (x378008 : Int) (x378009 : Int) (x378010 : List (S55)) (x378011 : List (S57)) (x378012 : Int) (x378013 : Int) (x378014 : Int) : spec_ListsOf.l0v x3 x4 x378000 x378001 x378002 x378003 x378004 x378005 x378006 x378007 x378008 x378009 x378010 x378011 x378012 x378013 x378014 = if x4 < (x378003.length : Int) then ((some (([] : List Int) : List Int)).bind fun y381 => (if 0 ≤ x4 then (if y381.length + ((rd_T50 x378003 x4).f0).length < 17592186044416 then (if x3.length < 5864062014805 then (spec_ListsOf.l0v (x3 ++ [(y381 ++ ((rd_T50 x378003 x4).f0))]) (wrap64 (x4 + 1)) x378000 x378001 x378002 x378003 x378004 x378005 x378006 x378007 x378008 x378009 x378010 x378011 x378012 x378013 x378014) else (none)) else (none)) else (none))) else (some x3) := by
  refine Is.step (spec_ListsOf.l0_is x3 x4 x378000 x378001 x378002 x378003 x378004 x378005 x378006 x378007 x378008 x378009 x378010 x378011 x378012 x378013 x378014).mo (fun k => by rw [spec_ListsOf.l0]) ?_
  · skip
    repeat' first
    | with_reducible exact spec_ListsOf.l0_is _ _ _ _ _ _ _ _ _ _ _ _ _ _ _ _ _
    | with_reducible exact Is.now _
    | with_reducible refine Is.ite ?_ ?_
    | with_reducible refine Is.bind ?_ (fun _ => ?_)
theorem spec_ListsOf.fv_eq (l0_0 : List Int) (l0_1 : List Int) (a0_2 : Int) (l0_3 : List (S50)) (a0_4 : Int) (l0_5 : List Int) (a0_6 : Int) (a0_7 : Bool) (a0_8 : Int) (a0_9 : Int) (l0_10 : List (S55)) (l0_11 : List (S57)) (a0_12 : Int) (a0_13 : Int) (a0_14 : Int) : spec_ListsOf.fv l0_0 l0_1 a0_2 l0_3 a0_4 l0_5 a0_6 a0_7 a0_8 a0_9 l0_10 l0_11 a0_12 a0_13 a0_14 = spec_ListsOf.l0v (([] : List (List Int))) 0 l0_0 l0_1 a0_2 l0_3 a0_4 l0_5 a0_6 a0_7 a0_8 a0_9 l0_10 l0_11 a0_12 a0_13 a0_14 := by
  refine Is.lim (g := fun k => spec_ListsOf.f k l0_0 l0_1 a0_2 l0_3 a0_4 l0_5 a0_6 a0_7 a0_8 a0_9 l0_10 l0_11 a0_12 a0_13 a0_14) ?_
  · unfold spec_ListsOf.f
    repeat' first
    | with_reducible exact spec_ListsOf.l0_is _ _ _ _ _ _ _ _ _ _ _ _ _ _ _ _ _
    | with_reducible exact Is.now _
    | with_reducible refine Is.ite ?_ ?_
    | with_reducible refine Is.bind ?_ (fun _ => ?_)
end Go.Proofs.Ytchnkakjjbfklaa.Print

/- Written by a program of this session (limx.py): the equations of what the printed functions come to. No condition. -/
namespace Go.Proofs.Ytchnkakjjbfklaa.Print
open Go.RowKit Go.Proofs.YtchnkakjjbfklaaW.PrintWords Go.Proofs.YtchnkakjjbfklaaW.PrintLast Go.Proofs.Ytchnkakjjbfklaa.Base
set_option linter.unusedVariables false
set_option maxRecDepth 20000
noncomputable def spec_l9Byte.l0v (x0 : List Int) (x3 : Int) : Option (Bool) := Lim fun k => spec_l9Byte.l0 k x0 x3
noncomputable def spec_l9Byte.fv (l0 : List Int) : Option (Bool) := Lim fun k => spec_l9Byte.f k l0
theorem spec_l9Byte.l0_is (x0 : List Int) (x3 : Int) : Is (fun k => spec_l9Byte.l0 k x0 x3) (spec_l9Byte.l0v x0 x3) := ⟨fun k => (spec_l9Byte.mono_l k) x0 x3, rfl⟩
theorem spec_l9Byte.f_is (l0 : List Int) : Is (fun k => spec_l9Byte.f k l0) (spec_l9Byte.fv l0) := ⟨fun k => spec_l9Byte.mono l0 k, rfl⟩
theorem spec_l9Byte.l0v_eq (x0 : List Int) (x3 : Int) : spec_l9Byte.l0v x0 x3 = if x3 < (x0.length : Int) then (if 0 ≤ x3 then ((spec_l1In.f (rd x0 x3) 0 255).bind fun t328 => (if t328 = true then (spec_l9Byte.l0v x0 (wrap64 (x3 + 1))) else (some false))) else (none)) else (some true) := by
  refine Is.step (spec_l9Byte.l0_is x0 x3).mo (fun k => by rw [spec_l9Byte.l0]) ?_
  · skip
    repeat' first
    | with_reducible exact spec_l9Byte.l0_is _ _
    | with_reducible exact Is.now _
    | with_reducible refine Is.ite ?_ ?_
    | with_reducible refine Is.bind ?_ (fun _ => ?_)
theorem spec_l9Byte.fv_eq (l0 : List Int) : spec_l9Byte.fv l0 = spec_l9Byte.l0v l0 0 := by
  refine Is.lim (g := fun k => spec_l9Byte.f k l0) ?_
  · unfold spec_l9Byte.f
    repeat' first
    | with_reducible exact spec_l9Byte.l0_is _ _
    | with_reducible exact Is.now _
    | with_reducible refine Is.ite ?_ ?_
    | with_reducible refine Is.bind ?_ (fun _ => ?_)
noncomputable def spec_IsBox.fv (a0_0 : Int) (l0_1 : List Int) (l0_2 : List Int) (a0_3 : Bool) : Option (Bool) := Lim fun k => spec_IsBox.f k a0_0 l0_1 l0_2 a0_3
theorem spec_IsBox.f_is (a0_0 : Int) (l0_1 : List Int) (l0_2 : List Int) (a0_3 : Bool) : Is (fun k => spec_IsBox.f k a0_0 l0_1 l0_2 a0_3) (spec_IsBox.fv a0_0 l0_1 l0_2 a0_3) := ⟨fun k => spec_IsBox.mono a0_0 l0_1 l0_2 a0_3 k, rfl⟩
theorem spec_IsBox.fv_eq (a0_0 : Int) (l0_1 : List Int) (l0_2 : List Int) (a0_3 : Bool) : spec_IsBox.fv a0_0 l0_1 l0_2 a0_3 = (spec_l1In.f a0_0 0 9).bind fun t330 => (if t330 = true then (if (l0_1.length : Int) ≤ 6 then (if (l0_2.length : Int) ≤ 6 then ((spec_l9Byte.fv l0_1).bind fun t331 => (if t331 = true then ((spec_l9Byte.fv l0_2).bind fun t332 => (some t332)) else (some false))) else (some false)) else (some false)) else (some false)) := by
  refine Is.lim (g := fun k => spec_IsBox.f k a0_0 l0_1 l0_2 a0_3) ?_
  · unfold spec_IsBox.f
    repeat' first
    | with_reducible exact spec_l9Byte.f_is _
    | with_reducible exact Is.now _
    | with_reducible refine Is.ite ?_ ?_
    | with_reducible refine Is.bind ?_ (fun _ => ?_)
noncomputable def spec_IsEndpoint.l0v (x3 : Int) (x334000 : List Int) (x334001 : List Int) (x334002 : List (S95)) (x334003 : Int) : Option (Bool) := Lim fun k => spec_IsEndpoint.l0 k x3 x334000 x334001 x334002 x334003
noncomputable def spec_IsEndpoint.l1v (x4 : Int) (x334000 : List Int) (x334001 : List Int) (x334002 : List (S95)) (x334003 : Int) : Option (Bool) := Lim fun k => spec_IsEndpoint.l1 k x4 x334000 x334001 x334002 x334003
noncomputable def spec_IsEndpoint.fv (l0_0 : List Int) (l0_1 : List Int) (l0_2 : List (S95)) (a0_3 : Int) : Option (Bool) := Lim fun k => spec_IsEndpoint.f k l0_0 l0_1 l0_2 a0_3
theorem spec_IsEndpoint.l0_is (x3 : Int) (x334000 : List Int) (x334001 : List Int) (x334002 : List (S95)) (x334003 : Int) : Is (fun k => spec_IsEndpoint.l0 k x3 x334000 x334001 x334002 x334003) (spec_IsEndpoint.l0v x3 x334000 x334001 x334002 x334003) := ⟨fun k => (spec_IsEndpoint.mono_l k).1 x3 x334000 x334001 x334002 x334003, rfl⟩
theorem spec_IsEndpoint.l1_is (x4 : Int) (x334000 : List Int) (x334001 : List Int) (x334002 : List (S95)) (x334003 : Int) : Is (fun k => spec_IsEndpoint.l1 k x4 x334000 x334001 x334002 x334003) (spec_IsEndpoint.l1v x4 x334000 x334001 x334002 x334003) := ⟨fun k => (spec_IsEndpoint.mono_l k).2 x4 x334000 x334001 x334002 x334003, rfl⟩
theorem spec_IsEndpoint.f_is (l0_0 : List Int) (l0_1 : List Int) (l0_2 : List (S95)) (a0_3 : Int) : Is (fun k => spec_IsEndpoint.f k l0_0 l0_1 l0_2 a0_3) (spec_IsEndpoint.fv l0_0 l0_1 l0_2 a0_3) := ⟨fun k => spec_IsEndpoint.mono l0_0 l0_1 l0_2 a0_3 k, rfl⟩
theorem spec_IsEndpoint.l0v_eq (x3 : Int) (x334000 : List Int) (x334001 : List Int) (x334002 : List (S95)) (x334003 : Int) : spec_IsEndpoint.l0v x3 x334000 x334001 x334002 x334003 = if x3 < (x334001.length : Int) then (if 0 ≤ x3 then ((spec_l1In.f (rd x334001 x3) 0 255).bind fun t335 => (if t335 = true then ((spec_IsReserved.f (rd x334001 x3)).bind fun t337 => (if t337 = true then (some false) else (if x3 > 0 then (if 0 ≤ (wrap64 (x3 - 1)) then (if (wrap64 (x3 - 1)) < (x334001.length : Int) then (if (rd x334001 (wrap64 (x3 - 1))) ≥ (rd x334001 x3) then (some false) else (spec_IsEndpoint.l0v (wrap64 (x3 + 1)) x334000 x334001 x334002 x334003)) else (none)) else (none)) else (spec_IsEndpoint.l0v (wrap64 (x3 + 1)) x334000 x334001 x334002 x334003)))) else (some false))) else (none)) else (spec_IsEndpoint.l1v 0 x334000 x334001 x334002 x334003) := by
  refine Is.step (spec_IsEndpoint.l0_is x3 x334000 x334001 x334002 x334003).mo (fun k => by rw [spec_IsEndpoint.l0]) ?_
  · skip
    repeat' first
    | with_reducible exact spec_IsEndpoint.l0_is _ _ _ _ _
    | with_reducible exact spec_IsEndpoint.l1_is _ _ _ _ _
    | with_reducible exact Is.now _
    | with_reducible refine Is.ite ?_ ?_
    | with_reducible refine Is.bind ?_ (fun _ => ?_)
theorem spec_IsEndpoint.l1v_eq (x4 : Int) (x334000 : List Int) (x334001 : List Int) (x334002 : List (S95)) (x334003 : Int) : spec_IsEndpoint.l1v x4 x334000 x334001 x334002 x334003 = if x4 < (x334002.length : Int) then (if 0 ≤ x4 then ((spec_IsBox.fv ((rd_T95 x334002 x4).f0) ((rd_T95 x334002 x4).f1) ((rd_T95 x334002 x4).f2) ((rd_T95 x334002 x4).f3)).bind fun t341 => (if t341 = true then (spec_IsEndpoint.l1v (wrap64 (x4 + 1)) x334000 x334001 x334002 x334003) else (some false))) else (none)) else ((spec_AreVersions.fv x334000).bind fun t342 => (if t342 = true then (if (x334001.length : Int) ≤ 5 then (if (x334002.length : Int) ≤ 4 then ((spec_l1In.f x334003 0 5).bind fun t343 => (some t343)) else (some false)) else (some false)) else (some false))) := by
  refine Is.step (spec_IsEndpoint.l1_is x4 x334000 x334001 x334002 x334003).mo (fun k => by rw [spec_IsEndpoint.l1]) ?_
  · skip
    repeat' first
    | with_reducible exact spec_AreVersions.f_is _
    | with_reducible exact spec_IsBox.f_is _ _ _ _
    | with_reducible exact spec_IsEndpoint.l1_is _ _ _ _ _
    | with_reducible exact Is.now _
    | with_reducible refine Is.ite ?_ ?_
    | with_reducible refine Is.bind ?_ (fun _ => ?_)
theorem spec_IsEndpoint.fv_eq (l0_0 : List Int) (l0_1 : List Int) (l0_2 : List (S95)) (a0_3 : Int) : spec_IsEndpoint.fv l0_0 l0_1 l0_2 a0_3 = spec_IsEndpoint.l0v 0 l0_0 l0_1 l0_2 a0_3 := by
  refine Is.lim (g := fun k => spec_IsEndpoint.f k l0_0 l0_1 l0_2 a0_3) ?_
  · unfold spec_IsEndpoint.f
    repeat' first
    | with_reducible exact spec_IsEndpoint.l0_is _ _ _ _ _
    | with_reducible exact Is.now _
    | with_reducible refine Is.ite ?_ ?_
    | with_reducible refine Is.bind ?_ (fun _ => ?_)
end Go.Proofs.Ytchnkakjjbfklaa.Print

/- Written by a program of this session (limx.py): the equations of what the printed functions come to. No condition. -/
namespace Go.Proofs.Ytchnkakjjbfklaa.Print
open Go.RowKit Go.Proofs.YtchnkakjjbfklaaW.PrintWords Go.Proofs.YtchnkakjjbfklaaW.PrintLast Go.Proofs.Ytchnkakjjbfklaa.Base
set_option linter.unusedVariables false
set_option maxRecDepth 20000
noncomputable def slices_IndexFunc_impl_Endpoint_impl_Endpoint_with_impl_IsWorld_1.l0v (x0 : List (S50)) (x7 : Int) (x8 : Int) : Option (Int) := Lim fun k => slices_IndexFunc_impl_Endpoint_impl_Endpoint_with_impl_IsWorld_1.l0 k x0 x7 x8
noncomputable def slices_IndexFunc_impl_Endpoint_impl_Endpoint_with_impl_IsWorld_1.fv (l0 : List (S50)) : Option (Int) := Lim fun k => slices_IndexFunc_impl_Endpoint_impl_Endpoint_with_impl_IsWorld_1.f k l0
theorem slices_IndexFunc_impl_Endpoint_impl_Endpoint_with_impl_IsWorld_1.l0_is (x0 : List (S50)) (x7 : Int) (x8 : Int) : Is (fun k => slices_IndexFunc_impl_Endpoint_impl_Endpoint_with_impl_IsWorld_1.l0 k x0 x7 x8) (slices_IndexFunc_impl_Endpoint_impl_Endpoint_with_impl_IsWorld_1.l0v x0 x7 x8) := ⟨fun k => (slices_IndexFunc_impl_Endpoint_impl_Endpoint_with_impl_IsWorld_1.mono_l k) x0 x7 x8, rfl⟩
theorem slices_IndexFunc_impl_Endpoint_impl_Endpoint_with_impl_IsWorld_1.f_is (l0 : List (S50)) : Is (fun k => slices_IndexFunc_impl_Endpoint_impl_Endpoint_with_impl_IsWorld_1.f k l0) (slices_IndexFunc_impl_Endpoint_impl_Endpoint_with_impl_IsWorld_1.fv l0) := ⟨fun k => slices_IndexFunc_impl_Endpoint_impl_Endpoint_with_impl_IsWorld_1.mono l0 k, rfl⟩
theorem slices_IndexFunc_impl_Endpoint_impl_Endpoint_with_impl_IsWorld_1.l0v_eq (x0 : List (S50)) (x7 : Int) (x8 : Int) : slices_IndexFunc_impl_Endpoint_impl_Endpoint_with_impl_IsWorld_1.l0v x0 x7 x8 = if x8 < x7 then (if 0 ≤ x8 then (if x8 < (x0.length : Int) then ((impl_IsWorld_1.fv ((rd_T50 x0 x8).f0) ((rd_T50 x0 x8).f1) ((rd_T50 x0 x8).f2) ((rd_T50 x0 x8).f3)).bind fun t491 => (if t491 = true then (some x8) else (slices_IndexFunc_impl_Endpoint_impl_Endpoint_with_impl_IsWorld_1.l0v x0 x7 (wrap64 (x8 + 1))))) else (none)) else (none)) else (some (-1)) := by
  refine Is.step (slices_IndexFunc_impl_Endpoint_impl_Endpoint_with_impl_IsWorld_1.l0_is x0 x7 x8).mo (fun k => by rw [slices_IndexFunc_impl_Endpoint_impl_Endpoint_with_impl_IsWorld_1.l0]) ?_
  · skip
    repeat' first
    | with_reducible exact impl_IsWorld_1.f_is _ _ _ _
    | with_reducible exact slices_IndexFunc_impl_Endpoint_impl_Endpoint_with_impl_IsWorld_1.l0_is _ _ _
    | with_reducible exact Is.now _
    | with_reducible refine Is.ite ?_ ?_
    | with_reducible refine Is.bind ?_ (fun _ => ?_)
theorem slices_IndexFunc_impl_Endpoint_impl_Endpoint_with_impl_IsWorld_1.fv_eq (l0 : List (S50)) : slices_IndexFunc_impl_Endpoint_impl_Endpoint_with_impl_IsWorld_1.fv l0 = slices_IndexFunc_impl_Endpoint_impl_Endpoint_with_impl_IsWorld_1.l0v l0 (l0.length : Int) 0 := by
  refine Is.lim (g := fun k => slices_IndexFunc_impl_Endpoint_impl_Endpoint_with_impl_IsWorld_1.f k l0) ?_
  · unfold slices_IndexFunc_impl_Endpoint_impl_Endpoint_with_impl_IsWorld_1.f
    repeat' first
    | with_reducible exact slices_IndexFunc_impl_Endpoint_impl_Endpoint_with_impl_IsWorld_1.l0_is _ _ _
    | with_reducible exact Is.now _
    | with_reducible refine Is.ite ?_ ?_
    | with_reducible refine Is.bind ?_ (fun _ => ?_)
noncomputable def slices_ContainsFunc_impl_Endpoint_impl_Endpoint_with_impl_IsWorld_1.fv (l0 : List (S50)) : Option (Bool) := Lim fun k => slices_ContainsFunc_impl_Endpoint_impl_Endpoint_with_impl_IsWorld_1.f k l0
theorem slices_ContainsFunc_impl_Endpoint_impl_Endpoint_with_impl_IsWorld_1.f_is (l0 : List (S50)) : Is (fun k => slices_ContainsFunc_impl_Endpoint_impl_Endpoint_with_impl_IsWorld_1.f k l0) (slices_ContainsFunc_impl_Endpoint_impl_Endpoint_with_impl_IsWorld_1.fv l0) := ⟨fun k => slices_ContainsFunc_impl_Endpoint_impl_Endpoint_with_impl_IsWorld_1.mono l0 k, rfl⟩
theorem slices_ContainsFunc_impl_Endpoint_impl_Endpoint_with_impl_IsWorld_1.fv_eq (l0 : List (S50)) : slices_ContainsFunc_impl_Endpoint_impl_Endpoint_with_impl_IsWorld_1.fv l0 = (slices_IndexFunc_impl_Endpoint_impl_Endpoint_with_impl_IsWorld_1.fv l0).bind fun t492 => (some (decide (t492 ≥ 0))) := by
  refine Is.lim (g := fun k => slices_ContainsFunc_impl_Endpoint_impl_Endpoint_with_impl_IsWorld_1.f k l0) ?_
  · unfold slices_ContainsFunc_impl_Endpoint_impl_Endpoint_with_impl_IsWorld_1.f
    repeat' first
    | with_reducible exact slices_IndexFunc_impl_Endpoint_impl_Endpoint_with_impl_IsWorld_1.f_is _
    | with_reducible exact Is.now _
    | with_reducible refine Is.ite ?_ ?_
    | with_reducible refine Is.bind ?_ (fun _ => ?_)
end Go.Proofs.Ytchnkakjjbfklaa.Print

/- Written by a program of this session (limx.py): the equations of what the printed functions come to. No condition. -/
namespace Go.Proofs.Ytchnkakjjbfklaa.Print
open Go.RowKit Go.Proofs.YtchnkakjjbfklaaW.PrintWords Go.Proofs.YtchnkakjjbfklaaW.PrintLast Go.Proofs.Ytchnkakjjbfklaa.Base
set_option linter.unusedVariables false
set_option maxRecDepth 20000
noncomputable def impl_IsWorld.j0v (x3 : Bool) (x494000 : List Int) (x494001 : List Int) (x494002 : Int) (x494003 : List (S50)) (x494004 : Int) (x494005 : List Int) (x494006 : Int) (x494007 : Bool) (x494008 : Int) (x494009 : Int) (x494010 : List (S55)) (x494011 : List (S57)) (x494012 : Int) (x494013 : Int) (x494014 : Int) : Option (Bool) := Lim fun k => impl_IsWorld.j0 k x3 x494000 x494001 x494002 x494003 x494004 x494005 x494006 x494007 x494008 x494009 x494010 x494011 x494012 x494013 x494014
noncomputable def impl_IsWorld.j1v (x22 : Bool) (x494000 : List Int) (x494001 : List Int) (x494002 : Int) (x494003 : List (S50)) (x494004 : Int) (x494005 : List Int) (x494006 : Int) (x494007 : Bool) (x494008 : Int) (x494009 : Int) (x494010 : List (S55)) (x494011 : List (S57)) (x494012 : Int) (x494013 : Int) (x494014 : Int) : Option (Bool) := Lim fun k => impl_IsWorld.j1 k x22 x494000 x494001 x494002 x494003 x494004 x494005 x494006 x494007 x494008 x494009 x494010 x494011 x494012 x494013 x494014
noncomputable def impl_IsWorld.j2v (x32 : Bool) (x494000 : List Int) (x494001 : List Int) (x494002 : Int) (x494003 : List (S50)) (x494004 : Int) (x494005 : List Int) (x494006 : Int) (x494007 : Bool) (x494008 : Int) (x494009 : Int) (x494010 : List (S55)) (x494011 : List (S57)) (x494012 : Int) (x494013 : Int) (x494014 : Int) : Option (Bool) := Lim fun k => impl_IsWorld.j2 k x32 x494000 x494001 x494002 x494003 x494004 x494005 x494006 x494007 x494008 x494009 x494010 x494011 x494012 x494013 x494014
noncomputable def impl_IsWorld.fv (l0_0 : List Int) (l0_1 : List Int) (a0_2 : Int) (l0_3 : List (S50)) (a0_4 : Int) (l0_5 : List Int) (a0_6 : Int) (a0_7 : Bool) (a0_8 : Int) (a0_9 : Int) (l0_10 : List (S55)) (l0_11 : List (S57)) (a0_12 : Int) (a0_13 : Int) (a0_14 : Int) : Option (Bool) := Lim fun k => impl_IsWorld.f k l0_0 l0_1 a0_2 l0_3 a0_4 l0_5 a0_6 a0_7 a0_8 a0_9 l0_10 l0_11 a0_12 a0_13 a0_14
theorem impl_IsWorld.j0_is (x3 : Bool) (x494000 : List Int) (x494001 : List Int) (x494002 : Int) (x494003 : List (S50)) (x494004 : Int) (x494005 : List Int) (x494006 : Int) (x494007 : Bool) (x494008 : Int) (x494009 : Int) (x494010 : List (S55)) (x494011 : List (S57)) (x494012 : Int) (x494013 : Int) (x494014 : Int) : Is (fun k => impl_IsWorld.j0 k x3 x494000 x494001 x494002 x494003 x494004 x494005 x494006 x494007 x494008 x494009 x494010 x494011 x494012 x494013 x494014) (impl_IsWorld.j0v x3 x494000 x494001 x494002 x494003 x494004 x494005 x494006 x494007 x494008 x494009 x494010 x494011 x494012 x494013 x494014) := ⟨fun k => (impl_IsWorld.mono_l k).1 x3 x494000 x494001 x494002 x494003 x494004 x494005 x494006 x494007 x494008 x494009 x494010 x494011 x494012 x494013 x494014, rfl⟩
theorem impl_IsWorld.j1_is (x22 : Bool) (x494000 : List Int) (x494001 : List Int) (x494002 : Int) (x494003 : List (S50)) (x494004 : Int) (x494005 : List Int) (x494006 : Int) (x494007 : Bool) (x494008 : Int) (x494009 : Int) (x494010 : List (S55)) (x494011 : List (S57)) (x494012 : Int) (x494013 : Int) (x494014 : Int) : Is (fun k => impl_IsWorld.j1 k x22 x494000 x494001 x494002 x494003 x494004 x494005 x494006 x494007 x494008 x494009 x494010 x494011 x494012 x494013 x494014) (impl_IsWorld.j1v x22 x494000 x494001 x494002 x494003 x494004 x494005 x494006 x494007 x494008 x494009 x494010 x494011 x494012 x494013 x494014) := ⟨fun k => (impl_IsWorld.mono_l k).2.1 x22 x494000 x494001 x494002 x494003 x494004 x494005 x494006 x494007 x494008 x494009 x494010 x494011 x494012 x494013 x494014, rfl⟩
theorem impl_IsWorld.j2_is (x32 : Bool) (x494000 : List Int) (x494001 : List Int) (x494002 : Int) (x494003 : List (S50)) (x494004 : Int) (x494005 : List Int) (x494006 : Int) (x494007 : Bool) (x494008 : Int) (x494009 : Int) (x494010 : List (S55)) (x494011 : List (S57)) (x494012 : Int) (x494013 : Int) (x494014 : Int) : Is (fun k => impl_IsWorld.j2 k x32 x494000 x494001 x494002 x494003 x494004 x494005 x494006 x494007 x494008 x494009 x494010 x494011 x494012 x494013 x494014) (impl_IsWorld.j2v x32 x494000 x494001 x494002 x494003 x494004 x494005 x494006 x494007 x494008 x494009 x494010 x494011 x494012 x494013 x494014) := ⟨fun k => (impl_IsWorld.mono_l k).2.2 x32 x494000 x494001 x494002 x494003 x494004 x494005 x494006 x494007 x494008 x494009 x494010 x494011 x494012 x494013 x494014, rfl⟩
theorem impl_IsWorld.f_is (l0_0 : List Int) (l0_1 : List Int) (a0_2 : Int) (l0_3 : List (S50)) (a0_4 : Int) (l0_5 : List Int) (a0_6 : Int) (a0_7 : Bool) (a0_8 : Int) (a0_9 : Int) (l0_10 : List (S55)) (l0_11 : List (S57)) (a0_12 : Int) (a0_13 : Int) (a0_14 : Int) : Is (fun k => impl_IsWorld.f k l0_0 l0_1 a0_2 l0_3 a0_4 l0_5 a0_6 a0_7 a0_8 a0_9 l0_10 l0_11 a0_12 a0_13 a0_14) (impl_IsWorld.fv l0_0 l0_1 a0_2 l0_3 a0_4 l0_5 a0_6 a0_7 a0_8 a0_9 l0_10 l0_11 a0_12 a0_13 a0_14) := ⟨fun k => impl_IsWorld.mono l0_0 l0_1 a0_2 l0_3 a0_4 l0_5 a0_6 a0_7 a0_8 a0_9 l0_10 l0_11 a0_12 a0_13 a0_14 k, rfl⟩
theorem impl_IsWorld.j0v_eq (x3 : Bool) (x494000 : List Int) (x494001 : List Int) (x494002 : Int) (x494003 : List (S50)) (x494004 : Int) (x494005 : List Int) (x494006 : Int) (x494007 : Bool) (x494008 : Int) (x494009 : Int) (x494010 : List (S55)) (x494011 : List (S57)) (x494012 : Int) (x494013 : Int) (x494014 : Int) : impl_IsWorld.j0v x3 x494000 x494001 x494002 x494003 x494004 x494005 x494006 x494007 x494008 x494009 x494010 x494011 x494012 x494013 x494014 = if x3 = true then (some false) else (if (x494003.length : Int) > 6 then (impl_IsWorld.j1v true x494000 x494001 x494002 x494003 x494004 x494005 x494006 x494007 x494008 x494009 x494010 x494011 x494012 x494013 x494014) else ((slices_ContainsFunc_impl_Endpoint_impl_Endpoint_with_impl_IsWorld_1.fv x494003).bind fun t500 => (impl_IsWorld.j1v t500 x494000 x494001 x494002 x494003 x494004 x494005 x494006 x494007 x494008 x494009 x494010 x494011 x494012 x494013 x494014))) := by
  refine Is.step (impl_IsWorld.j0_is x3 x494000 x494001 x494002 x494003 x494004 x494005 x494006 x494007 x494008 x494009 x494010 x494011 x494012 x494013 x494014).mo (fun k => by rw [impl_IsWorld.j0]) ?_
  · skip
    repeat' first
    | with_reducible exact impl_IsWorld.j1_is _ _ _ _ _ _ _ _ _ _ _ _ _ _ _ _
    | with_reducible exact slices_ContainsFunc_impl_Endpoint_impl_Endpoint_with_impl_IsWorld_1.f_is _
    | with_reducible exact Is.now _
    | with_reducible refine Is.ite ?_ ?_
    | with_reducible refine Is.bind ?_ (fun _ => ?_)
theorem impl_IsWorld.j1v_eq (x22 : Bool) (x494000 : List Int) (x494001 : List Int) (x494002 : Int) (x494003 : List (S50)) (x494004 : Int) (x494005 : List Int) (x494006 : Int) (x494007 : Bool) (x494008 : Int) (x494009 : Int) (x494010 : List (S55)) (x494011 : List (S57)) (x494012 : Int) (x494013 : Int) (x494014 : Int) : impl_IsWorld.j1v x22 x494000 x494001 x494002 x494003 x494004 x494005 x494006 x494007 x494008 x494009 x494010 x494011 x494012 x494013 x494014 = if x22 = true then (some false) else ((impl_IsRollout.fv x494004 x494005 x494006 x494007).bind fun t501 => (if t501 = true then ((slices_Contains_int_int.fv x494000 x494004).bind fun t502 => (if t502 = true then ((impl_InRange.f x494008 1 100).bind fun t503 => (if t503 = true then ((impl_InRange.f x494009 0 100).bind fun t504 => (impl_IsWorld.j2v (!t504) x494000 x494001 x494002 x494003 x494004 x494005 x494006 x494007 x494008 x494009 x494010 x494011 x494012 x494013 x494014)) else (impl_IsWorld.j2v true x494000 x494001 x494002 x494003 x494004 x494005 x494006 x494007 x494008 x494009 x494010 x494011 x494012 x494013 x494014))) else (impl_IsWorld.j2v true x494000 x494001 x494002 x494003 x494004 x494005 x494006 x494007 x494008 x494009 x494010 x494011 x494012 x494013 x494014))) else (impl_IsWorld.j2v true x494000 x494001 x494002 x494003 x494004 x494005 x494006 x494007 x494008 x494009 x494010 x494011 x494012 x494013 x494014))) := by
  refine Is.step (impl_IsWorld.j1_is x22 x494000 x494001 x494002 x494003 x494004 x494005 x494006 x494007 x494008 x494009 x494010 x494011 x494012 x494013 x494014).mo (fun k => by rw [impl_IsWorld.j1]) ?_
  · skip
    repeat' first
    | with_reducible exact impl_IsRollout.f_is _ _ _ _
    | with_reducible exact impl_IsWorld.j2_is _ _ _ _ _ _ _ _ _ _ _ _ _ _ _ _
    | with_reducible exact slices_Contains_int_int.f_is _ _
    | with_reducible exact Is.now _
    | with_reducible refine Is.ite ?_ ?_
    | with_reducible refine Is.bind ?_ (fun _ => ?_)
theorem impl_IsWorld.j2v_eq (x32 : Bool) (x494000 : List Int) (x494001 : List Int) (x494002 : Int) (x494003 : List (S50)) (x494004 : Int) (x494005 : List Int) (x494006 : Int) (x494007 : Bool) (x494008 : Int) (x494009 : Int) (x494010 : List (S55)) (x494011 : List (S57)) (x494012 : Int) (x494013 : Int) (x494014 : Int) : impl_IsWorld.j2v x32 x494000 x494001 x494002 x494003 x494004 x494005 x494006 x494007 x494008 x494009 x494010 x494011 x494012 x494013 x494014 = if x32 = true then (some false) else (if (x494010.length : Int) ≤ 60 then (if (x494011.length : Int) ≤ 60 then ((impl_InRange.f x494012 0 10000).bind fun t505 => (if t505 = true then ((impl_InRange.f x494013 0 (x494011.length : Int)).bind fun t506 => (if t506 = true then ((impl_InRange.f x494014 0 (x494005.length : Int)).bind fun t507 => (some t507)) else (some false))) else (some false))) else (some false)) else (some false)) := by
  refine Is.step (impl_IsWorld.j2_is x32 x494000 x494001 x494002 x494003 x494004 x494005 x494006 x494007 x494008 x494009 x494010 x494011 x494012 x494013 x494014).mo (fun k => by rw [impl_IsWorld.j2]) ?_
  · skip
    repeat' first
    | with_reducible exact Is.now _
    | with_reducible refine Is.ite ?_ ?_
    | with_reducible refine Is.bind ?_ (fun _ => ?_)
theorem impl_IsWorld.fv_eq (l0_0 : List Int) (l0_1 : List Int) (a0_2 : Int) (l0_3 : List (S50)) (a0_4 : Int) (l0_5 : List Int) (a0_6 : Int) (a0_7 : Bool) (a0_8 : Int) (a0_9 : Int) (l0_10 : List (S55)) (l0_11 : List (S57)) (a0_12 : Int) (a0_13 : Int) (a0_14 : Int) : impl_IsWorld.fv l0_0 l0_1 a0_2 l0_3 a0_4 l0_5 a0_6 a0_7 a0_8 a0_9 l0_10 l0_11 a0_12 a0_13 a0_14 = (impl_ListsOf.fv l0_0 l0_1 a0_2 l0_3 a0_4 l0_5 a0_6 a0_7 a0_8 a0_9 l0_10 l0_11 a0_12 a0_13 a0_14).bind fun t494 => ((impl_AllReach.fv l0_0 t494).bind fun t497 => (if t497 = true then ((impl_areTags.fv l0_1).bind fun t498 => (if t498 = true then ((impl_IsValidKey.f a0_2).bind fun t499 => (impl_IsWorld.j0v (!t499) l0_0 l0_1 a0_2 l0_3 a0_4 l0_5 a0_6 a0_7 a0_8 a0_9 l0_10 l0_11 a0_12 a0_13 a0_14)) else (impl_IsWorld.j0v true l0_0 l0_1 a0_2 l0_3 a0_4 l0_5 a0_6 a0_7 a0_8 a0_9 l0_10 l0_11 a0_12 a0_13 a0_14))) else (impl_IsWorld.j0v true l0_0 l0_1 a0_2 l0_3 a0_4 l0_5 a0_6 a0_7 a0_8 a0_9 l0_10 l0_11 a0_12 a0_13 a0_14))) := by
  refine Is.lim (g := fun k => impl_IsWorld.f k l0_0 l0_1 a0_2 l0_3 a0_4 l0_5 a0_6 a0_7 a0_8 a0_9 l0_10 l0_11 a0_12 a0_13 a0_14) ?_
  · unfold impl_IsWorld.f
    repeat' first
    | with_reducible exact impl_AllReach.f_is _ _
    | with_reducible exact impl_IsWorld.j0_is _ _ _ _ _ _ _ _ _ _ _ _ _ _ _ _
    | with_reducible exact impl_ListsOf.f_is _ _ _ _ _ _ _ _ _ _ _ _ _ _ _
    | with_reducible exact impl_areTags.f_is _
    | with_reducible exact Is.now _
    | with_reducible refine Is.ite ?_ ?_
    | with_reducible refine Is.bind ?_ (fun _ => ?_)
end Go.Proofs.Ytchnkakjjbfklaa.Print

/- Written by a program of this session (limx.py): the equations of what the printed functions come to. No condition. -/
namespace Go.Proofs.Ytchnkakjjbfklaa.Print
open Go.RowKit Go.Proofs.YtchnkakjjbfklaaW.PrintWords Go.Proofs.YtchnkakjjbfklaaW.PrintLast Go.Proofs.Ytchnkakjjbfklaa.Base
set_option linter.unusedVariables false
set_option maxRecDepth 20000
noncomputable def spec_IsWorld.l0v (x3 : Int) (x392000 : List Int) (x392001 : List Int) (x392002 : Int) (x392003 : List (S50)) (x392004 : Int) (x392005 : List Int) (x392006 : Int) (x392007 : Bool) (x392008 : Int) (x392009 : Int) (x392010 : List (S55)) (x392011 : List (S57)) (x392012 : Int) (x392013 : Int) (x392014 : Int) : Option (Bool) := Lim fun k => spec_IsWorld.l0 k x3 x392000 x392001 x392002 x392003 x392004 x392005 x392006 x392007 x392008 x392009 x392010 x392011 x392012 x392013 x392014
noncomputable def spec_IsWorld.j1v (x62 : Bool) (x392000 : List Int) (x392001 : List Int) (x392002 : Int) (x392003 : List (S50)) (x392004 : Int) (x392005 : List Int) (x392006 : Int) (x392007 : Bool) (x392008 : Int) (x392009 : Int) (x392010 : List (S55)) (x392011 : List (S57)) (x392012 : Int) (x392013 : Int) (x392014 : Int) : Option (Bool) := Lim fun k => spec_IsWorld.j1 k x62 x392000 x392001 x392002 x392003 x392004 x392005 x392006 x392007 x392008 x392009 x392010 x392011 x392012 x392013 x392014
noncomputable def spec_IsWorld.fv (l0_0 : List Int) (l0_1 : List Int) (a0_2 : Int) (l0_3 : List (S50)) (a0_4 : Int) (l0_5 : List Int) (a0_6 : Int) (a0_7 : Bool) (a0_8 : Int) (a0_9 : Int) (l0_10 : List (S55)) (l0_11 : List (S57)) (a0_12 : Int) (a0_13 : Int) (a0_14 : Int) : Option (Bool) := Lim fun k => spec_IsWorld.f k l0_0 l0_1 a0_2 l0_3 a0_4 l0_5 a0_6 a0_7 a0_8 a0_9 l0_10 l0_11 a0_12 a0_13 a0_14
theorem spec_IsWorld.l0_is (x3 : Int) (x392000 : List Int) (x392001 : List Int) (x392002 : Int) (x392003 : List (S50)) (x392004 : Int) (x392005 : List Int) (x392006 : Int) (x392007 : Bool) (x392008 : Int) (x392009 : Int) (x392010 : List (S55)) (x392011 : List (S57)) (x392012 : Int) (x392013 : Int) (x392014 : Int) : Is (fun k => spec_IsWorld.l0 k x3 x392000 x392001 x392002 x392003 x392004 x392005 x392006 x392007 x392008 x392009 x392010 x392011 x392012 x392013 x392014) (spec_IsWorld.l0v x3 x392000 x392001 x392002 x392003 x392004 x392005 x392006 x392007 x392008 x392009 x392010 x392011 x392012 x392013 x392014) := ⟨fun k => (spec_IsWorld.mono_l k).1 x3 x392000 x392001 x392002 x392003 x392004 x392005 x392006 x392007 x392008 x392009 x392010 x392011 x392012 x392013 x392014, rfl⟩
theorem spec_IsWorld.j1_is (x62 : Bool) (x392000 : List Int) (x392001 : List Int) (x392002 : Int) (x392003 : List (S50)) (x392004 : Int) (x392005 : List Int) (x392006 : Int) (x392007 : Bool) (x392008 : Int) (x392009 : Int) (x392010 : List (S55)) (x392011 : List (S57)) (x392012 : Int) (x392013 : Int) (x392014 : Int) : Is (fun k => spec_IsWorld.j1 k x62 x392000 x392001 x392002 x392003 x392004 x392005 x392006 x392007 x392008 x392009 x392010 x392011 x392012 x392013 x392014) (spec_IsWorld.j1v x62 x392000 x392001 x392002 x392003 x392004 x392005 x392006 x392007 x392008 x392009 x392010 x392011 x392012 x392013 x392014) := ⟨fun k => (spec_IsWorld.mono_l k).2 x62 x392000 x392001 x392002 x392003 x392004 x392005 x392006 x392007 x392008 x392009 x392010 x392011 x392012 x392013 x392014, rfl⟩
theorem spec_IsWorld.f_is (l0_0 : List Int) (l0_1 : List Int) (a0_2 : Int) (l0_3 : List (S50)) (a0_4 : Int) (l0_5 : List Int) (a0_6 : Int) (a0_7 : Bool) (a0_8 : Int) (a0_9 : Int) (l0_10 : List (S55)) (l0_11 : List (S57)) (a0_12 : Int) (a0_13 : Int) (a0_14 : Int) : Is (fun k => spec_IsWorld.f k l0_0 l0_1 a0_2 l0_3 a0_4 l0_5 a0_6 a0_7 a0_8 a0_9 l0_10 l0_11 a0_12 a0_13 a0_14) (spec_IsWorld.fv l0_0 l0_1 a0_2 l0_3 a0_4 l0_5 a0_6 a0_7 a0_8 a0_9 l0_10 l0_11 a0_12 a0_13 a0_14) := ⟨fun k => spec_IsWorld.mono l0_0 l0_1 a0_2 l0_3 a0_4 l0_5 a0_6 a0_7 a0_8 a0_9 l0_10 l0_11 a0_12 a0_13 a0_14 k, rfl⟩
theorem spec_IsWorld.l0v_eq (x3 : Int) (x392000 : List Int) (x392001 : List Int) (x392002 : Int) (x392003 : List (S50)) (x392004 : Int) (x392005 : List Int) (x392006 : Int) (x392007 : Bool) (x392008 : Int) (x392009 : Int) (x392010 : List (S55)) (x392011 : List (S57)) (x392012 : Int) (x392013 : Int) (x392014 : Int) : spec_IsWorld.l0v x3 x392000 x392001 x392002 x392003 x392004 x392005 x392006 x392007 x392008 x392009 x392010 x392011 x392012 x392013 x392014 = if x3 < (x392003.length : Int) then (if 0 ≤ x3 then ((spec_IsEndpoint.fv ((rd_T50 x392003 x3).f0) ((rd_T50 x392003 x3).f1) ((rd_T50 x392003 x3).f2) ((rd_T50 x392003 x3).f3)).bind fun t393 => (if t393 = true then (spec_IsWorld.l0v (wrap64 (x3 + 1)) x392000 x392001 x392002 x392003 x392004 x392005 x392006 x392007 x392008 x392009 x392010 x392011 x392012 x392013 x392014) else (some false))) else (none)) else ((spec_AreVersions.fv x392000).bind fun t394 => (if t394 = true then ((spec_l32Tags.fv x392001).bind fun t395 => (if t395 = true then ((spec_IsValidKey.f x392002).bind fun t396 => (if t396 = true then (if (x392003.length : Int) > 6 then (spec_IsWorld.j1v true x392000 x392001 x392002 x392003 x392004 x392005 x392006 x392007 x392008 x392009 x392010 x392011 x392012 x392013 x392014) else ((spec_IsRollout.fv x392004 x392005 x392006 x392007).bind fun t397 => (if t397 = true then ((spec_l9Has.fv x392000 x392004).bind fun t398 => (if t398 = true then ((spec_ListsOf.fv x392000 x392001 x392002 x392003 x392004 x392005 x392006 x392007 x392008 x392009 x392010 x392011 x392012 x392013 x392014).bind fun t399 => ((spec_AllReach.fv x392000 t399).bind fun t402 => (spec_IsWorld.j1v (!t402) x392000 x392001 x392002 x392003 x392004 x392005 x392006 x392007 x392008 x392009 x392010 x392011 x392012 x392013 x392014))) else (spec_IsWorld.j1v true x392000 x392001 x392002 x392003 x392004 x392005 x392006 x392007 x392008 x392009 x392010 x392011 x392012 x392013 x392014))) else (spec_IsWorld.j1v true x392000 x392001 x392002 x392003 x392004 x392005 x392006 x392007 x392008 x392009 x392010 x392011 x392012 x392013 x392014)))) else (spec_IsWorld.j1v true x392000 x392001 x392002 x392003 x392004 x392005 x392006 x392007 x392008 x392009 x392010 x392011 x392012 x392013 x392014))) else (spec_IsWorld.j1v true x392000 x392001 x392002 x392003 x392004 x392005 x392006 x392007 x392008 x392009 x392010 x392011 x392012 x392013 x392014))) else (spec_IsWorld.j1v true x392000 x392001 x392002 x392003 x392004 x392005 x392006 x392007 x392008 x392009 x392010 x392011 x392012 x392013 x392014))) := by
  refine Is.step (spec_IsWorld.l0_is x3 x392000 x392001 x392002 x392003 x392004 x392005 x392006 x392007 x392008 x392009 x392010 x392011 x392012 x392013 x392014).mo (fun k => by rw [spec_IsWorld.l0]) ?_
  · skip
    repeat' first
    | with_reducible exact spec_AllReach.f_is _ _
    | with_reducible exact spec_AreVersions.f_is _
    | with_reducible exact spec_IsEndpoint.f_is _ _ _ _
    | with_reducible exact spec_IsRollout.f_is _ _ _ _
    | with_reducible exact spec_IsWorld.j1_is _ _ _ _ _ _ _ _ _ _ _ _ _ _ _ _
    | with_reducible exact spec_IsWorld.l0_is _ _ _ _ _ _ _ _ _ _ _ _ _ _ _ _
    | with_reducible exact spec_ListsOf.f_is _ _ _ _ _ _ _ _ _ _ _ _ _ _ _
    | with_reducible exact spec_l32Tags.f_is _
    | with_reducible exact spec_l9Has.f_is _ _
    | with_reducible exact Is.now _
    | with_reducible refine Is.ite ?_ ?_
    | with_reducible refine Is.bind ?_ (fun _ => ?_)
theorem spec_IsWorld.j1v_eq (x62 : Bool) (x392000 : List Int) (x392001 : List Int) (x392002 : Int) (x392003 : List (S50)) (x392004 : Int) (x392005 : List Int) (x392006 : Int) (x392007 : Bool) (x392008 : Int) (x392009 : Int) (x392010 : List (S55)) (x392011 : List (S57)) (x392012 : Int) (x392013 : Int) (x392014 : Int) : spec_IsWorld.j1v x62 x392000 x392001 x392002 x392003 x392004 x392005 x392006 x392007 x392008 x392009 x392010 x392011 x392012 x392013 x392014 = if x62 = true then (some false) else ((spec_l1In.f x392008 1 100).bind fun t403 => (if t403 = true then ((spec_l1In.f x392009 0 100).bind fun t404 => (if t404 = true then (if (x392010.length : Int) ≤ 60 then (if (x392011.length : Int) ≤ 60 then ((spec_l1In.f x392012 0 10000).bind fun t405 => (if t405 = true then ((spec_l1In.f x392013 0 (x392011.length : Int)).bind fun t406 => (if t406 = true then ((spec_l1In.f x392014 0 (x392005.length : Int)).bind fun t407 => (some t407)) else (some false))) else (some false))) else (some false)) else (some false)) else (some false))) else (some false))) := by
  refine Is.step (spec_IsWorld.j1_is x62 x392000 x392001 x392002 x392003 x392004 x392005 x392006 x392007 x392008 x392009 x392010 x392011 x392012 x392013 x392014).mo (fun k => by rw [spec_IsWorld.j1]) ?_
  · skip
    repeat' first
    | with_reducible exact Is.now _
    | with_reducible refine Is.ite ?_ ?_
    | with_reducible refine Is.bind ?_ (fun _ => ?_)
theorem spec_IsWorld.fv_eq (l0_0 : List Int) (l0_1 : List Int) (a0_2 : Int) (l0_3 : List (S50)) (a0_4 : Int) (l0_5 : List Int) (a0_6 : Int) (a0_7 : Bool) (a0_8 : Int) (a0_9 : Int) (l0_10 : List (S55)) (l0_11 : List (S57)) (a0_12 : Int) (a0_13 : Int) (a0_14 : Int) : spec_IsWorld.fv l0_0 l0_1 a0_2 l0_3 a0_4 l0_5 a0_6 a0_7 a0_8 a0_9 l0_10 l0_11 a0_12 a0_13 a0_14 = spec_IsWorld.l0v 0 l0_0 l0_1 a0_2 l0_3 a0_4 l0_5 a0_6 a0_7 a0_8 a0_9 l0_10 l0_11 a0_12 a0_13 a0_14 := by
  refine Is.lim (g := fun k => spec_IsWorld.f k l0_0 l0_1 a0_2 l0_3 a0_4 l0_5 a0_6 a0_7 a0_8 a0_9 l0_10 l0_11 a0_12 a0_13 a0_14) ?_
  · unfold spec_IsWorld.f
    repeat' first
    | with_reducible exact spec_IsWorld.l0_is _ _ _ _ _ _ _ _ _ _ _ _ _ _ _ _
    | with_reducible exact Is.now _
    | with_reducible refine Is.ite ?_ ?_
    | with_reducible refine Is.bind ?_ (fun _ => ?_)
end Go.Proofs.Ytchnkakjjbfklaa.Print

/- Written by a program of this session (limx.py): the equations of what the printed functions come to. No condition. -/
namespace Go.Proofs.Ytchnkakjjbfklaa.Print
open Go.RowKit Go.Proofs.YtchnkakjjbfklaaW.PrintWords Go.Proofs.YtchnkakjjbfklaaW.PrintLast Go.Proofs.Ytchnkakjjbfklaa.Base
set_option linter.unusedVariables false
set_option maxRecDepth 20000
noncomputable def laws_FnExactIsWorld.fv (l0_0 : List Int) (l0_1 : List Int) (a0_2 : Int) (l0_3 : List (S85)) (a0_4 : Int) (l0_5 : List Int) (a0_6 : Int) (a0_7 : Bool) (a0_8 : Int) (a0_9 : Int) (l0_10 : List (S89)) (l0_11 : List (S92)) (a0_12 : Int) (a0_13 : Int) (a0_14 : Int) : Option (Bool) := Lim fun k => laws_FnExactIsWorld.f k l0_0 l0_1 a0_2 l0_3 a0_4 l0_5 a0_6 a0_7 a0_8 a0_9 l0_10 l0_11 a0_12 a0_13 a0_14
theorem laws_FnExactIsWorld.f_is (l0_0 : List Int) (l0_1 : List Int) (a0_2 : Int) (l0_3 : List (S85)) (a0_4 : Int) (l0_5 : List Int) (a0_6 : Int) (a0_7 : Bool) (a0_8 : Int) (a0_9 : Int) (l0_10 : List (S89)) (l0_11 : List (S92)) (a0_12 : Int) (a0_13 : Int) (a0_14 : Int) : Is (fun k => laws_FnExactIsWorld.f k l0_0 l0_1 a0_2 l0_3 a0_4 l0_5 a0_6 a0_7 a0_8 a0_9 l0_10 l0_11 a0_12 a0_13 a0_14) (laws_FnExactIsWorld.fv l0_0 l0_1 a0_2 l0_3 a0_4 l0_5 a0_6 a0_7 a0_8 a0_9 l0_10 l0_11 a0_12 a0_13 a0_14) := ⟨fun k => laws_FnExactIsWorld.mono l0_0 l0_1 a0_2 l0_3 a0_4 l0_5 a0_6 a0_7 a0_8 a0_9 l0_10 l0_11 a0_12 a0_13 a0_14 k, rfl⟩
theorem laws_FnExactIsWorld.fv_eq (l0_0 : List Int) (l0_1 : List Int) (a0_2 : Int) (l0_3 : List (S85)) (a0_4 : Int) (l0_5 : List Int) (a0_6 : Int) (a0_7 : Bool) (a0_8 : Int) (a0_9 : Int) (l0_10 : List (S89)) (l0_11 : List (S92)) (a0_12 : Int) (a0_13 : Int) (a0_14 : Int) : laws_FnExactIsWorld.fv l0_0 l0_1 a0_2 l0_3 a0_4 l0_5 a0_6 a0_7 a0_8 a0_9 l0_10 l0_11 a0_12 a0_13 a0_14 = (laws_szWorld.fv l0_0 l0_1 a0_2 l0_3 a0_4 l0_5 a0_6 a0_7 a0_8 a0_9 l0_10 l0_11 a0_12 a0_13 a0_14 1048576).bind fun t509 => (if t509 < 0 then (some true) else ((laws_toWorld.fv l0_0 l0_1 a0_2 l0_3 a0_4 l0_5 a0_6 a0_7 a0_8 a0_9 l0_10 l0_11 a0_12 a0_13 a0_14).bind fun bt510 => ((spec_IsWorld.fv bt510.1 bt510.2.1 bt510.2.2.1 bt510.2.2.2.1 bt510.2.2.2.2.1 bt510.2.2.2.2.2.1 bt510.2.2.2.2.2.2.1 bt510.2.2.2.2.2.2.2.1 bt510.2.2.2.2.2.2.2.2.1 bt510.2.2.2.2.2.2.2.2.2.1 bt510.2.2.2.2.2.2.2.2.2.2.1 bt510.2.2.2.2.2.2.2.2.2.2.2.1 bt510.2.2.2.2.2.2.2.2.2.2.2.2.1 bt510.2.2.2.2.2.2.2.2.2.2.2.2.2.1 bt510.2.2.2.2.2.2.2.2.2.2.2.2.2.2).bind fun t537 => ((laws_toWorld.fv l0_0 l0_1 a0_2 l0_3 a0_4 l0_5 a0_6 a0_7 a0_8 a0_9 l0_10 l0_11 a0_12 a0_13 a0_14).bind fun bt538 => ((impl_IsWorld.fv bt538.1 bt538.2.1 bt538.2.2.1 bt538.2.2.2.1 bt538.2.2.2.2.1 bt538.2.2.2.2.2.1 bt538.2.2.2.2.2.2.1 bt538.2.2.2.2.2.2.2.1 bt538.2.2.2.2.2.2.2.2.1 bt538.2.2.2.2.2.2.2.2.2.1 bt538.2.2.2.2.2.2.2.2.2.2.1 bt538.2.2.2.2.2.2.2.2.2.2.2.1 bt538.2.2.2.2.2.2.2.2.2.2.2.2.1 bt538.2.2.2.2.2.2.2.2.2.2.2.2.2.1 bt538.2.2.2.2.2.2.2.2.2.2.2.2.2.2).bind fun t566 => (if (t566 != t537) = true then (some false) else ((laws_toWorld.fv l0_0 l0_1 a0_2 l0_3 a0_4 l0_5 a0_6 a0_7 a0_8 a0_9 l0_10 l0_11 a0_12 a0_13 a0_14).bind fun bt567 => ((laws_eqWorld.fv bt538.1 bt538.2.1 bt538.2.2.1 bt538.2.2.2.1 bt538.2.2.2.2.1 bt538.2.2.2.2.2.1 bt538.2.2.2.2.2.2.1 bt538.2.2.2.2.2.2.2.1 bt538.2.2.2.2.2.2.2.2.1 bt538.2.2.2.2.2.2.2.2.2.1 bt538.2.2.2.2.2.2.2.2.2.2.1 bt538.2.2.2.2.2.2.2.2.2.2.2.1 bt538.2.2.2.2.2.2.2.2.2.2.2.2.1 bt538.2.2.2.2.2.2.2.2.2.2.2.2.2.1 bt538.2.2.2.2.2.2.2.2.2.2.2.2.2.2 bt567.1 bt567.2.1 bt567.2.2.1 bt567.2.2.2.1 bt567.2.2.2.2.1 bt567.2.2.2.2.2.1 bt567.2.2.2.2.2.2.1 bt567.2.2.2.2.2.2.2.1 bt567.2.2.2.2.2.2.2.2.1 bt567.2.2.2.2.2.2.2.2.2.1 bt567.2.2.2.2.2.2.2.2.2.2.1 bt567.2.2.2.2.2.2.2.2.2.2.2.1 bt567.2.2.2.2.2.2.2.2.2.2.2.2.1 bt567.2.2.2.2.2.2.2.2.2.2.2.2.2.1 bt567.2.2.2.2.2.2.2.2.2.2.2.2.2.2).bind fun t594 => (if t594 = true then (some true) else (some false)))))))))) := by
  refine Is.lim (g := fun k => laws_FnExactIsWorld.f k l0_0 l0_1 a0_2 l0_3 a0_4 l0_5 a0_6 a0_7 a0_8 a0_9 l0_10 l0_11 a0_12 a0_13 a0_14) ?_
  · unfold laws_FnExactIsWorld.f
    repeat' first
    | with_reducible exact impl_IsWorld.f_is _ _ _ _ _ _ _ _ _ _ _ _ _ _ _
    | with_reducible exact laws_eqWorld.f_is _ _ _ _ _ _ _ _ _ _ _ _ _ _ _ _ _ _ _ _ _ _ _ _ _ _ _ _ _ _
    | with_reducible exact laws_szWorld.f_is _ _ _ _ _ _ _ _ _ _ _ _ _ _ _ _
    | with_reducible exact laws_toWorld.f_is _ _ _ _ _ _ _ _ _ _ _ _ _ _ _
    | with_reducible exact spec_IsWorld.f_is _ _ _ _ _ _ _ _ _ _ _ _ _ _ _
    | with_reducible exact Is.now _
    | with_reducible refine Is.ite ?_ ?_
    | with_reducible refine Is.bind ?_ (fun _ => ?_)
end Go.Proofs.Ytchnkakjjbfklaa.Print
