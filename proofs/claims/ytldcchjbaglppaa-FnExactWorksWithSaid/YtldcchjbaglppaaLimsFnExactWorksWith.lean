/- Written by a program of this session (merge.py): texts that the law's plain side leans on, laid together. No condition. -/
import Derived.Test.YtldcchjbaglppaaWWords
import Derived.Test.YtldcchjbaglppaaPrint1
import Derived.Test.YtldcchjbaglppaaPrint2
import Derived.Test.YtldcchjbaglppaaPrint3
import Derived.Test.YtldcchjbaglppaaPrint9
import Derived.Test.YtldcchjbaglppaaPrint10
import Derived.Test.YtldcchjbaglppaaPrint11
import Derived.Test.YtldcchjbaglppaaPrint12
import Derived.Test.YtldcchjbaglppaaPrint13
import Derived.Test.YtldcchjbaglppaaPrint14
import Derived.Test.YtldcchjbaglppaaPrint15
import Derived.Test.YtldcchjbaglppaaPrint4
import Derived.Test.YtldcchjbaglppaaPrint5
import Derived.Test.YtldcchjbaglppaaPrint6
import Derived.Test.YtldcchjbaglppaaPrint7
import Derived.Test.YtldcchjbaglppaaPrint8
import Derived.Test.YtldcchjbaglppaaPrint16
import Derived.Test.YtldcchjbaglppaaPrint17
/- What a function with rounds comes to when it has rounds enough, as an option: its equations hold without rounds. No condition. -/
namespace Go.Proofs.Ytldcchjbaglppaa.Base
open Go.RowKit Go.Proofs.YtldcchjbaglppaaW.PrintWords

/-- More rounds tell the same. -/
def Mo {α : Type} (g : Nat → Option α) : Prop := ∀ k, LeO (g k) (g (k + 1))
theorem mo_le {α : Type} {g : Nat → Option α} (h : Mo g) {k k' : Nat} (hk : k ≤ k') {r : α} (hr : g k = some r) : g k' = some r := at_rounds h hk hr
open Classical in
/-- What it comes to at last: nothing, or one answer. -/
noncomputable def Lim {α : Type} (g : Nat → Option α) : Option α := if h : ∃ r, ∃ k, g k = some r then some (Classical.choose h) else none
theorem lim_some {α : Type} {g : Nat → Option α} (h : Mo g) {k : Nat} {r : α} (hr : g k = some r) : Lim g = some r := by
  have hx : ∃ r, ∃ k, g k = some r := ⟨r, k, hr⟩
  unfold Lim
  rw [dif_pos hx]
  obtain ⟨k', hk'⟩ := Classical.choose_spec hx
  have h1 := mo_le h (Nat.le_max_left k k') hr
  have h2 := mo_le h (Nat.le_max_right k k') hk'
  rw [h1] at h2
  exact h2.symm
theorem of_lim {α : Type} {g : Nat → Option α} {r : α} (h : Lim g = some r) : ∃ k, g k = some r := by
  unfold Lim at h
  split at h
  · rename_i hx
    obtain rfl := Option.some.inj h
    exact Classical.choose_spec hx
  · cases h
theorem lim_none {α : Type} {g : Nat → Option α} (h : Lim g = none) (k : Nat) : g k = none := by
  cases hk : g k with
  | none => rfl
  | some r =>
    unfold Lim at h
    rw [dif_pos ⟨r, k, hk⟩] at h
    cases h
theorem none_lim {α : Type} {g : Nat → Option α} (h : ∀ k, g k = none) : Lim g = none := by
  unfold Lim
  rw [dif_neg]
  rintro ⟨r, k, hk⟩
  rw [h k] at hk
  cases hk
structure Is {α : Type} (g : Nat → Option α) (v : Option α) : Prop where
  mo : Mo g
  lim : Lim g = v
theorem Is.now {α : Type} (v : Option α) : Is (fun _ => v) v := by
  refine ⟨fun _ => LeO.refl _, ?_⟩
  cases v with
  | none => exact none_lim fun _ => rfl
  | some r => exact lim_some (g := fun _ => some r) (fun _ => LeO.refl _) (k := 0) rfl
theorem Is.ite {α : Type} {c : Prop} [Decidable c] {g h : Nat → Option α} {a b : Option α} (hg : Is g a) (hh : Is h b) : Is (fun k => if c then g k else h k) (if c then a else b) := by
  by_cases hc : c
  · simp only [if_pos hc]
    exact hg
  · simp only [if_neg hc]
    exact hh
theorem Is.bind {α β : Type} {g : Nat → Option α} {f : Nat → α → Option β} {a : Option α} {b : α → Option β} (hg : Is g a) (hf : ∀ x, Is (fun k => f k x) (b x)) : Is (fun k => (g k).bind (f k)) (a.bind b) := by
  have hm : Mo (fun k => (g k).bind (f k)) := fun k => LeO.bind (hg.mo k) (fun x => (hf x).mo k)
  refine ⟨hm, ?_⟩
  cases ha : a with
  | none =>
    refine none_lim fun k => ?_
    rw [lim_none (hg.lim.trans ha) k]
    rfl
  | some x =>
    obtain ⟨k, hk⟩ := of_lim (hg.lim.trans ha)
    show _ = b x
    cases hb : b x with
    | none =>
      refine none_lim fun k' => ?_
      cases hx : (g k').bind (f k') with
      | none => rfl
      | some r =>
        have h1 := mo_le hm (Nat.le_max_left k' k) hx
        have h2 := mo_le hg.mo (Nat.le_max_right k' k) hk
        simp only [h2, Option.bind_some] at h1
        rw [lim_none ((hf x).lim.trans hb)] at h1
        cases h1
    | some r =>
      obtain ⟨k', hk'⟩ := of_lim ((hf x).lim.trans hb)
      refine lim_some hm (k := max k k') ?_
      simp only [mo_le hg.mo (Nat.le_max_left k k') hk, Option.bind_some]
      exact mo_le (hf x).mo (Nat.le_max_right k k') hk'
theorem Is.step {α : Type} {g b : Nat → Option α} {v : Option α} (hg : Mo g) (h : ∀ k, g (k + 1) = b k) (hb : Is b v) : Lim g = v := by
  rw [← hb.lim]
  cases hx : Lim g with
  | none =>
    symm
    refine none_lim fun k => ?_
    rw [← h k]
    exact lim_none hx _
  | some r =>
    obtain ⟨k, hk⟩ := of_lim hx
    symm
    refine lim_some hb.mo (k := k) ?_
    rw [← h k]
    exact mo_le hg (Nat.le_succ k) hk
theorem ends {α : Type} {g : Nat → Option α} {r : α} (h : Lim g = some r) : ∃ k, g k = some r := of_lim h
end Go.Proofs.Ytldcchjbaglppaa.Base

/- Written by a program of this session (limx.py): the equations of what the printed functions come to. No condition. -/
namespace Go.Proofs.Ytldcchjbaglppaa.Print
open Go.RowKit Go.Proofs.YtldcchjbaglppaaW.PrintWords Go.Proofs.YtldcchjbaglppaaW.PrintLast Go.Proofs.Ytldcchjbaglppaa.Base
set_option linter.unusedVariables false
set_option maxRecDepth 20000
noncomputable def laws_szMachineS.l0v (x0 : List (S26)) (x1 : Int) (x5 : Int) : Option (Int) := Lim fun k => laws_szMachineS.l0 k x0 x1 x5
noncomputable def laws_szMachineS.fv (l0 : List (S26)) (a1 : Int) : Option (Int) := Lim fun k => laws_szMachineS.f k l0 a1
theorem laws_szMachineS.l0_is (x0 : List (S26)) (x1 : Int) (x5 : Int) : Is (fun k => laws_szMachineS.l0 k x0 x1 x5) (laws_szMachineS.l0v x0 x1 x5) := ⟨fun k => (laws_szMachineS.mono_l k) x0 x1 x5, rfl⟩
theorem laws_szMachineS.f_is (l0 : List (S26)) (a1 : Int) : Is (fun k => laws_szMachineS.f k l0 a1) (laws_szMachineS.fv l0 a1) := ⟨fun k => laws_szMachineS.mono l0 a1 k, rfl⟩
theorem laws_szMachineS.l0v_eq (x0 : List (S26)) (x1 : Int) (x5 : Int) : laws_szMachineS.l0v x0 x1 x5 = if x5 < (x0.length : Int) then (if 0 ≤ x5 then ((laws_szMachine.f ((rd_T26 x0 x5).f0) ((rd_T26 x0 x5).f1) ((rd_T26 x0 x5).f2) x1).bind fun t105 => (if t105 < 0 then (some (-1)) else (laws_szMachineS.l0v x0 t105 (wrap64 (x5 + 1))))) else (none)) else (some x1) := by
  refine Is.step (laws_szMachineS.l0_is x0 x1 x5).mo (fun k => by rw [laws_szMachineS.l0]) ?_
  · skip
    repeat' first
    | with_reducible exact laws_szMachineS.l0_is _ _ _
    | with_reducible exact Is.now _
    | with_reducible refine Is.ite ?_ ?_
    | with_reducible refine Is.bind ?_ (fun _ => ?_)
theorem laws_szMachineS.fv_eq (l0 : List (S26)) (a1 : Int) : laws_szMachineS.fv l0 a1 = if (wrap64 (a1 - (l0.length : Int))) < 0 then (some (-1)) else (laws_szMachineS.l0v l0 (wrap64 (a1 - (l0.length : Int))) 0) := by
  refine Is.lim (g := fun k => laws_szMachineS.f k l0 a1) ?_
  · unfold laws_szMachineS.f
    repeat' first
    | with_reducible exact laws_szMachineS.l0_is _ _ _
    | with_reducible exact Is.now _
    | with_reducible refine Is.ite ?_ ?_
    | with_reducible refine Is.bind ?_ (fun _ => ?_)
noncomputable def laws_toBoolS.l0v (x0 : List Bool) (x3 : List Bool) (x4 : Int) : Option (List Bool) := Lim fun k => laws_toBoolS.l0 k x0 x3 x4
noncomputable def laws_toBoolS.fv (l0 : List Bool) : Option (List Bool) := Lim fun k => laws_toBoolS.f k l0
theorem laws_toBoolS.l0_is (x0 : List Bool) (x3 : List Bool) (x4 : Int) : Is (fun k => laws_toBoolS.l0 k x0 x3 x4) (laws_toBoolS.l0v x0 x3 x4) := ⟨fun k => (laws_toBoolS.mono_l k) x0 x3 x4, rfl⟩
theorem laws_toBoolS.f_is (l0 : List Bool) : Is (fun k => laws_toBoolS.f k l0) (laws_toBoolS.fv l0) := ⟨fun k => laws_toBoolS.mono l0 k, rfl⟩
theorem laws_toBoolS.l0v_eq (x0 : List Bool) (x3 : List Bool) (x4 : Int) : laws_toBoolS.l0v x0 x3 x4 = if x4 < (x0.length : Int) then (if 0 ≤ x4 then (if x4 < (x3.length : Int) then (laws_toBoolS.l0v x0 (x3.set (x4 : Int).toNat (rdOf false x0 x4)) (wrap64 (x4 + 1))) else (none)) else (none)) else (some x3) := by
  refine Is.step (laws_toBoolS.l0_is x0 x3 x4).mo (fun k => by rw [laws_toBoolS.l0]) ?_
  · skip
    repeat' first
    | with_reducible exact laws_toBoolS.l0_is _ _ _
    | with_reducible exact Is.now _
    | with_reducible refine Is.ite ?_ ?_
    | with_reducible refine Is.bind ?_ (fun _ => ?_)
theorem laws_toBoolS.fv_eq (l0 : List Bool) : laws_toBoolS.fv l0 = if 0 ≤ (l0.length : Int) then (if ((l0.length : Int) : Int).toNat ≤ 281474976710656 then (laws_toBoolS.l0v l0 (List.replicate ((l0.length : Int) : Int).toNat false) 0) else (none)) else (none) := by
  refine Is.lim (g := fun k => laws_toBoolS.f k l0) ?_
  · unfold laws_toBoolS.f
    repeat' first
    | with_reducible exact laws_toBoolS.l0_is _ _ _
    | with_reducible exact Is.now _
    | with_reducible refine Is.ite ?_ ?_
    | with_reducible refine Is.bind ?_ (fun _ => ?_)
noncomputable def laws_toMoveS.l0v (x0 : List (S80)) (x3 : List (S78)) (x4 : Int) : Option ((List (S78))) := Lim fun k => laws_toMoveS.l0 k x0 x3 x4
noncomputable def laws_toMoveS.fv (l0 : List (S80)) : Option ((List (S78))) := Lim fun k => laws_toMoveS.f k l0
theorem laws_toMoveS.l0_is (x0 : List (S80)) (x3 : List (S78)) (x4 : Int) : Is (fun k => laws_toMoveS.l0 k x0 x3 x4) (laws_toMoveS.l0v x0 x3 x4) := ⟨fun k => (laws_toMoveS.mono_l k) x0 x3 x4, rfl⟩
theorem laws_toMoveS.f_is (l0 : List (S80)) : Is (fun k => laws_toMoveS.f k l0) (laws_toMoveS.fv l0) := ⟨fun k => laws_toMoveS.mono l0 k, rfl⟩
theorem laws_toMoveS.l0v_eq (x0 : List (S80)) (x3 : List (S78)) (x4 : Int) : laws_toMoveS.l0v x0 x3 x4 = if x4 < (x0.length : Int) then (if 0 ≤ x4 then ((laws_toMove.f ((rd_T80 x0 x4).f0) ((rd_T80 x0 x4).f1) ((rd_T80 x0 x4).f2) ((rd_T80 x0 x4).f3)).bind fun bt118 => (if x4 < (x3.length : Int) then (laws_toMoveS.l0v x0 (x3.set (x4 : Int).toNat (⟨bt118.1, bt118.2.1, bt118.2.2.1, bt118.2.2.2⟩ : S78)) (wrap64 (x4 + 1))) else (none))) else (none)) else (some x3) := by
  refine Is.step (laws_toMoveS.l0_is x0 x3 x4).mo (fun k => by rw [laws_toMoveS.l0]) ?_
  · skip
    repeat' first
    | with_reducible exact laws_toMoveS.l0_is _ _ _
    | with_reducible exact Is.now _
    | with_reducible refine Is.ite ?_ ?_
    | with_reducible refine Is.bind ?_ (fun _ => ?_)
theorem laws_toMoveS.fv_eq (l0 : List (S80)) : laws_toMoveS.fv l0 = if 0 ≤ (l0.length : Int) then (if ((l0.length : Int) : Int).toNat ≤ 8796093022208 then (laws_toMoveS.l0v l0 (List.replicate ((l0.length : Int) : Int).toNat z78) 0) else (none)) else (none) := by
  refine Is.lim (g := fun k => laws_toMoveS.f k l0) ?_
  · unfold laws_toMoveS.f
    repeat' first
    | with_reducible exact laws_toMoveS.l0_is _ _ _
    | with_reducible exact Is.now _
    | with_reducible refine Is.ite ?_ ?_
    | with_reducible refine Is.bind ?_ (fun _ => ?_)
noncomputable def laws_toMachine.fv (a0_0 : Int) (l0_1 : List Bool) (l0_2 : List (S80)) : Option (Int × List Bool × (List (S78))) := Lim fun k => laws_toMachine.f k a0_0 l0_1 l0_2
theorem laws_toMachine.f_is (a0_0 : Int) (l0_1 : List Bool) (l0_2 : List (S80)) : Is (fun k => laws_toMachine.f k a0_0 l0_1 l0_2) (laws_toMachine.fv a0_0 l0_1 l0_2) := ⟨fun k => laws_toMachine.mono a0_0 l0_1 l0_2 k, rfl⟩
theorem laws_toMachine.fv_eq (a0_0 : Int) (l0_1 : List Bool) (l0_2 : List (S80)) : laws_toMachine.fv a0_0 l0_1 l0_2 = (laws_toBoolS.fv l0_1).bind fun t126 => ((laws_toMoveS.fv l0_2).bind fun t129 => (some (a0_0, t126, t129))) := by
  refine Is.lim (g := fun k => laws_toMachine.f k a0_0 l0_1 l0_2) ?_
  · unfold laws_toMachine.f
    repeat' first
    | with_reducible exact laws_toBoolS.f_is _
    | with_reducible exact laws_toMoveS.f_is _
    | with_reducible exact Is.now _
    | with_reducible refine Is.ite ?_ ?_
    | with_reducible refine Is.bind ?_ (fun _ => ?_)
noncomputable def laws_toMachineS.l0v (x0 : List (S26)) (x3 : List (S34)) (x4 : Int) : Option ((List (S34))) := Lim fun k => laws_toMachineS.l0 k x0 x3 x4
noncomputable def laws_toMachineS.fv (l0 : List (S26)) : Option ((List (S34))) := Lim fun k => laws_toMachineS.f k l0
theorem laws_toMachineS.l0_is (x0 : List (S26)) (x3 : List (S34)) (x4 : Int) : Is (fun k => laws_toMachineS.l0 k x0 x3 x4) (laws_toMachineS.l0v x0 x3 x4) := ⟨fun k => (laws_toMachineS.mono_l k) x0 x3 x4, rfl⟩
theorem laws_toMachineS.f_is (l0 : List (S26)) : Is (fun k => laws_toMachineS.f k l0) (laws_toMachineS.fv l0) := ⟨fun k => laws_toMachineS.mono l0 k, rfl⟩
theorem laws_toMachineS.l0v_eq (x0 : List (S26)) (x3 : List (S34)) (x4 : Int) : laws_toMachineS.l0v x0 x3 x4 = if x4 < (x0.length : Int) then (if 0 ≤ x4 then ((laws_toMachine.fv ((rd_T26 x0 x4).f0) ((rd_T26 x0 x4).f1) ((rd_T26 x0 x4).f2)).bind fun bt136 => (if x4 < (x3.length : Int) then (laws_toMachineS.l0v x0 (x3.set (x4 : Int).toNat (⟨bt136.1, bt136.2.1, bt136.2.2⟩ : S34)) (wrap64 (x4 + 1))) else (none))) else (none)) else (some x3) := by
  refine Is.step (laws_toMachineS.l0_is x0 x3 x4).mo (fun k => by rw [laws_toMachineS.l0]) ?_
  · skip
    repeat' first
    | with_reducible exact laws_toMachine.f_is _ _ _
    | with_reducible exact laws_toMachineS.l0_is _ _ _
    | with_reducible exact Is.now _
    | with_reducible refine Is.ite ?_ ?_
    | with_reducible refine Is.bind ?_ (fun _ => ?_)
theorem laws_toMachineS.fv_eq (l0 : List (S26)) : laws_toMachineS.fv l0 = if 0 ≤ (l0.length : Int) then (if ((l0.length : Int) : Int).toNat ≤ 5026338869833 then (laws_toMachineS.l0v l0 (List.replicate ((l0.length : Int) : Int).toNat z34) 0) else (none)) else (none) := by
  refine Is.lim (g := fun k => laws_toMachineS.f k l0) ?_
  · unfold laws_toMachineS.f
    repeat' first
    | with_reducible exact laws_toMachineS.l0_is _ _ _
    | with_reducible exact Is.now _
    | with_reducible refine Is.ite ?_ ?_
    | with_reducible refine Is.bind ?_ (fun _ => ?_)
end Go.Proofs.Ytldcchjbaglppaa.Print

/- Written by a program of this session (limx.py): the equations of what the printed functions come to. No condition. -/
namespace Go.Proofs.Ytldcchjbaglppaa.Print
open Go.RowKit Go.Proofs.YtldcchjbaglppaaW.PrintWords Go.Proofs.YtldcchjbaglppaaW.PrintLast Go.Proofs.Ytldcchjbaglppaa.Base
set_option linter.unusedVariables false
set_option maxRecDepth 20000
noncomputable def laws_eqBoolS.l0v (x0 : List Bool) (x1 : List Bool) (x5 : Int) : Option (Bool) := Lim fun k => laws_eqBoolS.l0 k x0 x1 x5
noncomputable def laws_eqBoolS.fv (l0 : List Bool) (l1 : List Bool) : Option (Bool) := Lim fun k => laws_eqBoolS.f k l0 l1
theorem laws_eqBoolS.l0_is (x0 : List Bool) (x1 : List Bool) (x5 : Int) : Is (fun k => laws_eqBoolS.l0 k x0 x1 x5) (laws_eqBoolS.l0v x0 x1 x5) := ⟨fun k => (laws_eqBoolS.mono_l k) x0 x1 x5, rfl⟩
theorem laws_eqBoolS.f_is (l0 : List Bool) (l1 : List Bool) : Is (fun k => laws_eqBoolS.f k l0 l1) (laws_eqBoolS.fv l0 l1) := ⟨fun k => laws_eqBoolS.mono l0 l1 k, rfl⟩
theorem laws_eqBoolS.l0v_eq (x0 : List Bool) (x1 : List Bool) (x5 : Int) : laws_eqBoolS.l0v x0 x1 x5 = if x5 < (x0.length : Int) then (if 0 ≤ x5 then (if x5 < (x1.length : Int) then (if rdOf false x0 x5 = true then (if rdOf false x1 x5 = true then (laws_eqBoolS.l0v x0 x1 (wrap64 (x5 + 1))) else (some false)) else (if rdOf false x1 x5 = true then (some false) else (laws_eqBoolS.l0v x0 x1 (wrap64 (x5 + 1))))) else (none)) else (none)) else (some true) := by
  refine Is.step (laws_eqBoolS.l0_is x0 x1 x5).mo (fun k => by rw [laws_eqBoolS.l0]) ?_
  · skip
    repeat' first
    | with_reducible exact laws_eqBoolS.l0_is _ _ _
    | with_reducible exact Is.now _
    | with_reducible refine Is.ite ?_ ?_
    | with_reducible refine Is.bind ?_ (fun _ => ?_)
theorem laws_eqBoolS.fv_eq (l0 : List Bool) (l1 : List Bool) : laws_eqBoolS.fv l0 l1 = if (l0.length : Int) = (l1.length : Int) then (laws_eqBoolS.l0v l0 l1 0) else (some false) := by
  refine Is.lim (g := fun k => laws_eqBoolS.f k l0 l1) ?_
  · unfold laws_eqBoolS.f
    repeat' first
    | with_reducible exact laws_eqBoolS.l0_is _ _ _
    | with_reducible exact Is.now _
    | with_reducible refine Is.ite ?_ ?_
    | with_reducible refine Is.bind ?_ (fun _ => ?_)
noncomputable def laws_eqMoveS.l0v (x0 : List (S78)) (x1 : List (S78)) (x5 : Int) : Option (Bool) := Lim fun k => laws_eqMoveS.l0 k x0 x1 x5
noncomputable def laws_eqMoveS.fv (l0 : List (S78)) (l1 : List (S78)) : Option (Bool) := Lim fun k => laws_eqMoveS.f k l0 l1
theorem laws_eqMoveS.l0_is (x0 : List (S78)) (x1 : List (S78)) (x5 : Int) : Is (fun k => laws_eqMoveS.l0 k x0 x1 x5) (laws_eqMoveS.l0v x0 x1 x5) := ⟨fun k => (laws_eqMoveS.mono_l k) x0 x1 x5, rfl⟩
theorem laws_eqMoveS.f_is (l0 : List (S78)) (l1 : List (S78)) : Is (fun k => laws_eqMoveS.f k l0 l1) (laws_eqMoveS.fv l0 l1) := ⟨fun k => laws_eqMoveS.mono l0 l1 k, rfl⟩
theorem laws_eqMoveS.l0v_eq (x0 : List (S78)) (x1 : List (S78)) (x5 : Int) : laws_eqMoveS.l0v x0 x1 x5 = if x5 < (x0.length : Int) then (if 0 ≤ x5 then (if x5 < (x1.length : Int) then ((laws_eqMove.f ((rd_T78 x0 x5).f0) ((rd_T78 x0 x5).f1) ((rd_T78 x0 x5).f2) ((rd_T78 x0 x5).f3) ((rd_T78 x1 x5).f0) ((rd_T78 x1 x5).f1) ((rd_T78 x1 x5).f2) ((rd_T78 x1 x5).f3)).bind fun t150 => (if t150 = true then (laws_eqMoveS.l0v x0 x1 (wrap64 (x5 + 1))) else (some false))) else (none)) else (none)) else (some true) := by
  refine Is.step (laws_eqMoveS.l0_is x0 x1 x5).mo (fun k => by rw [laws_eqMoveS.l0]) ?_
  · skip
    repeat' first
    | with_reducible exact laws_eqMoveS.l0_is _ _ _
    | with_reducible exact Is.now _
    | with_reducible refine Is.ite ?_ ?_
    | with_reducible refine Is.bind ?_ (fun _ => ?_)
theorem laws_eqMoveS.fv_eq (l0 : List (S78)) (l1 : List (S78)) : laws_eqMoveS.fv l0 l1 = if (l0.length : Int) = (l1.length : Int) then (laws_eqMoveS.l0v l0 l1 0) else (some false) := by
  refine Is.lim (g := fun k => laws_eqMoveS.f k l0 l1) ?_
  · unfold laws_eqMoveS.f
    repeat' first
    | with_reducible exact laws_eqMoveS.l0_is _ _ _
    | with_reducible exact Is.now _
    | with_reducible refine Is.ite ?_ ?_
    | with_reducible refine Is.bind ?_ (fun _ => ?_)
noncomputable def laws_eqMachine.fv (a0_0 : Int) (l0_1 : List Bool) (l0_2 : List (S78)) (a1_0 : Int) (l1_1 : List Bool) (l1_2 : List (S78)) : Option (Bool) := Lim fun k => laws_eqMachine.f k a0_0 l0_1 l0_2 a1_0 l1_1 l1_2
theorem laws_eqMachine.f_is (a0_0 : Int) (l0_1 : List Bool) (l0_2 : List (S78)) (a1_0 : Int) (l1_1 : List Bool) (l1_2 : List (S78)) : Is (fun k => laws_eqMachine.f k a0_0 l0_1 l0_2 a1_0 l1_1 l1_2) (laws_eqMachine.fv a0_0 l0_1 l0_2 a1_0 l1_1 l1_2) := ⟨fun k => laws_eqMachine.mono a0_0 l0_1 l0_2 a1_0 l1_1 l1_2 k, rfl⟩
theorem laws_eqMachine.fv_eq (a0_0 : Int) (l0_1 : List Bool) (l0_2 : List (S78)) (a1_0 : Int) (l1_1 : List Bool) (l1_2 : List (S78)) : laws_eqMachine.fv a0_0 l0_1 l0_2 a1_0 l1_1 l1_2 = if a0_0 = a1_0 then ((laws_eqBoolS.fv l0_1 l1_1).bind fun t153 => (if t153 = true then ((laws_eqMoveS.fv l0_2 l1_2).bind fun t154 => (if t154 = true then (some true) else (some false))) else (some false))) else (some false) := by
  refine Is.lim (g := fun k => laws_eqMachine.f k a0_0 l0_1 l0_2 a1_0 l1_1 l1_2) ?_
  · unfold laws_eqMachine.f
    repeat' first
    | with_reducible exact laws_eqBoolS.f_is _ _
    | with_reducible exact laws_eqMoveS.f_is _ _
    | with_reducible exact Is.now _
    | with_reducible refine Is.ite ?_ ?_
    | with_reducible refine Is.bind ?_ (fun _ => ?_)
end Go.Proofs.Ytldcchjbaglppaa.Print

/- Written by a program of this session (limx.py): the equations of what the printed functions come to. No condition. -/
namespace Go.Proofs.Ytldcchjbaglppaa.Print
open Go.RowKit Go.Proofs.YtldcchjbaglppaaW.PrintWords Go.Proofs.YtldcchjbaglppaaW.PrintLast Go.Proofs.Ytldcchjbaglppaa.Base
set_option linter.unusedVariables false
set_option maxRecDepth 20000
noncomputable def laws_eqMachineS.l0v (x0 : List (S34)) (x1 : List (S34)) (x5 : Int) : Option (Bool) := Lim fun k => laws_eqMachineS.l0 k x0 x1 x5
noncomputable def laws_eqMachineS.fv (l0 : List (S34)) (l1 : List (S34)) : Option (Bool) := Lim fun k => laws_eqMachineS.f k l0 l1
theorem laws_eqMachineS.l0_is (x0 : List (S34)) (x1 : List (S34)) (x5 : Int) : Is (fun k => laws_eqMachineS.l0 k x0 x1 x5) (laws_eqMachineS.l0v x0 x1 x5) := ⟨fun k => (laws_eqMachineS.mono_l k) x0 x1 x5, rfl⟩
theorem laws_eqMachineS.f_is (l0 : List (S34)) (l1 : List (S34)) : Is (fun k => laws_eqMachineS.f k l0 l1) (laws_eqMachineS.fv l0 l1) := ⟨fun k => laws_eqMachineS.mono l0 l1 k, rfl⟩
theorem laws_eqMachineS.l0v_eq (x0 : List (S34)) (x1 : List (S34)) (x5 : Int) : laws_eqMachineS.l0v x0 x1 x5 = if x5 < (x0.length : Int) then (if 0 ≤ x5 then (if x5 < (x1.length : Int) then ((laws_eqMachine.fv ((rd_T34 x0 x5).f0) ((rd_T34 x0 x5).f1) ((rd_T34 x0 x5).f2) ((rd_T34 x1 x5).f0) ((rd_T34 x1 x5).f1) ((rd_T34 x1 x5).f2)).bind fun t157 => (if t157 = true then (laws_eqMachineS.l0v x0 x1 (wrap64 (x5 + 1))) else (some false))) else (none)) else (none)) else (some true) := by
  refine Is.step (laws_eqMachineS.l0_is x0 x1 x5).mo (fun k => by rw [laws_eqMachineS.l0]) ?_
  · skip
    repeat' first
    | with_reducible exact laws_eqMachine.f_is _ _ _ _ _ _
    | with_reducible exact laws_eqMachineS.l0_is _ _ _
    | with_reducible exact Is.now _
    | with_reducible refine Is.ite ?_ ?_
    | with_reducible refine Is.bind ?_ (fun _ => ?_)
theorem laws_eqMachineS.fv_eq (l0 : List (S34)) (l1 : List (S34)) : laws_eqMachineS.fv l0 l1 = if (l0.length : Int) = (l1.length : Int) then (laws_eqMachineS.l0v l0 l1 0) else (some false) := by
  refine Is.lim (g := fun k => laws_eqMachineS.f k l0 l1) ?_
  · unfold laws_eqMachineS.f
    repeat' first
    | with_reducible exact laws_eqMachineS.l0_is _ _ _
    | with_reducible exact Is.now _
    | with_reducible refine Is.ite ?_ ?_
    | with_reducible refine Is.bind ?_ (fun _ => ?_)
noncomputable def spec_MoveOf.l0v (x1 : Int) (x2 : Bool) (x3 : Int) (x9 : Int) (x159000 : Int) (x159001 : List Bool) (x159002 : List (S78)) : Option (Int) := Lim fun k => spec_MoveOf.l0 k x1 x2 x3 x9 x159000 x159001 x159002
noncomputable def spec_MoveOf.fv (a0_0 : Int) (l0_1 : List Bool) (l0_2 : List (S78)) (a1 : Int) (a2 : Bool) (a3 : Int) : Option (Int) := Lim fun k => spec_MoveOf.f k a0_0 l0_1 l0_2 a1 a2 a3
theorem spec_MoveOf.l0_is (x1 : Int) (x2 : Bool) (x3 : Int) (x9 : Int) (x159000 : Int) (x159001 : List Bool) (x159002 : List (S78)) : Is (fun k => spec_MoveOf.l0 k x1 x2 x3 x9 x159000 x159001 x159002) (spec_MoveOf.l0v x1 x2 x3 x9 x159000 x159001 x159002) := ⟨fun k => (spec_MoveOf.mono_l k) x1 x2 x3 x9 x159000 x159001 x159002, rfl⟩
theorem spec_MoveOf.f_is (a0_0 : Int) (l0_1 : List Bool) (l0_2 : List (S78)) (a1 : Int) (a2 : Bool) (a3 : Int) : Is (fun k => spec_MoveOf.f k a0_0 l0_1 l0_2 a1 a2 a3) (spec_MoveOf.fv a0_0 l0_1 l0_2 a1 a2 a3) := ⟨fun k => spec_MoveOf.mono a0_0 l0_1 l0_2 a1 a2 a3 k, rfl⟩
theorem spec_MoveOf.l0v_eq (x1 : Int) (x2 : Bool) (x3 : Int) (x9 : Int) (x159000 : Int) (x159001 : List Bool) (x159002 : List (S78)) : spec_MoveOf.l0v x1 x2 x3 x9 x159000 x159001 x159002 = if x9 < (x159002.length : Int) then (if 0 ≤ x9 then (if ((rd_T78 x159002 x9).f0) = x1 then (if (((rd_T78 x159002 x9).f1) == x2) = true then (if ((rd_T78 x159002 x9).f2) = x3 then (some x9) else (spec_MoveOf.l0v x1 x2 x3 (wrap64 (x9 + 1)) x159000 x159001 x159002)) else (spec_MoveOf.l0v x1 x2 x3 (wrap64 (x9 + 1)) x159000 x159001 x159002)) else (spec_MoveOf.l0v x1 x2 x3 (wrap64 (x9 + 1)) x159000 x159001 x159002)) else (none)) else (some (-1)) := by
  refine Is.step (spec_MoveOf.l0_is x1 x2 x3 x9 x159000 x159001 x159002).mo (fun k => by rw [spec_MoveOf.l0]) ?_
  · skip
    repeat' first
    | with_reducible exact spec_MoveOf.l0_is _ _ _ _ _ _ _
    | with_reducible exact Is.now _
    | with_reducible refine Is.ite ?_ ?_
    | with_reducible refine Is.bind ?_ (fun _ => ?_)
theorem spec_MoveOf.fv_eq (a0_0 : Int) (l0_1 : List Bool) (l0_2 : List (S78)) (a1 : Int) (a2 : Bool) (a3 : Int) : spec_MoveOf.fv a0_0 l0_1 l0_2 a1 a2 a3 = spec_MoveOf.l0v a1 a2 a3 0 a0_0 l0_1 l0_2 := by
  refine Is.lim (g := fun k => spec_MoveOf.f k a0_0 l0_1 l0_2 a1 a2 a3) ?_
  · unfold spec_MoveOf.f
    repeat' first
    | with_reducible exact spec_MoveOf.l0_is _ _ _ _ _ _ _
    | with_reducible exact Is.now _
    | with_reducible refine Is.ite ?_ ?_
    | with_reducible refine Is.bind ?_ (fun _ => ?_)
end Go.Proofs.Ytldcchjbaglppaa.Print

/- Written by a program of this session (limx.py): the equations of what the printed functions come to. No condition. -/
namespace Go.Proofs.Ytldcchjbaglppaa.Print
open Go.RowKit Go.Proofs.YtldcchjbaglppaaW.PrintWords Go.Proofs.YtldcchjbaglppaaW.PrintLast Go.Proofs.Ytldcchjbaglppaa.Base
set_option linter.unusedVariables false
set_option maxRecDepth 20000
noncomputable def impl_IsMachine.j0v (x24 : Bool) (x345000 : Int) (x345001 : List Bool) (x345002 : List (S78)) : Option (Bool) := Lim fun k => impl_IsMachine.j0 k x24 x345000 x345001 x345002
noncomputable def impl_IsMachine.l0v (x26 : List (S78)) (x27 : Int) (x28 : Int) (x345000 : Int) (x345001 : List Bool) (x345002 : List (S78)) : Option (Bool) := Lim fun k => impl_IsMachine.l0 k x26 x27 x28 x345000 x345001 x345002
noncomputable def impl_IsMachine.j2v (x3 : Int) (x26 : List (S78)) (x27 : Int) (x28 : Int) (x54 : Bool) (x345000 : Int) (x345001 : List Bool) (x345002 : List (S78)) (x348000 : Int) (x348001 : Bool) (x348002 : Int) (x348003 : Int) : Option (Bool) := Lim fun k => impl_IsMachine.j2 k x3 x26 x27 x28 x54 x345000 x345001 x345002 x348000 x348001 x348002 x348003
noncomputable def impl_IsMachine.l1v (x26 : List (S78)) (x27 : Int) (x28 : Int) (x58 : List (S78)) (x59 : Int) (x60 : Int) (x345000 : Int) (x345001 : List Bool) (x345002 : List (S78)) (x348000 : Int) (x348001 : Bool) (x348002 : Int) (x348003 : Int) : Option (Bool) := Lim fun k => impl_IsMachine.l1 k x26 x27 x28 x58 x59 x60 x345000 x345001 x345002 x348000 x348001 x348002 x348003
noncomputable def impl_IsMachine.fv (a0_0 : Int) (l0_1 : List Bool) (l0_2 : List (S78)) : Option (Bool) := Lim fun k => impl_IsMachine.f k a0_0 l0_1 l0_2
theorem impl_IsMachine.j0_is (x24 : Bool) (x345000 : Int) (x345001 : List Bool) (x345002 : List (S78)) : Is (fun k => impl_IsMachine.j0 k x24 x345000 x345001 x345002) (impl_IsMachine.j0v x24 x345000 x345001 x345002) := ⟨fun k => (impl_IsMachine.mono_l k).1 x24 x345000 x345001 x345002, rfl⟩
theorem impl_IsMachine.l0_is (x26 : List (S78)) (x27 : Int) (x28 : Int) (x345000 : Int) (x345001 : List Bool) (x345002 : List (S78)) : Is (fun k => impl_IsMachine.l0 k x26 x27 x28 x345000 x345001 x345002) (impl_IsMachine.l0v x26 x27 x28 x345000 x345001 x345002) := ⟨fun k => (impl_IsMachine.mono_l k).2.1 x26 x27 x28 x345000 x345001 x345002, rfl⟩
theorem impl_IsMachine.j2_is (x3 : Int) (x26 : List (S78)) (x27 : Int) (x28 : Int) (x54 : Bool) (x345000 : Int) (x345001 : List Bool) (x345002 : List (S78)) (x348000 : Int) (x348001 : Bool) (x348002 : Int) (x348003 : Int) : Is (fun k => impl_IsMachine.j2 k x3 x26 x27 x28 x54 x345000 x345001 x345002 x348000 x348001 x348002 x348003) (impl_IsMachine.j2v x3 x26 x27 x28 x54 x345000 x345001 x345002 x348000 x348001 x348002 x348003) := ⟨fun k => (impl_IsMachine.mono_l k).2.2.1 x3 x26 x27 x28 x54 x345000 x345001 x345002 x348000 x348001 x348002 x348003, rfl⟩
theorem impl_IsMachine.l1_is (x26 : List (S78)) (x27 : Int) (x28 : Int) (x58 : List (S78)) (x59 : Int) (x60 : Int) (x345000 : Int) (x345001 : List Bool) (x345002 : List (S78)) (x348000 : Int) (x348001 : Bool) (x348002 : Int) (x348003 : Int) : Is (fun k => impl_IsMachine.l1 k x26 x27 x28 x58 x59 x60 x345000 x345001 x345002 x348000 x348001 x348002 x348003) (impl_IsMachine.l1v x26 x27 x28 x58 x59 x60 x345000 x345001 x345002 x348000 x348001 x348002 x348003) := ⟨fun k => (impl_IsMachine.mono_l k).2.2.2 x26 x27 x28 x58 x59 x60 x345000 x345001 x345002 x348000 x348001 x348002 x348003, rfl⟩
theorem impl_IsMachine.f_is (a0_0 : Int) (l0_1 : List Bool) (l0_2 : List (S78)) : Is (fun k => impl_IsMachine.f k a0_0 l0_1 l0_2) (impl_IsMachine.fv a0_0 l0_1 l0_2) := ⟨fun k => impl_IsMachine.mono a0_0 l0_1 l0_2 k, rfl⟩
theorem impl_IsMachine.j0v_eq (x24 : Bool) (x345000 : Int) (x345001 : List Bool) (x345002 : List (S78)) : impl_IsMachine.j0v x24 x345000 x345001 x345002 = if x24 = true then (some false) else (impl_IsMachine.l0v x345002 (x345002.length : Int) 0 x345000 x345001 x345002) := by
  refine Is.step (impl_IsMachine.j0_is x24 x345000 x345001 x345002).mo (fun k => by rw [impl_IsMachine.j0]) ?_
  · skip
    repeat' first
    | with_reducible exact impl_IsMachine.l0_is _ _ _ _ _ _
    | with_reducible exact Is.now _
    | with_reducible refine Is.ite ?_ ?_
    | with_reducible refine Is.bind ?_ (fun _ => ?_)
theorem impl_IsMachine.l0v_eq (x26 : List (S78)) (x27 : Int) (x28 : Int) (x345000 : Int) (x345001 : List Bool) (x345002 : List (S78)) : impl_IsMachine.l0v x26 x27 x28 x345000 x345001 x345002 = if x28 < x27 then (if 0 ≤ x28 then (if x28 < (x26.length : Int) then ((impl_InRange.f ((rd_T78 x26 x28).f0) 0 (wrap64 (x345000 - 1))).bind fun t348 => (if t348 = true then ((impl_InRange.f ((rd_T78 x26 x28).f3) 0 (wrap64 (x345000 - 1))).bind fun t349 => (if t349 = true then ((impl_InRange.f ((rd_T78 x26 x28).f2) 0 5).bind fun t350 => (impl_IsMachine.j2v x28 x26 x27 x28 (!t350) x345000 x345001 x345002 ((rd_T78 x26 x28).f0) ((rd_T78 x26 x28).f1) ((rd_T78 x26 x28).f2) ((rd_T78 x26 x28).f3))) else (impl_IsMachine.j2v x28 x26 x27 x28 true x345000 x345001 x345002 ((rd_T78 x26 x28).f0) ((rd_T78 x26 x28).f1) ((rd_T78 x26 x28).f2) ((rd_T78 x26 x28).f3)))) else (impl_IsMachine.j2v x28 x26 x27 x28 true x345000 x345001 x345002 ((rd_T78 x26 x28).f0) ((rd_T78 x26 x28).f1) ((rd_T78 x26 x28).f2) ((rd_T78 x26 x28).f3)))) else (none)) else (none)) else (some true) := by
  refine Is.step (impl_IsMachine.l0_is x26 x27 x28 x345000 x345001 x345002).mo (fun k => by rw [impl_IsMachine.l0]) ?_
  · skip
    repeat' first
    | with_reducible exact impl_IsMachine.j2_is _ _ _ _ _ _ _ _ _ _ _ _
    | with_reducible exact Is.now _
    | with_reducible refine Is.ite ?_ ?_
    | with_reducible refine Is.bind ?_ (fun _ => ?_)
theorem impl_IsMachine.j2v_eq (x3 : Int) (x26 : List (S78)) (x27 : Int) (x28 : Int) (x54 : Bool) (x345000 : Int) (x345001 : List Bool) (x345002 : List (S78)) (x348000 : Int) (x348001 : Bool) (x348002 : Int) (x348003 : Int) : impl_IsMachine.j2v x3 x26 x27 x28 x54 x345000 x345001 x345002 x348000 x348001 x348002 x348003 = if x54 = true then (some false) else (if 0 ≤ x3 then (if x3 ≤ (x345002.length : Int) then ((some (x345002.take (x3 : Int).toNat : List (S78))).bind fun y351 => (impl_IsMachine.l1v x26 x27 x28 y351 (y351.length : Int) 0 x345000 x345001 x345002 x348000 x348001 x348002 x348003)) else (none)) else (none)) := by
  refine Is.step (impl_IsMachine.j2_is x3 x26 x27 x28 x54 x345000 x345001 x345002 x348000 x348001 x348002 x348003).mo (fun k => by rw [impl_IsMachine.j2]) ?_
  · skip
    repeat' first
    | with_reducible exact impl_IsMachine.l1_is _ _ _ _ _ _ _ _ _ _ _ _ _
    | with_reducible exact Is.now _
    | with_reducible refine Is.ite ?_ ?_
    | with_reducible refine Is.bind ?_ (fun _ => ?_)
theorem impl_IsMachine.l1v_eq (x26 : List (S78)) (x27 : Int) (x28 : Int) (x58 : List (S78)) (x59 : Int) (x60 : Int) (x345000 : Int) (x345001 : List Bool) (x345002 : List (S78)) (x348000 : Int) (x348001 : Bool) (x348002 : Int) (x348003 : Int) : impl_IsMachine.l1v x26 x27 x28 x58 x59 x60 x345000 x345001 x345002 x348000 x348001 x348002 x348003 = if x60 < x59 then (if 0 ≤ x60 then (if x60 < (x58.length : Int) then (if ((rd_T78 x58 x60).f0) = x348000 then (if (((rd_T78 x58 x60).f1) != x348001) = true then (some false) else (if ((rd_T78 x58 x60).f2) = x348002 then (some false) else (impl_IsMachine.l1v x26 x27 x28 x58 x59 (wrap64 (x60 + 1)) x345000 x345001 x345002 x348000 x348001 x348002 x348003))) else (impl_IsMachine.l1v x26 x27 x28 x58 x59 (wrap64 (x60 + 1)) x345000 x345001 x345002 x348000 x348001 x348002 x348003)) else (none)) else (none)) else (impl_IsMachine.l0v x26 x27 (wrap64 (x28 + 1)) x345000 x345001 x345002) := by
  refine Is.step (impl_IsMachine.l1_is x26 x27 x28 x58 x59 x60 x345000 x345001 x345002 x348000 x348001 x348002 x348003).mo (fun k => by rw [impl_IsMachine.l1]) ?_
  · skip
    repeat' first
    | with_reducible exact impl_IsMachine.l0_is _ _ _ _ _ _
    | with_reducible exact impl_IsMachine.l1_is _ _ _ _ _ _ _ _ _ _ _ _ _
    | with_reducible exact Is.now _
    | with_reducible refine Is.ite ?_ ?_
    | with_reducible refine Is.bind ?_ (fun _ => ?_)
theorem impl_IsMachine.fv_eq (a0_0 : Int) (l0_1 : List Bool) (l0_2 : List (S78)) : impl_IsMachine.fv a0_0 l0_1 l0_2 = (impl_InRange.f a0_0 1 6).bind fun t345 => (if t345 = true then (if (l0_1.length : Int) = a0_0 then (impl_IsMachine.j0v (decide ((l0_2.length : Int) > 12)) a0_0 l0_1 l0_2) else (impl_IsMachine.j0v true a0_0 l0_1 l0_2)) else (impl_IsMachine.j0v true a0_0 l0_1 l0_2)) := by
  refine Is.lim (g := fun k => impl_IsMachine.f k a0_0 l0_1 l0_2) ?_
  · unfold impl_IsMachine.f
    repeat' first
    | with_reducible exact impl_IsMachine.j0_is _ _ _ _
    | with_reducible exact Is.now _
    | with_reducible refine Is.ite ?_ ?_
    | with_reducible refine Is.bind ?_ (fun _ => ?_)
noncomputable def slices_Equal_int_int.l0v (x0 : List Int) (x1 : List Int) (x12 : Int) (x13 : Int) : Option (Bool) := Lim fun k => slices_Equal_int_int.l0 k x0 x1 x12 x13
noncomputable def slices_Equal_int_int.fv (l0 : List Int) (l1 : List Int) : Option (Bool) := Lim fun k => slices_Equal_int_int.f k l0 l1
theorem slices_Equal_int_int.l0_is (x0 : List Int) (x1 : List Int) (x12 : Int) (x13 : Int) : Is (fun k => slices_Equal_int_int.l0 k x0 x1 x12 x13) (slices_Equal_int_int.l0v x0 x1 x12 x13) := ⟨fun k => (slices_Equal_int_int.mono_l k) x0 x1 x12 x13, rfl⟩
theorem slices_Equal_int_int.f_is (l0 : List Int) (l1 : List Int) : Is (fun k => slices_Equal_int_int.f k l0 l1) (slices_Equal_int_int.fv l0 l1) := ⟨fun k => slices_Equal_int_int.mono l0 l1 k, rfl⟩
theorem slices_Equal_int_int.l0v_eq (x0 : List Int) (x1 : List Int) (x12 : Int) (x13 : Int) : slices_Equal_int_int.l0v x0 x1 x12 x13 = if x13 < x12 then (if 0 ≤ x13 then (if x13 < (x0.length : Int) then (if x13 < (x1.length : Int) then (if (rd x0 x13) = (rd x1 x13) then (slices_Equal_int_int.l0v x0 x1 x12 (wrap64 (x13 + 1))) else (some false)) else (none)) else (none)) else (none)) else (some true) := by
  refine Is.step (slices_Equal_int_int.l0_is x0 x1 x12 x13).mo (fun k => by rw [slices_Equal_int_int.l0]) ?_
  · skip
    repeat' first
    | with_reducible exact slices_Equal_int_int.l0_is _ _ _ _
    | with_reducible exact Is.now _
    | with_reducible refine Is.ite ?_ ?_
    | with_reducible refine Is.bind ?_ (fun _ => ?_)
theorem slices_Equal_int_int.fv_eq (l0 : List Int) (l1 : List Int) : slices_Equal_int_int.fv l0 l1 = if (l0.length : Int) = (l1.length : Int) then (slices_Equal_int_int.l0v l0 l1 (l0.length : Int) 0) else (some false) := by
  refine Is.lim (g := fun k => slices_Equal_int_int.f k l0 l1) ?_
  · unfold slices_Equal_int_int.f
    repeat' first
    | with_reducible exact slices_Equal_int_int.l0_is _ _ _ _
    | with_reducible exact Is.now _
    | with_reducible refine Is.ite ?_ ?_
    | with_reducible refine Is.bind ?_ (fun _ => ?_)
end Go.Proofs.Ytldcchjbaglppaa.Print

/- Written by a program of this session (limx.py): the equations of what the printed functions come to. No condition. -/
namespace Go.Proofs.Ytldcchjbaglppaa.Print
open Go.RowKit Go.Proofs.YtldcchjbaglppaaW.PrintWords Go.Proofs.YtldcchjbaglppaaW.PrintLast Go.Proofs.Ytldcchjbaglppaa.Base
set_option linter.unusedVariables false
set_option maxRecDepth 20000
noncomputable def slices_insertionSortOrdered_int.l0v (x0 : List Int) (x1 : Int) (x2 : Int) (x6 : Int) : Option (List Int) := Lim fun k => slices_insertionSortOrdered_int.l0 k x0 x1 x2 x6
noncomputable def slices_insertionSortOrdered_int.l1v (x0 : List Int) (x1 : Int) (x2 : Int) (x6 : Int) (x7 : Int) : Option (List Int) := Lim fun k => slices_insertionSortOrdered_int.l1 k x0 x1 x2 x6 x7
noncomputable def slices_insertionSortOrdered_int.fv (l0 : List Int) (a1 : Int) (a2 : Int) : Option (List Int) := Lim fun k => slices_insertionSortOrdered_int.f k l0 a1 a2
theorem slices_insertionSortOrdered_int.l0_is (x0 : List Int) (x1 : Int) (x2 : Int) (x6 : Int) : Is (fun k => slices_insertionSortOrdered_int.l0 k x0 x1 x2 x6) (slices_insertionSortOrdered_int.l0v x0 x1 x2 x6) := ⟨fun k => (slices_insertionSortOrdered_int.mono_l k).1 x0 x1 x2 x6, rfl⟩
theorem slices_insertionSortOrdered_int.l1_is (x0 : List Int) (x1 : Int) (x2 : Int) (x6 : Int) (x7 : Int) : Is (fun k => slices_insertionSortOrdered_int.l1 k x0 x1 x2 x6 x7) (slices_insertionSortOrdered_int.l1v x0 x1 x2 x6 x7) := ⟨fun k => (slices_insertionSortOrdered_int.mono_l k).2 x0 x1 x2 x6 x7, rfl⟩
theorem slices_insertionSortOrdered_int.f_is (l0 : List Int) (a1 : Int) (a2 : Int) : Is (fun k => slices_insertionSortOrdered_int.f k l0 a1 a2) (slices_insertionSortOrdered_int.fv l0 a1 a2) := ⟨fun k => slices_insertionSortOrdered_int.mono l0 a1 a2 k, rfl⟩
theorem slices_insertionSortOrdered_int.l0v_eq (x0 : List Int) (x1 : Int) (x2 : Int) (x6 : Int) : slices_insertionSortOrdered_int.l0v x0 x1 x2 x6 = if x6 < x2 then (slices_insertionSortOrdered_int.l1v x0 x1 x2 x6 x6) else (some x0) := by
  refine Is.step (slices_insertionSortOrdered_int.l0_is x0 x1 x2 x6).mo (fun k => by rw [slices_insertionSortOrdered_int.l0]) ?_
  · skip
    repeat' first
    | with_reducible exact slices_insertionSortOrdered_int.l1_is _ _ _ _ _
    | with_reducible exact Is.now _
    | with_reducible refine Is.ite ?_ ?_
    | with_reducible refine Is.bind ?_ (fun _ => ?_)
theorem slices_insertionSortOrdered_int.l1v_eq (x0 : List Int) (x1 : Int) (x2 : Int) (x6 : Int) (x7 : Int) : slices_insertionSortOrdered_int.l1v x0 x1 x2 x6 x7 = if x7 > x1 then (if 0 ≤ x7 then (if x7 < (x0.length : Int) then (if 0 ≤ (wrap64 (x7 - 1)) then (if (wrap64 (x7 - 1)) < (x0.length : Int) then ((cmp_Less_int.f (rd x0 x7) (rd x0 (wrap64 (x7 - 1)))).bind fun t363 => (if t363 = true then (slices_insertionSortOrdered_int.l1v ((x0.set (x7 : Int).toNat (rd x0 (wrap64 (x7 - 1)))).set ((wrap64 (x7 - 1)) : Int).toNat (rd x0 x7)) x1 x2 x6 (wrap64 (x7 - 1))) else (slices_insertionSortOrdered_int.l0v x0 x1 x2 (wrap64 (x6 + 1))))) else (none)) else (none)) else (none)) else (none)) else (slices_insertionSortOrdered_int.l0v x0 x1 x2 (wrap64 (x6 + 1))) := by
  refine Is.step (slices_insertionSortOrdered_int.l1_is x0 x1 x2 x6 x7).mo (fun k => by rw [slices_insertionSortOrdered_int.l1]) ?_
  · skip
    repeat' first
    | with_reducible exact slices_insertionSortOrdered_int.l0_is _ _ _ _
    | with_reducible exact slices_insertionSortOrdered_int.l1_is _ _ _ _ _
    | with_reducible exact Is.now _
    | with_reducible refine Is.ite ?_ ?_
    | with_reducible refine Is.bind ?_ (fun _ => ?_)
theorem slices_insertionSortOrdered_int.fv_eq (l0 : List Int) (a1 : Int) (a2 : Int) : slices_insertionSortOrdered_int.fv l0 a1 a2 = slices_insertionSortOrdered_int.l0v l0 a1 a2 (wrap64 (a1 + 1)) := by
  refine Is.lim (g := fun k => slices_insertionSortOrdered_int.f k l0 a1 a2) ?_
  · unfold slices_insertionSortOrdered_int.f
    repeat' first
    | with_reducible exact slices_insertionSortOrdered_int.l0_is _ _ _ _
    | with_reducible exact Is.now _
    | with_reducible refine Is.ite ?_ ?_
    | with_reducible refine Is.bind ?_ (fun _ => ?_)
noncomputable def slices_pdqsortOrdered_int.l0v (x0 : List Int) (x1 : Int) (x2 : Int) (x3 : Int) (x8 : Bool) : Option (List Int) := Lim fun k => slices_pdqsortOrdered_int.l0 k x0 x1 x2 x3 x8
noncomputable def slices_pdqsortOrdered_int.fv (l0 : List Int) (a1 : Int) (a2 : Int) (a3 : Int) : Option (List Int) := Lim fun k => slices_pdqsortOrdered_int.f k l0 a1 a2 a3
theorem slices_pdqsortOrdered_int.l0_is (x0 : List Int) (x1 : Int) (x2 : Int) (x3 : Int) (x8 : Bool) : Is (fun k => slices_pdqsortOrdered_int.l0 k x0 x1 x2 x3 x8) (slices_pdqsortOrdered_int.l0v x0 x1 x2 x3 x8) := ⟨fun k => (slices_pdqsortOrdered_int.mono_l k) x0 x1 x2 x3 x8, rfl⟩
theorem slices_pdqsortOrdered_int.f_is (l0 : List Int) (a1 : Int) (a2 : Int) (a3 : Int) : Is (fun k => slices_pdqsortOrdered_int.f k l0 a1 a2 a3) (slices_pdqsortOrdered_int.fv l0 a1 a2 a3) := ⟨fun k => slices_pdqsortOrdered_int.mono l0 a1 a2 a3 k, rfl⟩
theorem slices_pdqsortOrdered_int.l0v_eq (x0 : List Int) (x1 : Int) (x2 : Int) (x3 : Int) (x8 : Bool) : slices_pdqsortOrdered_int.l0v x0 x1 x2 x3 x8 = if (wrap64 (x2 - x1)) ≤ 12 then ((slices_insertionSortOrdered_int.fv x0 x1 x2).bind fun t368 => (some t368)) else (if x3 = 0 then (none) else (if x8 = true then (none) else (none))) := by
  refine Is.step (slices_pdqsortOrdered_int.l0_is x0 x1 x2 x3 x8).mo (fun k => by rw [slices_pdqsortOrdered_int.l0]) ?_
  · skip
    repeat' first
    | with_reducible exact slices_insertionSortOrdered_int.f_is _ _ _
    | with_reducible exact Is.now _
    | with_reducible refine Is.ite ?_ ?_
    | with_reducible refine Is.bind ?_ (fun _ => ?_)
theorem slices_pdqsortOrdered_int.fv_eq (l0 : List Int) (a1 : Int) (a2 : Int) (a3 : Int) : slices_pdqsortOrdered_int.fv l0 a1 a2 a3 = slices_pdqsortOrdered_int.l0v l0 a1 a2 a3 true := by
  refine Is.lim (g := fun k => slices_pdqsortOrdered_int.f k l0 a1 a2 a3) ?_
  · unfold slices_pdqsortOrdered_int.f
    repeat' first
    | with_reducible exact slices_pdqsortOrdered_int.l0_is _ _ _ _ _
    | with_reducible exact Is.now _
    | with_reducible refine Is.ite ?_ ?_
    | with_reducible refine Is.bind ?_ (fun _ => ?_)
noncomputable def slices_Sort_int_int.fv (l0 : List Int) : Option (List Int) := Lim fun k => slices_Sort_int_int.f k l0
theorem slices_Sort_int_int.f_is (l0 : List Int) : Is (fun k => slices_Sort_int_int.f k l0) (slices_Sort_int_int.fv l0) := ⟨fun k => slices_Sort_int_int.mono l0 k, rfl⟩
theorem slices_Sort_int_int.fv_eq (l0 : List Int) : slices_Sort_int_int.fv l0 = (bits_Len.f (IntKind.u64.wrap ((l0.length : Int)))).bind fun t369 => ((slices_pdqsortOrdered_int.fv l0 0 (l0.length : Int) t369).bind fun t370 => (some t370)) := by
  refine Is.lim (g := fun k => slices_Sort_int_int.f k l0) ?_
  · unfold slices_Sort_int_int.f
    repeat' first
    | with_reducible exact slices_pdqsortOrdered_int.f_is _ _ _ _
    | with_reducible exact Is.now _
    | with_reducible refine Is.ite ?_ ?_
    | with_reducible refine Is.bind ?_ (fun _ => ?_)
noncomputable def slices_Compact_int_int.l0v (x0 : List Int) (x3 : Int) : Option (List Int) := Lim fun k => slices_Compact_int_int.l0 k x0 x3
noncomputable def slices_Compact_int_int.fv (l0 : List Int) : Option (List Int) := Lim fun k => slices_Compact_int_int.f k l0
theorem slices_Compact_int_int.l0_is (x0 : List Int) (x3 : Int) : Is (fun k => slices_Compact_int_int.l0 k x0 x3) (slices_Compact_int_int.l0v x0 x3) := ⟨fun k => (slices_Compact_int_int.mono_l k) x0 x3, rfl⟩
theorem slices_Compact_int_int.f_is (l0 : List Int) : Is (fun k => slices_Compact_int_int.f k l0) (slices_Compact_int_int.fv l0) := ⟨fun k => slices_Compact_int_int.mono l0 k, rfl⟩
theorem slices_Compact_int_int.l0v_eq (x0 : List Int) (x3 : Int) : slices_Compact_int_int.l0v x0 x3 = if x3 < (x0.length : Int) then (if 0 ≤ x3 then (if 0 ≤ (wrap64 (x3 - 1)) then (if (wrap64 (x3 - 1)) < (x0.length : Int) then (if (rd x0 x3) = (rd x0 (wrap64 (x3 - 1))) then (none) else (slices_Compact_int_int.l0v x0 (wrap64 (x3 + 1)))) else (none)) else (none)) else (none)) else (some x0) := by
  refine Is.step (slices_Compact_int_int.l0_is x0 x3).mo (fun k => by rw [slices_Compact_int_int.l0]) ?_
  · skip
    repeat' first
    | with_reducible exact slices_Compact_int_int.l0_is _ _
    | with_reducible exact Is.now _
    | with_reducible refine Is.ite ?_ ?_
    | with_reducible refine Is.bind ?_ (fun _ => ?_)
theorem slices_Compact_int_int.fv_eq (l0 : List Int) : slices_Compact_int_int.fv l0 = if (l0.length : Int) < 2 then (some l0) else (slices_Compact_int_int.l0v l0 1) := by
  refine Is.lim (g := fun k => slices_Compact_int_int.f k l0) ?_
  · unfold slices_Compact_int_int.f
    repeat' first
    | with_reducible exact slices_Compact_int_int.l0_is _ _
    | with_reducible exact Is.now _
    | with_reducible refine Is.ite ?_ ?_
    | with_reducible refine Is.bind ?_ (fun _ => ?_)
noncomputable def impl_MovesFrom.l0v (x1 : Int) (x2 : Bool) (x7 : List Int) (x12 : List (S78)) (x13 : Int) (x14 : Int) : Option (List Int) := Lim fun k => impl_MovesFrom.l0 k x1 x2 x7 x12 x13 x14
noncomputable def impl_MovesFrom.fv (a0_0 : Int) (l0_1 : List Bool) (l0_2 : List (S78)) (a1 : Int) (a2 : Bool) : Option (List Int) := Lim fun k => impl_MovesFrom.f k a0_0 l0_1 l0_2 a1 a2
theorem impl_MovesFrom.l0_is (x1 : Int) (x2 : Bool) (x7 : List Int) (x12 : List (S78)) (x13 : Int) (x14 : Int) : Is (fun k => impl_MovesFrom.l0 k x1 x2 x7 x12 x13 x14) (impl_MovesFrom.l0v x1 x2 x7 x12 x13 x14) := ⟨fun k => (impl_MovesFrom.mono_l k) x1 x2 x7 x12 x13 x14, rfl⟩
theorem impl_MovesFrom.f_is (a0_0 : Int) (l0_1 : List Bool) (l0_2 : List (S78)) (a1 : Int) (a2 : Bool) : Is (fun k => impl_MovesFrom.f k a0_0 l0_1 l0_2 a1 a2) (impl_MovesFrom.fv a0_0 l0_1 l0_2 a1 a2) := ⟨fun k => impl_MovesFrom.mono a0_0 l0_1 l0_2 a1 a2 k, rfl⟩
theorem impl_MovesFrom.l0v_eq (x1 : Int) (x2 : Bool) (x7 : List Int) (x12 : List (S78)) (x13 : Int) (x14 : Int) : impl_MovesFrom.l0v x1 x2 x7 x12 x13 x14 = if x14 < x13 then (if 0 ≤ x14 then (if x14 < (x12.length : Int) then (if ((rd_T78 x12 x14).f0) = x1 then (if (((rd_T78 x12 x14).f1) == x2) = true then (if x7.length < 17592186044416 then (impl_MovesFrom.l0v x1 x2 (x7 ++ [(rd_T78 x12 x14).f2]) x12 x13 (wrap64 (x14 + 1))) else (none)) else (impl_MovesFrom.l0v x1 x2 x7 x12 x13 (wrap64 (x14 + 1)))) else (impl_MovesFrom.l0v x1 x2 x7 x12 x13 (wrap64 (x14 + 1)))) else (none)) else (none)) else ((slices_Sort_int_int.fv x7).bind fun t382 => ((slices_Compact_int_int.fv t382).bind fun t383 => (some t383))) := by
  refine Is.step (impl_MovesFrom.l0_is x1 x2 x7 x12 x13 x14).mo (fun k => by rw [impl_MovesFrom.l0]) ?_
  · skip
    repeat' first
    | with_reducible exact impl_MovesFrom.l0_is _ _ _ _ _ _
    | with_reducible exact slices_Compact_int_int.f_is _
    | with_reducible exact slices_Sort_int_int.f_is _
    | with_reducible exact Is.now _
    | with_reducible refine Is.ite ?_ ?_
    | with_reducible refine Is.bind ?_ (fun _ => ?_)
theorem impl_MovesFrom.fv_eq (a0_0 : Int) (l0_1 : List Bool) (l0_2 : List (S78)) (a1 : Int) (a2 : Bool) : impl_MovesFrom.fv a0_0 l0_1 l0_2 a1 a2 = impl_MovesFrom.l0v a1 a2 (([] : List Int)) l0_2 (l0_2.length : Int) 0 := by
  refine Is.lim (g := fun k => impl_MovesFrom.f k a0_0 l0_1 l0_2 a1 a2) ?_
  · unfold impl_MovesFrom.f
    repeat' first
    | with_reducible exact impl_MovesFrom.l0_is _ _ _ _ _ _
    | with_reducible exact Is.now _
    | with_reducible refine Is.ite ?_ ?_
    | with_reducible refine Is.bind ?_ (fun _ => ?_)
end Go.Proofs.Ytldcchjbaglppaa.Print

/- Written by a program of this session (limx.py): the equations of what the printed functions come to. No condition. -/
namespace Go.Proofs.Ytldcchjbaglppaa.Print
open Go.RowKit Go.Proofs.YtldcchjbaglppaaW.PrintWords Go.Proofs.YtldcchjbaglppaaW.PrintLast Go.Proofs.Ytldcchjbaglppaa.Base
set_option linter.unusedVariables false
set_option maxRecDepth 20000
noncomputable def slices_IndexFunc_impl_Move_impl_Move_with_impl_MoveOf_1.l0v (x0 : List (S78)) (x7 : Int) (x8 : Int) (x2000 : Int) (x3000 : Bool) (x4000 : Int) : Option (Int) := Lim fun k => slices_IndexFunc_impl_Move_impl_Move_with_impl_MoveOf_1.l0 k x0 x7 x8 x2000 x3000 x4000
noncomputable def slices_IndexFunc_impl_Move_impl_Move_with_impl_MoveOf_1.fv (l0 : List (S78)) (a1_0 : Int) (a2_0 : Bool) (a3_0 : Int) : Option (Int) := Lim fun k => slices_IndexFunc_impl_Move_impl_Move_with_impl_MoveOf_1.f k l0 a1_0 a2_0 a3_0
theorem slices_IndexFunc_impl_Move_impl_Move_with_impl_MoveOf_1.l0_is (x0 : List (S78)) (x7 : Int) (x8 : Int) (x2000 : Int) (x3000 : Bool) (x4000 : Int) : Is (fun k => slices_IndexFunc_impl_Move_impl_Move_with_impl_MoveOf_1.l0 k x0 x7 x8 x2000 x3000 x4000) (slices_IndexFunc_impl_Move_impl_Move_with_impl_MoveOf_1.l0v x0 x7 x8 x2000 x3000 x4000) := ⟨fun k => (slices_IndexFunc_impl_Move_impl_Move_with_impl_MoveOf_1.mono_l k) x0 x7 x8 x2000 x3000 x4000, rfl⟩
theorem slices_IndexFunc_impl_Move_impl_Move_with_impl_MoveOf_1.f_is (l0 : List (S78)) (a1_0 : Int) (a2_0 : Bool) (a3_0 : Int) : Is (fun k => slices_IndexFunc_impl_Move_impl_Move_with_impl_MoveOf_1.f k l0 a1_0 a2_0 a3_0) (slices_IndexFunc_impl_Move_impl_Move_with_impl_MoveOf_1.fv l0 a1_0 a2_0 a3_0) := ⟨fun k => slices_IndexFunc_impl_Move_impl_Move_with_impl_MoveOf_1.mono l0 a1_0 a2_0 a3_0 k, rfl⟩
theorem slices_IndexFunc_impl_Move_impl_Move_with_impl_MoveOf_1.l0v_eq (x0 : List (S78)) (x7 : Int) (x8 : Int) (x2000 : Int) (x3000 : Bool) (x4000 : Int) : slices_IndexFunc_impl_Move_impl_Move_with_impl_MoveOf_1.l0v x0 x7 x8 x2000 x3000 x4000 = if x8 < x7 then (if 0 ≤ x8 then (if x8 < (x0.length : Int) then ((impl_MoveOf_1.f ((rd_T78 x0 x8).f0) ((rd_T78 x0 x8).f1) ((rd_T78 x0 x8).f2) ((rd_T78 x0 x8).f3) x2000 x3000 x4000).bind fun t388 => (if t388 = true then (some x8) else (slices_IndexFunc_impl_Move_impl_Move_with_impl_MoveOf_1.l0v x0 x7 (wrap64 (x8 + 1)) x2000 x3000 x4000))) else (none)) else (none)) else (some (-1)) := by
  refine Is.step (slices_IndexFunc_impl_Move_impl_Move_with_impl_MoveOf_1.l0_is x0 x7 x8 x2000 x3000 x4000).mo (fun k => by rw [slices_IndexFunc_impl_Move_impl_Move_with_impl_MoveOf_1.l0]) ?_
  · skip
    repeat' first
    | with_reducible exact slices_IndexFunc_impl_Move_impl_Move_with_impl_MoveOf_1.l0_is _ _ _ _ _ _
    | with_reducible exact Is.now _
    | with_reducible refine Is.ite ?_ ?_
    | with_reducible refine Is.bind ?_ (fun _ => ?_)
theorem slices_IndexFunc_impl_Move_impl_Move_with_impl_MoveOf_1.fv_eq (l0 : List (S78)) (a1_0 : Int) (a2_0 : Bool) (a3_0 : Int) : slices_IndexFunc_impl_Move_impl_Move_with_impl_MoveOf_1.fv l0 a1_0 a2_0 a3_0 = slices_IndexFunc_impl_Move_impl_Move_with_impl_MoveOf_1.l0v l0 (l0.length : Int) 0 a1_0 a2_0 a3_0 := by
  refine Is.lim (g := fun k => slices_IndexFunc_impl_Move_impl_Move_with_impl_MoveOf_1.f k l0 a1_0 a2_0 a3_0) ?_
  · unfold slices_IndexFunc_impl_Move_impl_Move_with_impl_MoveOf_1.f
    repeat' first
    | with_reducible exact slices_IndexFunc_impl_Move_impl_Move_with_impl_MoveOf_1.l0_is _ _ _ _ _ _
    | with_reducible exact Is.now _
    | with_reducible refine Is.ite ?_ ?_
    | with_reducible refine Is.bind ?_ (fun _ => ?_)
noncomputable def impl_MoveOf.fv (a0_0 : Int) (l0_1 : List Bool) (l0_2 : List (S78)) (a1 : Int) (a2 : Bool) (a3 : Int) : Option (Int) := Lim fun k => impl_MoveOf.f k a0_0 l0_1 l0_2 a1 a2 a3
theorem impl_MoveOf.f_is (a0_0 : Int) (l0_1 : List Bool) (l0_2 : List (S78)) (a1 : Int) (a2 : Bool) (a3 : Int) : Is (fun k => impl_MoveOf.f k a0_0 l0_1 l0_2 a1 a2 a3) (impl_MoveOf.fv a0_0 l0_1 l0_2 a1 a2 a3) := ⟨fun k => impl_MoveOf.mono a0_0 l0_1 l0_2 a1 a2 a3 k, rfl⟩
theorem impl_MoveOf.fv_eq (a0_0 : Int) (l0_1 : List Bool) (l0_2 : List (S78)) (a1 : Int) (a2 : Bool) (a3 : Int) : impl_MoveOf.fv a0_0 l0_1 l0_2 a1 a2 a3 = (slices_IndexFunc_impl_Move_impl_Move_with_impl_MoveOf_1.fv l0_2 a1 a2 a3).bind fun t393 => (some t393) := by
  refine Is.lim (g := fun k => impl_MoveOf.f k a0_0 l0_1 l0_2 a1 a2 a3) ?_
  · unfold impl_MoveOf.f
    repeat' first
    | with_reducible exact slices_IndexFunc_impl_Move_impl_Move_with_impl_MoveOf_1.f_is _ _ _ _
    | with_reducible exact Is.now _
    | with_reducible refine Is.ite ?_ ?_
    | with_reducible refine Is.bind ?_ (fun _ => ?_)
end Go.Proofs.Ytldcchjbaglppaa.Print

/- Written by a program of this session (limx.py): the equations of what the printed functions come to. No condition. -/
namespace Go.Proofs.Ytldcchjbaglppaa.Print
open Go.RowKit Go.Proofs.YtldcchjbaglppaaW.PrintWords Go.Proofs.YtldcchjbaglppaaW.PrintLast Go.Proofs.Ytldcchjbaglppaa.Base
set_option linter.unusedVariables false
set_option maxRecDepth 20000
noncomputable def impl_NextPairs.l0v (x2 : Int) (x3 : Int) (x9 : List (List Int)) (x18 : List Bool) (x19 : Int) (x20 : Int) (x395000 : Int) (x395001 : List Bool) (x395002 : List (S78)) (x396000 : Int) (x396001 : List Bool) (x396002 : List (S78)) : Option ((List (List Int))) := Lim fun k => impl_NextPairs.l0 k x2 x3 x9 x18 x19 x20 x395000 x395001 x395002 x396000 x396001 x396002
noncomputable def impl_NextPairs.j1v (x2 : Int) (x3 : Int) (x9 : List (List Int)) (x11 : Bool) (x12 : List Int) (x18 : List Bool) (x19 : Int) (x20 : Int) (x395000 : Int) (x395001 : List Bool) (x395002 : List (S78)) (x396000 : Int) (x396001 : List Bool) (x396002 : List (S78)) : Option ((List (List Int))) := Lim fun k => impl_NextPairs.j1 k x2 x3 x9 x11 x12 x18 x19 x20 x395000 x395001 x395002 x396000 x396001 x396002
noncomputable def impl_NextPairs.l1v (x2 : Int) (x3 : Int) (x9 : List (List Int)) (x11 : Bool) (x18 : List Bool) (x19 : Int) (x20 : Int) (x32 : List Int) (x33 : Int) (x34 : Int) (x395000 : Int) (x395001 : List Bool) (x395002 : List (S78)) (x396000 : Int) (x396001 : List Bool) (x396002 : List (S78)) : Option ((List (List Int))) := Lim fun k => impl_NextPairs.l1 k x2 x3 x9 x11 x18 x19 x20 x32 x33 x34 x395000 x395001 x395002 x396000 x396001 x396002
noncomputable def impl_NextPairs.fv (a0_0 : Int) (l0_1 : List Bool) (l0_2 : List (S78)) (a1_0 : Int) (l1_1 : List Bool) (l1_2 : List (S78)) (a2 : Int) (a3 : Int) : Option ((List (List Int))) := Lim fun k => impl_NextPairs.f k a0_0 l0_1 l0_2 a1_0 l1_1 l1_2 a2 a3
theorem impl_NextPairs.l0_is (x2 : Int) (x3 : Int) (x9 : List (List Int)) (x18 : List Bool) (x19 : Int) (x20 : Int) (x395000 : Int) (x395001 : List Bool) (x395002 : List (S78)) (x396000 : Int) (x396001 : List Bool) (x396002 : List (S78)) : Is (fun k => impl_NextPairs.l0 k x2 x3 x9 x18 x19 x20 x395000 x395001 x395002 x396000 x396001 x396002) (impl_NextPairs.l0v x2 x3 x9 x18 x19 x20 x395000 x395001 x395002 x396000 x396001 x396002) := ⟨fun k => (impl_NextPairs.mono_l k).1 x2 x3 x9 x18 x19 x20 x395000 x395001 x395002 x396000 x396001 x396002, rfl⟩
theorem impl_NextPairs.j1_is (x2 : Int) (x3 : Int) (x9 : List (List Int)) (x11 : Bool) (x12 : List Int) (x18 : List Bool) (x19 : Int) (x20 : Int) (x395000 : Int) (x395001 : List Bool) (x395002 : List (S78)) (x396000 : Int) (x396001 : List Bool) (x396002 : List (S78)) : Is (fun k => impl_NextPairs.j1 k x2 x3 x9 x11 x12 x18 x19 x20 x395000 x395001 x395002 x396000 x396001 x396002) (impl_NextPairs.j1v x2 x3 x9 x11 x12 x18 x19 x20 x395000 x395001 x395002 x396000 x396001 x396002) := ⟨fun k => (impl_NextPairs.mono_l k).2.1 x2 x3 x9 x11 x12 x18 x19 x20 x395000 x395001 x395002 x396000 x396001 x396002, rfl⟩
theorem impl_NextPairs.l1_is (x2 : Int) (x3 : Int) (x9 : List (List Int)) (x11 : Bool) (x18 : List Bool) (x19 : Int) (x20 : Int) (x32 : List Int) (x33 : Int) (x34 : Int) (x395000 : Int) (x395001 : List Bool) (x395002 : List (S78)) (x396000 : Int) (x396001 : List Bool) (x396002 : List (S78)) : Is (fun k => impl_NextPairs.l1 k x2 x3 x9 x11 x18 x19 x20 x32 x33 x34 x395000 x395001 x395002 x396000 x396001 x396002) (impl_NextPairs.l1v x2 x3 x9 x11 x18 x19 x20 x32 x33 x34 x395000 x395001 x395002 x396000 x396001 x396002) := ⟨fun k => (impl_NextPairs.mono_l k).2.2 x2 x3 x9 x11 x18 x19 x20 x32 x33 x34 x395000 x395001 x395002 x396000 x396001 x396002, rfl⟩
theorem impl_NextPairs.f_is (a0_0 : Int) (l0_1 : List Bool) (l0_2 : List (S78)) (a1_0 : Int) (l1_1 : List Bool) (l1_2 : List (S78)) (a2 : Int) (a3 : Int) : Is (fun k => impl_NextPairs.f k a0_0 l0_1 l0_2 a1_0 l1_1 l1_2 a2 a3) (impl_NextPairs.fv a0_0 l0_1 l0_2 a1_0 l1_1 l1_2 a2 a3) := ⟨fun k => impl_NextPairs.mono a0_0 l0_1 l0_2 a1_0 l1_1 l1_2 a2 a3 k, rfl⟩
theorem impl_NextPairs.l0v_eq (x2 : Int) (x3 : Int) (x9 : List (List Int)) (x18 : List Bool) (x19 : Int) (x20 : Int) (x395000 : Int) (x395001 : List Bool) (x395002 : List (S78)) (x396000 : Int) (x396001 : List Bool) (x396002 : List (S78)) : impl_NextPairs.l0v x2 x3 x9 x18 x19 x20 x395000 x395001 x395002 x396000 x396001 x396002 = if x20 < x19 then (if 0 ≤ x20 then (if x20 < (x18.length : Int) then ((impl_MovesFrom.fv x395000 x395001 x395002 x2 true).bind fun t403 => (if rdOf false x18 x20 = true then (impl_NextPairs.j1v x2 x3 x9 (rdOf false x18 x20) t403 x18 x19 x20 x395000 x395001 x395002 x396000 x396001 x396002) else ((impl_MovesFrom.fv x396000 x396001 x396002 x3 true).bind fun t406 => (impl_NextPairs.j1v x2 x3 x9 (rdOf false x18 x20) t406 x18 x19 x20 x395000 x395001 x395002 x396000 x396001 x396002)))) else (none)) else (none)) else (some x9) := by
  refine Is.step (impl_NextPairs.l0_is x2 x3 x9 x18 x19 x20 x395000 x395001 x395002 x396000 x396001 x396002).mo (fun k => by rw [impl_NextPairs.l0]) ?_
  · skip
    repeat' first
    | with_reducible exact impl_MovesFrom.f_is _ _ _ _ _
    | with_reducible exact impl_NextPairs.j1_is _ _ _ _ _ _ _ _ _ _ _ _ _ _
    | with_reducible exact Is.now _
    | with_reducible refine Is.ite ?_ ?_
    | with_reducible refine Is.bind ?_ (fun _ => ?_)
theorem impl_NextPairs.j1v_eq (x2 : Int) (x3 : Int) (x9 : List (List Int)) (x11 : Bool) (x12 : List Int) (x18 : List Bool) (x19 : Int) (x20 : Int) (x395000 : Int) (x395001 : List Bool) (x395002 : List (S78)) (x396000 : Int) (x396001 : List Bool) (x396002 : List (S78)) : impl_NextPairs.j1v x2 x3 x9 x11 x12 x18 x19 x20 x395000 x395001 x395002 x396000 x396001 x396002 = impl_NextPairs.l1v x2 x3 x9 x11 x18 x19 x20 x12 (x12.length : Int) 0 x395000 x395001 x395002 x396000 x396001 x396002 := by
  refine Is.step (impl_NextPairs.j1_is x2 x3 x9 x11 x12 x18 x19 x20 x395000 x395001 x395002 x396000 x396001 x396002).mo (fun k => by rw [impl_NextPairs.j1]) ?_
  · skip
    repeat' first
    | with_reducible exact impl_NextPairs.l1_is _ _ _ _ _ _ _ _ _ _ _ _ _ _ _ _
    | with_reducible exact Is.now _
    | with_reducible refine Is.ite ?_ ?_
    | with_reducible refine Is.bind ?_ (fun _ => ?_)
theorem impl_NextPairs.l1v_eq (x2 : Int) (x3 : Int) (x9 : List (List Int)) (x11 : Bool) (x18 : List Bool) (x19 : Int) (x20 : Int) (x32 : List Int) (x33 : Int) (x34 : Int) (x395000 : Int) (x395001 : List Bool) (x395002 : List (S78)) (x396000 : Int) (x396001 : List Bool) (x396002 : List (S78)) : impl_NextPairs.l1v x2 x3 x9 x11 x18 x19 x20 x32 x33 x34 x395000 x395001 x395002 x396000 x396001 x396002 = if x34 < x33 then (if 0 ≤ x34 then (if x34 < (x32.length : Int) then ((impl_MoveOf.fv x395000 x395001 x395002 x2 x11 (rd x32 x34)).bind fun t410 => ((impl_MoveOf.fv x396000 x396001 x396002 x3 (!x11) (rd x32 x34)).bind fun t411 => (if t410 ≥ 0 then (if t411 ≥ 0 then (if 0 ≤ t410 then (if t410 < (x395002.length : Int) then (if 0 ≤ t411 then (if t411 < (x396002.length : Int) then (if x9.length < 5864062014805 then (impl_NextPairs.l1v x2 x3 (x9 ++ [(([(rd_T78 x395002 t410).f3, (rd_T78 x396002 t411).f3] : List Int))]) x11 x18 x19 x20 x32 x33 (wrap64 (x34 + 1)) x395000 x395001 x395002 x396000 x396001 x396002) else (none)) else (none)) else (none)) else (none)) else (none)) else (impl_NextPairs.l1v x2 x3 x9 x11 x18 x19 x20 x32 x33 (wrap64 (x34 + 1)) x395000 x395001 x395002 x396000 x396001 x396002)) else (impl_NextPairs.l1v x2 x3 x9 x11 x18 x19 x20 x32 x33 (wrap64 (x34 + 1)) x395000 x395001 x395002 x396000 x396001 x396002)))) else (none)) else (none)) else (impl_NextPairs.l0v x2 x3 x9 x18 x19 (wrap64 (x20 + 1)) x395000 x395001 x395002 x396000 x396001 x396002) := by
  refine Is.step (impl_NextPairs.l1_is x2 x3 x9 x11 x18 x19 x20 x32 x33 x34 x395000 x395001 x395002 x396000 x396001 x396002).mo (fun k => by rw [impl_NextPairs.l1]) ?_
  · skip
    repeat' first
    | with_reducible exact impl_MoveOf.f_is _ _ _ _ _ _
    | with_reducible exact impl_NextPairs.l0_is _ _ _ _ _ _ _ _ _ _ _ _
    | with_reducible exact impl_NextPairs.l1_is _ _ _ _ _ _ _ _ _ _ _ _ _ _ _ _
    | with_reducible exact Is.now _
    | with_reducible refine Is.ite ?_ ?_
    | with_reducible refine Is.bind ?_ (fun _ => ?_)
theorem impl_NextPairs.fv_eq (a0_0 : Int) (l0_1 : List Bool) (l0_2 : List (S78)) (a1_0 : Int) (l1_1 : List Bool) (l1_2 : List (S78)) (a2 : Int) (a3 : Int) : impl_NextPairs.fv a0_0 l0_1 l0_2 a1_0 l1_1 l1_2 a2 a3 = (some (([true, false] : List Bool) : List Bool)).bind fun y399 => (impl_NextPairs.l0v a2 a3 (([] : List (List Int))) y399 (y399.length : Int) 0 a0_0 l0_1 l0_2 a1_0 l1_1 l1_2) := by
  refine Is.lim (g := fun k => impl_NextPairs.f k a0_0 l0_1 l0_2 a1_0 l1_1 l1_2 a2 a3) ?_
  · unfold impl_NextPairs.f
    repeat' first
    | with_reducible exact impl_NextPairs.l0_is _ _ _ _ _ _ _ _ _ _ _ _
    | with_reducible exact Is.now _
    | with_reducible refine Is.ite ?_ ?_
    | with_reducible refine Is.bind ?_ (fun _ => ?_)
noncomputable def impl_PairsOf_1.fv (a0 : Int) (a1 : Int) (a2_0 : Int) (l2_1 : List Bool) (l2_2 : List (S78)) (a3_0 : Int) (l3_1 : List Bool) (l3_2 : List (S78)) : Option ((List (List Int))) := Lim fun k => impl_PairsOf_1.f k a0 a1 a2_0 l2_1 l2_2 a3_0 l3_1 l3_2
theorem impl_PairsOf_1.f_is (a0 : Int) (a1 : Int) (a2_0 : Int) (l2_1 : List Bool) (l2_2 : List (S78)) (a3_0 : Int) (l3_1 : List Bool) (l3_2 : List (S78)) : Is (fun k => impl_PairsOf_1.f k a0 a1 a2_0 l2_1 l2_2 a3_0 l3_1 l3_2) (impl_PairsOf_1.fv a0 a1 a2_0 l2_1 l2_2 a3_0 l3_1 l3_2) := ⟨fun k => impl_PairsOf_1.mono a0 a1 a2_0 l2_1 l2_2 a3_0 l3_1 l3_2 k, rfl⟩
theorem impl_PairsOf_1.fv_eq (a0 : Int) (a1 : Int) (a2_0 : Int) (l2_1 : List Bool) (l2_2 : List (S78)) (a3_0 : Int) (l3_1 : List Bool) (l3_2 : List (S78)) : impl_PairsOf_1.fv a0 a1 a2_0 l2_1 l2_2 a3_0 l3_1 l3_2 = (impl_NextPairs.fv a2_0 l2_1 l2_2 a3_0 l3_1 l3_2 a0 a1).bind fun t420 => (some t420) := by
  refine Is.lim (g := fun k => impl_PairsOf_1.f k a0 a1 a2_0 l2_1 l2_2 a3_0 l3_1 l3_2) ?_
  · unfold impl_PairsOf_1.f
    repeat' first
    | with_reducible exact impl_NextPairs.f_is _ _ _ _ _ _ _ _
    | with_reducible exact Is.now _
    | with_reducible refine Is.ite ?_ ?_
    | with_reducible refine Is.bind ?_ (fun _ => ?_)
noncomputable def impl_reached_1.fv (l0 : List Int) (l1_0 : List Int) : Option (Bool) := Lim fun k => impl_reached_1.f k l0 l1_0
theorem impl_reached_1.f_is (l0 : List Int) (l1_0 : List Int) : Is (fun k => impl_reached_1.f k l0 l1_0) (impl_reached_1.fv l0 l1_0) := ⟨fun k => impl_reached_1.mono l0 l1_0 k, rfl⟩
theorem impl_reached_1.fv_eq (l0 : List Int) (l1_0 : List Int) : impl_reached_1.fv l0 l1_0 = (slices_Equal_int_int.fv l0 l1_0).bind fun t420 => (some t420) := by
  refine Is.lim (g := fun k => impl_reached_1.f k l0 l1_0) ?_
  · unfold impl_reached_1.f
    repeat' first
    | with_reducible exact slices_Equal_int_int.f_is _ _
    | with_reducible exact Is.now _
    | with_reducible refine Is.ite ?_ ?_
    | with_reducible refine Is.bind ?_ (fun _ => ?_)
noncomputable def slices_IndexFunc_int_int_with_impl_reached_1.l0v (x0 : List (List Int)) (x7 : Int) (x8 : Int) (x2000 : List Int) : Option (Int) := Lim fun k => slices_IndexFunc_int_int_with_impl_reached_1.l0 k x0 x7 x8 x2000
noncomputable def slices_IndexFunc_int_int_with_impl_reached_1.fv (l0 : List (List Int)) (l1_0 : List Int) : Option (Int) := Lim fun k => slices_IndexFunc_int_int_with_impl_reached_1.f k l0 l1_0
theorem slices_IndexFunc_int_int_with_impl_reached_1.l0_is (x0 : List (List Int)) (x7 : Int) (x8 : Int) (x2000 : List Int) : Is (fun k => slices_IndexFunc_int_int_with_impl_reached_1.l0 k x0 x7 x8 x2000) (slices_IndexFunc_int_int_with_impl_reached_1.l0v x0 x7 x8 x2000) := ⟨fun k => (slices_IndexFunc_int_int_with_impl_reached_1.mono_l k) x0 x7 x8 x2000, rfl⟩
theorem slices_IndexFunc_int_int_with_impl_reached_1.f_is (l0 : List (List Int)) (l1_0 : List Int) : Is (fun k => slices_IndexFunc_int_int_with_impl_reached_1.f k l0 l1_0) (slices_IndexFunc_int_int_with_impl_reached_1.fv l0 l1_0) := ⟨fun k => slices_IndexFunc_int_int_with_impl_reached_1.mono l0 l1_0 k, rfl⟩
theorem slices_IndexFunc_int_int_with_impl_reached_1.l0v_eq (x0 : List (List Int)) (x7 : Int) (x8 : Int) (x2000 : List Int) : slices_IndexFunc_int_int_with_impl_reached_1.l0v x0 x7 x8 x2000 = if x8 < x7 then (if 0 ≤ x8 then (if x8 < (x0.length : Int) then ((impl_reached_1.fv (rd_L9 x0 x8) x2000).bind fun t422 => (if t422 = true then (some x8) else (slices_IndexFunc_int_int_with_impl_reached_1.l0v x0 x7 (wrap64 (x8 + 1)) x2000))) else (none)) else (none)) else (some (-1)) := by
  refine Is.step (slices_IndexFunc_int_int_with_impl_reached_1.l0_is x0 x7 x8 x2000).mo (fun k => by rw [slices_IndexFunc_int_int_with_impl_reached_1.l0]) ?_
  · skip
    repeat' first
    | with_reducible exact impl_reached_1.f_is _ _
    | with_reducible exact slices_IndexFunc_int_int_with_impl_reached_1.l0_is _ _ _ _
    | with_reducible exact Is.now _
    | with_reducible refine Is.ite ?_ ?_
    | with_reducible refine Is.bind ?_ (fun _ => ?_)
theorem slices_IndexFunc_int_int_with_impl_reached_1.fv_eq (l0 : List (List Int)) (l1_0 : List Int) : slices_IndexFunc_int_int_with_impl_reached_1.fv l0 l1_0 = slices_IndexFunc_int_int_with_impl_reached_1.l0v l0 (l0.length : Int) 0 l1_0 := by
  refine Is.lim (g := fun k => slices_IndexFunc_int_int_with_impl_reached_1.f k l0 l1_0) ?_
  · unfold slices_IndexFunc_int_int_with_impl_reached_1.f
    repeat' first
    | with_reducible exact slices_IndexFunc_int_int_with_impl_reached_1.l0_is _ _ _ _
    | with_reducible exact Is.now _
    | with_reducible refine Is.ite ?_ ?_
    | with_reducible refine Is.bind ?_ (fun _ => ?_)
noncomputable def slices_ContainsFunc_int_int_with_impl_reached_1.fv (l0 : List (List Int)) (l1_0 : List Int) : Option (Bool) := Lim fun k => slices_ContainsFunc_int_int_with_impl_reached_1.f k l0 l1_0
theorem slices_ContainsFunc_int_int_with_impl_reached_1.f_is (l0 : List (List Int)) (l1_0 : List Int) : Is (fun k => slices_ContainsFunc_int_int_with_impl_reached_1.f k l0 l1_0) (slices_ContainsFunc_int_int_with_impl_reached_1.fv l0 l1_0) := ⟨fun k => slices_ContainsFunc_int_int_with_impl_reached_1.mono l0 l1_0 k, rfl⟩
theorem slices_ContainsFunc_int_int_with_impl_reached_1.fv_eq (l0 : List (List Int)) (l1_0 : List Int) : slices_ContainsFunc_int_int_with_impl_reached_1.fv l0 l1_0 = (slices_IndexFunc_int_int_with_impl_reached_1.fv l0 l1_0).bind fun t423 => (some (decide (t423 ≥ 0))) := by
  refine Is.lim (g := fun k => slices_ContainsFunc_int_int_with_impl_reached_1.f k l0 l1_0) ?_
  · unfold slices_ContainsFunc_int_int_with_impl_reached_1.f
    repeat' first
    | with_reducible exact slices_IndexFunc_int_int_with_impl_reached_1.f_is _ _
    | with_reducible exact Is.now _
    | with_reducible refine Is.ite ?_ ?_
    | with_reducible refine Is.bind ?_ (fun _ => ?_)
end Go.Proofs.Ytldcchjbaglppaa.Print

/- Written by a program of this session (limx.py): the equations of what the printed functions come to. No condition. -/
namespace Go.Proofs.Ytldcchjbaglppaa.Print
open Go.RowKit Go.Proofs.YtldcchjbaglppaaW.PrintWords Go.Proofs.YtldcchjbaglppaaW.PrintLast Go.Proofs.Ytldcchjbaglppaa.Base
set_option linter.unusedVariables false
set_option maxRecDepth 20000
noncomputable def impl_reached_with_impl_PairsOf_1.l0v (x3 : List (List Int)) (x4 : Int) (x1000 : Int) (x1001 : List Bool) (x1002 : List (S78)) (x2000 : Int) (x2001 : List Bool) (x2002 : List (S78)) : Option ((List (List Int))) := Lim fun k => impl_reached_with_impl_PairsOf_1.l0 k x3 x4 x1000 x1001 x1002 x2000 x2001 x2002
noncomputable def impl_reached_with_impl_PairsOf_1.l1v (x3 : List (List Int)) (x4 : Int) (x28 : List (List Int)) (x29 : Int) (x30 : Int) (x1000 : Int) (x1001 : List Bool) (x1002 : List (S78)) (x2000 : Int) (x2001 : List Bool) (x2002 : List (S78)) : Option ((List (List Int))) := Lim fun k => impl_reached_with_impl_PairsOf_1.l1 k x3 x4 x28 x29 x30 x1000 x1001 x1002 x2000 x2001 x2002
noncomputable def impl_reached_with_impl_PairsOf_1.fv (a0_0 : Int) (l0_1 : List Bool) (l0_2 : List (S78)) (a1_0 : Int) (l1_1 : List Bool) (l1_2 : List (S78)) : Option ((List (List Int))) := Lim fun k => impl_reached_with_impl_PairsOf_1.f k a0_0 l0_1 l0_2 a1_0 l1_1 l1_2
theorem impl_reached_with_impl_PairsOf_1.l0_is (x3 : List (List Int)) (x4 : Int) (x1000 : Int) (x1001 : List Bool) (x1002 : List (S78)) (x2000 : Int) (x2001 : List Bool) (x2002 : List (S78)) : Is (fun k => impl_reached_with_impl_PairsOf_1.l0 k x3 x4 x1000 x1001 x1002 x2000 x2001 x2002) (impl_reached_with_impl_PairsOf_1.l0v x3 x4 x1000 x1001 x1002 x2000 x2001 x2002) := ⟨fun k => (impl_reached_with_impl_PairsOf_1.mono_l k).1 x3 x4 x1000 x1001 x1002 x2000 x2001 x2002, rfl⟩
theorem impl_reached_with_impl_PairsOf_1.l1_is (x3 : List (List Int)) (x4 : Int) (x28 : List (List Int)) (x29 : Int) (x30 : Int) (x1000 : Int) (x1001 : List Bool) (x1002 : List (S78)) (x2000 : Int) (x2001 : List Bool) (x2002 : List (S78)) : Is (fun k => impl_reached_with_impl_PairsOf_1.l1 k x3 x4 x28 x29 x30 x1000 x1001 x1002 x2000 x2001 x2002) (impl_reached_with_impl_PairsOf_1.l1v x3 x4 x28 x29 x30 x1000 x1001 x1002 x2000 x2001 x2002) := ⟨fun k => (impl_reached_with_impl_PairsOf_1.mono_l k).2 x3 x4 x28 x29 x30 x1000 x1001 x1002 x2000 x2001 x2002, rfl⟩
theorem impl_reached_with_impl_PairsOf_1.f_is (a0_0 : Int) (l0_1 : List Bool) (l0_2 : List (S78)) (a1_0 : Int) (l1_1 : List Bool) (l1_2 : List (S78)) : Is (fun k => impl_reached_with_impl_PairsOf_1.f k a0_0 l0_1 l0_2 a1_0 l1_1 l1_2) (impl_reached_with_impl_PairsOf_1.fv a0_0 l0_1 l0_2 a1_0 l1_1 l1_2) := ⟨fun k => impl_reached_with_impl_PairsOf_1.mono a0_0 l0_1 l0_2 a1_0 l1_1 l1_2 k, rfl⟩
theorem impl_reached_with_impl_PairsOf_1.l0v_eq (x3 : List (List Int)) (x4 : Int) (x1000 : Int) (x1001 : List Bool) (x1002 : List (S78)) (x2000 : Int) (x2001 : List Bool) (x2002 : List (S78)) : impl_reached_with_impl_PairsOf_1.l0v x3 x4 x1000 x1001 x1002 x2000 x2001 x2002 = if x4 < (x3.length : Int) then (if 0 ≤ x4 then (if 0 < ((rd_L9 x3 x4).length : Int) then (if 1 < ((rd_L9 x3 x4).length : Int) then ((impl_PairsOf_1.fv (rd (rd_L9 x3 x4) 0) (rd (rd_L9 x3 x4) 1) x1000 x1001 x1002 x2000 x2001 x2002).bind fun t430 => (impl_reached_with_impl_PairsOf_1.l1v x3 x4 t430 (t430.length : Int) 0 x1000 x1001 x1002 x2000 x2001 x2002)) else (none)) else (none)) else (none)) else (some x3) := by
  refine Is.step (impl_reached_with_impl_PairsOf_1.l0_is x3 x4 x1000 x1001 x1002 x2000 x2001 x2002).mo (fun k => by rw [impl_reached_with_impl_PairsOf_1.l0]) ?_
  · skip
    repeat' first
    | with_reducible exact impl_PairsOf_1.f_is _ _ _ _ _ _ _ _
    | with_reducible exact impl_reached_with_impl_PairsOf_1.l1_is _ _ _ _ _ _ _ _ _ _ _
    | with_reducible exact Is.now _
    | with_reducible refine Is.ite ?_ ?_
    | with_reducible refine Is.bind ?_ (fun _ => ?_)
theorem impl_reached_with_impl_PairsOf_1.l1v_eq (x3 : List (List Int)) (x4 : Int) (x28 : List (List Int)) (x29 : Int) (x30 : Int) (x1000 : Int) (x1001 : List Bool) (x1002 : List (S78)) (x2000 : Int) (x2001 : List Bool) (x2002 : List (S78)) : impl_reached_with_impl_PairsOf_1.l1v x3 x4 x28 x29 x30 x1000 x1001 x1002 x2000 x2001 x2002 = if x30 < x29 then (if 0 ≤ x30 then (if x30 < (x28.length : Int) then ((slices_ContainsFunc_int_int_with_impl_reached_1.fv x3 (rd_L9 x28 x30)).bind fun t435 => (if t435 = true then (impl_reached_with_impl_PairsOf_1.l1v x3 x4 x28 x29 (wrap64 (x30 + 1)) x1000 x1001 x1002 x2000 x2001 x2002) else (if x3.length < 5864062014805 then (impl_reached_with_impl_PairsOf_1.l1v (x3 ++ [rd_L9 x28 x30]) x4 x28 x29 (wrap64 (x30 + 1)) x1000 x1001 x1002 x2000 x2001 x2002) else (none)))) else (none)) else (none)) else (impl_reached_with_impl_PairsOf_1.l0v x3 (wrap64 (x4 + 1)) x1000 x1001 x1002 x2000 x2001 x2002) := by
  refine Is.step (impl_reached_with_impl_PairsOf_1.l1_is x3 x4 x28 x29 x30 x1000 x1001 x1002 x2000 x2001 x2002).mo (fun k => by rw [impl_reached_with_impl_PairsOf_1.l1]) ?_
  · skip
    repeat' first
    | with_reducible exact impl_reached_with_impl_PairsOf_1.l0_is _ _ _ _ _ _ _ _
    | with_reducible exact impl_reached_with_impl_PairsOf_1.l1_is _ _ _ _ _ _ _ _ _ _ _
    | with_reducible exact slices_ContainsFunc_int_int_with_impl_reached_1.f_is _ _
    | with_reducible exact Is.now _
    | with_reducible refine Is.ite ?_ ?_
    | with_reducible refine Is.bind ?_ (fun _ => ?_)
theorem impl_reached_with_impl_PairsOf_1.fv_eq (a0_0 : Int) (l0_1 : List Bool) (l0_2 : List (S78)) (a1_0 : Int) (l1_1 : List Bool) (l1_2 : List (S78)) : impl_reached_with_impl_PairsOf_1.fv a0_0 l0_1 l0_2 a1_0 l1_1 l1_2 = impl_reached_with_impl_PairsOf_1.l0v (([(([0, 0] : List Int))] : List (List Int))) 0 a0_0 l0_1 l0_2 a1_0 l1_1 l1_2 := by
  refine Is.lim (g := fun k => impl_reached_with_impl_PairsOf_1.f k a0_0 l0_1 l0_2 a1_0 l1_1 l1_2) ?_
  · unfold impl_reached_with_impl_PairsOf_1.f
    repeat' first
    | with_reducible exact impl_reached_with_impl_PairsOf_1.l0_is _ _ _ _ _ _ _ _
    | with_reducible exact Is.now _
    | with_reducible refine Is.ite ?_ ?_
    | with_reducible refine Is.bind ?_ (fun _ => ?_)
noncomputable def impl_PairsOf.fv (a0_0 : Int) (l0_1 : List Bool) (l0_2 : List (S78)) (a1_0 : Int) (l1_1 : List Bool) (l1_2 : List (S78)) : Option ((List (List Int))) := Lim fun k => impl_PairsOf.f k a0_0 l0_1 l0_2 a1_0 l1_1 l1_2
theorem impl_PairsOf.f_is (a0_0 : Int) (l0_1 : List Bool) (l0_2 : List (S78)) (a1_0 : Int) (l1_1 : List Bool) (l1_2 : List (S78)) : Is (fun k => impl_PairsOf.f k a0_0 l0_1 l0_2 a1_0 l1_1 l1_2) (impl_PairsOf.fv a0_0 l0_1 l0_2 a1_0 l1_1 l1_2) := ⟨fun k => impl_PairsOf.mono a0_0 l0_1 l0_2 a1_0 l1_1 l1_2 k, rfl⟩
theorem impl_PairsOf.fv_eq (a0_0 : Int) (l0_1 : List Bool) (l0_2 : List (S78)) (a1_0 : Int) (l1_1 : List Bool) (l1_2 : List (S78)) : impl_PairsOf.fv a0_0 l0_1 l0_2 a1_0 l1_1 l1_2 = (impl_IsMachine.fv a0_0 l0_1 l0_2).bind fun t422 => (if t422 = true then ((impl_IsMachine.fv a1_0 l1_1 l1_2).bind fun t423 => (if t423 = true then ((impl_reached_with_impl_PairsOf_1.fv a0_0 l0_1 l0_2 a1_0 l1_1 l1_2).bind fun t424 => (some t424)) else (some ([] : List (List Int))))) else (some ([] : List (List Int)))) := by
  refine Is.lim (g := fun k => impl_PairsOf.f k a0_0 l0_1 l0_2 a1_0 l1_1 l1_2) ?_
  · unfold impl_PairsOf.f
    repeat' first
    | with_reducible exact impl_IsMachine.f_is _ _ _
    | with_reducible exact impl_reached_with_impl_PairsOf_1.f_is _ _ _ _ _ _
    | with_reducible exact Is.now _
    | with_reducible refine Is.ite ?_ ?_
    | with_reducible refine Is.bind ?_ (fun _ => ?_)
noncomputable def slices_Index_int_int.l0v (x0 : List Int) (x1 : Int) (x7 : Int) (x8 : Int) : Option (Int) := Lim fun k => slices_Index_int_int.l0 k x0 x1 x7 x8
noncomputable def slices_Index_int_int.fv (l0 : List Int) (a1 : Int) : Option (Int) := Lim fun k => slices_Index_int_int.f k l0 a1
theorem slices_Index_int_int.l0_is (x0 : List Int) (x1 : Int) (x7 : Int) (x8 : Int) : Is (fun k => slices_Index_int_int.l0 k x0 x1 x7 x8) (slices_Index_int_int.l0v x0 x1 x7 x8) := ⟨fun k => (slices_Index_int_int.mono_l k) x0 x1 x7 x8, rfl⟩
theorem slices_Index_int_int.f_is (l0 : List Int) (a1 : Int) : Is (fun k => slices_Index_int_int.f k l0 a1) (slices_Index_int_int.fv l0 a1) := ⟨fun k => slices_Index_int_int.mono l0 a1 k, rfl⟩
theorem slices_Index_int_int.l0v_eq (x0 : List Int) (x1 : Int) (x7 : Int) (x8 : Int) : slices_Index_int_int.l0v x0 x1 x7 x8 = if x8 < x7 then (if 0 ≤ x8 then (if x8 < (x0.length : Int) then (if x1 = (rd x0 x8) then (some x8) else (slices_Index_int_int.l0v x0 x1 x7 (wrap64 (x8 + 1)))) else (none)) else (none)) else (some (-1)) := by
  refine Is.step (slices_Index_int_int.l0_is x0 x1 x7 x8).mo (fun k => by rw [slices_Index_int_int.l0]) ?_
  · skip
    repeat' first
    | with_reducible exact slices_Index_int_int.l0_is _ _ _ _
    | with_reducible exact Is.now _
    | with_reducible refine Is.ite ?_ ?_
    | with_reducible refine Is.bind ?_ (fun _ => ?_)
theorem slices_Index_int_int.fv_eq (l0 : List Int) (a1 : Int) : slices_Index_int_int.fv l0 a1 = slices_Index_int_int.l0v l0 a1 (l0.length : Int) 0 := by
  refine Is.lim (g := fun k => slices_Index_int_int.f k l0 a1) ?_
  · unfold slices_Index_int_int.f
    repeat' first
    | with_reducible exact slices_Index_int_int.l0_is _ _ _ _
    | with_reducible exact Is.now _
    | with_reducible refine Is.ite ?_ ?_
    | with_reducible refine Is.bind ?_ (fun _ => ?_)
noncomputable def slices_Contains_int_int.fv (l0 : List Int) (a1 : Int) : Option (Bool) := Lim fun k => slices_Contains_int_int.f k l0 a1
theorem slices_Contains_int_int.f_is (l0 : List Int) (a1 : Int) : Is (fun k => slices_Contains_int_int.f k l0 a1) (slices_Contains_int_int.fv l0 a1) := ⟨fun k => slices_Contains_int_int.mono l0 a1 k, rfl⟩
theorem slices_Contains_int_int.fv_eq (l0 : List Int) (a1 : Int) : slices_Contains_int_int.fv l0 a1 = (slices_Index_int_int.fv l0 a1).bind fun t428 => (some (decide (t428 ≥ 0))) := by
  refine Is.lim (g := fun k => slices_Contains_int_int.f k l0 a1) ?_
  · unfold slices_Contains_int_int.f
    repeat' first
    | with_reducible exact slices_Index_int_int.f_is _ _
    | with_reducible exact Is.now _
    | with_reducible refine Is.ite ?_ ?_
    | with_reducible refine Is.bind ?_ (fun _ => ?_)
noncomputable def impl_without.l0v (x1 : List Int) (x5 : List Int) (x9 : List Int) (x10 : Int) (x11 : Int) : Option (List Int) := Lim fun k => impl_without.l0 k x1 x5 x9 x10 x11
noncomputable def impl_without.fv (l0 : List Int) (l1 : List Int) : Option (List Int) := Lim fun k => impl_without.f k l0 l1
theorem impl_without.l0_is (x1 : List Int) (x5 : List Int) (x9 : List Int) (x10 : Int) (x11 : Int) : Is (fun k => impl_without.l0 k x1 x5 x9 x10 x11) (impl_without.l0v x1 x5 x9 x10 x11) := ⟨fun k => (impl_without.mono_l k) x1 x5 x9 x10 x11, rfl⟩
theorem impl_without.f_is (l0 : List Int) (l1 : List Int) : Is (fun k => impl_without.f k l0 l1) (impl_without.fv l0 l1) := ⟨fun k => impl_without.mono l0 l1 k, rfl⟩
theorem impl_without.l0v_eq (x1 : List Int) (x5 : List Int) (x9 : List Int) (x10 : Int) (x11 : Int) : impl_without.l0v x1 x5 x9 x10 x11 = if x11 < x10 then (if 0 ≤ x11 then (if x11 < (x9.length : Int) then ((slices_Contains_int_int.fv x1 (rd x9 x11)).bind fun t433 => (if t433 = true then (impl_without.l0v x1 x5 x9 x10 (wrap64 (x11 + 1))) else (if x5.length < 17592186044416 then (impl_without.l0v x1 (x5 ++ [rd x9 x11]) x9 x10 (wrap64 (x11 + 1))) else (none)))) else (none)) else (none)) else (some x5) := by
  refine Is.step (impl_without.l0_is x1 x5 x9 x10 x11).mo (fun k => by rw [impl_without.l0]) ?_
  · skip
    repeat' first
    | with_reducible exact impl_without.l0_is _ _ _ _ _
    | with_reducible exact slices_Contains_int_int.f_is _ _
    | with_reducible exact Is.now _
    | with_reducible refine Is.ite ?_ ?_
    | with_reducible refine Is.bind ?_ (fun _ => ?_)
theorem impl_without.fv_eq (l0 : List Int) (l1 : List Int) : impl_without.fv l0 l1 = impl_without.l0v l1 (([] : List Int)) l0 (l0.length : Int) 0 := by
  refine Is.lim (g := fun k => impl_without.f k l0 l1) ?_
  · unfold impl_without.f
    repeat' first
    | with_reducible exact impl_without.l0_is _ _ _ _ _
    | with_reducible exact Is.now _
    | with_reducible refine Is.ite ?_ ?_
    | with_reducible refine Is.bind ?_ (fun _ => ?_)
end Go.Proofs.Ytldcchjbaglppaa.Print

/- Written by a program of this session (limx.py): the equations of what the printed functions come to. No condition. -/
namespace Go.Proofs.Ytldcchjbaglppaa.Print
open Go.RowKit Go.Proofs.YtldcchjbaglppaaW.PrintWords Go.Proofs.YtldcchjbaglppaaW.PrintLast Go.Proofs.Ytldcchjbaglppaa.Base
set_option linter.unusedVariables false
set_option maxRecDepth 20000
noncomputable def impl_TroubleAt.j0v (x2 : Int) (x3 : Int) (x9 : Bool) (x441000 : Int) (x441001 : List Bool) (x441002 : List (S78)) (x442000 : Int) (x442001 : List Bool) (x442002 : List (S78)) : Option (Int) := Lim fun k => impl_TroubleAt.j0 k x2 x3 x9 x441000 x441001 x441002 x442000 x442001 x442002
noncomputable def impl_TroubleAt.fv (a0_0 : Int) (l0_1 : List Bool) (l0_2 : List (S78)) (a1_0 : Int) (l1_1 : List Bool) (l1_2 : List (S78)) (a2 : Int) (a3 : Int) : Option (Int) := Lim fun k => impl_TroubleAt.f k a0_0 l0_1 l0_2 a1_0 l1_1 l1_2 a2 a3
theorem impl_TroubleAt.j0_is (x2 : Int) (x3 : Int) (x9 : Bool) (x441000 : Int) (x441001 : List Bool) (x441002 : List (S78)) (x442000 : Int) (x442001 : List Bool) (x442002 : List (S78)) : Is (fun k => impl_TroubleAt.j0 k x2 x3 x9 x441000 x441001 x441002 x442000 x442001 x442002) (impl_TroubleAt.j0v x2 x3 x9 x441000 x441001 x441002 x442000 x442001 x442002) := ⟨fun k => (impl_TroubleAt.mono_l k) x2 x3 x9 x441000 x441001 x441002 x442000 x442001 x442002, rfl⟩
theorem impl_TroubleAt.f_is (a0_0 : Int) (l0_1 : List Bool) (l0_2 : List (S78)) (a1_0 : Int) (l1_1 : List Bool) (l1_2 : List (S78)) (a2 : Int) (a3 : Int) : Is (fun k => impl_TroubleAt.f k a0_0 l0_1 l0_2 a1_0 l1_1 l1_2 a2 a3) (impl_TroubleAt.fv a0_0 l0_1 l0_2 a1_0 l1_1 l1_2 a2 a3) := ⟨fun k => impl_TroubleAt.mono a0_0 l0_1 l0_2 a1_0 l1_1 l1_2 a2 a3 k, rfl⟩
theorem impl_TroubleAt.j0v_eq (x2 : Int) (x3 : Int) (x9 : Bool) (x441000 : Int) (x441001 : List Bool) (x441002 : List (S78)) (x442000 : Int) (x442001 : List Bool) (x442002 : List (S78)) : impl_TroubleAt.j0v x2 x3 x9 x441000 x441001 x441002 x442000 x442001 x442002 = if x9 = true then (some 1) else ((impl_NextPairs.fv x441000 x441001 x441002 x442000 x442001 x442002 x2 x3).bind fun t460 => (if (t460.length : Int) = 0 then ((impl_isEnd.f x441000 x441001 x441002 x2).bind fun t463 => (if t463 = true then ((impl_isEnd.f x442000 x442001 x442002 x3).bind fun t464 => (if t464 = true then (some 0) else (some 2))) else (some 2))) else (some 0))) := by
  refine Is.step (impl_TroubleAt.j0_is x2 x3 x9 x441000 x441001 x441002 x442000 x442001 x442002).mo (fun k => by rw [impl_TroubleAt.j0]) ?_
  · skip
    repeat' first
    | with_reducible exact impl_NextPairs.f_is _ _ _ _ _ _ _ _
    | with_reducible exact Is.now _
    | with_reducible refine Is.ite ?_ ?_
    | with_reducible refine Is.bind ?_ (fun _ => ?_)
theorem impl_TroubleAt.fv_eq (a0_0 : Int) (l0_1 : List Bool) (l0_2 : List (S78)) (a1_0 : Int) (l1_1 : List Bool) (l1_2 : List (S78)) (a2 : Int) (a3 : Int) : impl_TroubleAt.fv a0_0 l0_1 l0_2 a1_0 l1_1 l1_2 a2 a3 = (impl_MovesFrom.fv a0_0 l0_1 l0_2 a2 true).bind fun t442 => ((impl_MovesFrom.fv a1_0 l1_1 l1_2 a3 false).bind fun t445 => ((impl_without.fv t442 t445).bind fun t448 => (if (t448.length : Int) > 0 then (impl_TroubleAt.j0v a2 a3 true a0_0 l0_1 l0_2 a1_0 l1_1 l1_2) else ((impl_MovesFrom.fv a1_0 l1_1 l1_2 a3 true).bind fun t451 => ((impl_MovesFrom.fv a0_0 l0_1 l0_2 a2 false).bind fun t454 => ((impl_without.fv t451 t454).bind fun t457 => (impl_TroubleAt.j0v a2 a3 (decide ((t457.length : Int) > 0)) a0_0 l0_1 l0_2 a1_0 l1_1 l1_2))))))) := by
  refine Is.lim (g := fun k => impl_TroubleAt.f k a0_0 l0_1 l0_2 a1_0 l1_1 l1_2 a2 a3) ?_
  · unfold impl_TroubleAt.f
    repeat' first
    | with_reducible exact impl_MovesFrom.f_is _ _ _ _ _
    | with_reducible exact impl_TroubleAt.j0_is _ _ _ _ _ _ _ _ _
    | with_reducible exact impl_without.f_is _ _
    | with_reducible exact Is.now _
    | with_reducible refine Is.ite ?_ ?_
    | with_reducible refine Is.bind ?_ (fun _ => ?_)
noncomputable def impl_FirstTrouble.l0v (x9 : List (List Int)) (x10 : Int) (x11 : Int) (x466000 : Int) (x466001 : List Bool) (x466002 : List (S78)) (x467000 : Int) (x467001 : List Bool) (x467002 : List (S78)) : Option (List Int) := Lim fun k => impl_FirstTrouble.l0 k x9 x10 x11 x466000 x466001 x466002 x467000 x467001 x467002
noncomputable def impl_FirstTrouble.fv (a0_0 : Int) (l0_1 : List Bool) (l0_2 : List (S78)) (a1_0 : Int) (l1_1 : List Bool) (l1_2 : List (S78)) : Option (List Int) := Lim fun k => impl_FirstTrouble.f k a0_0 l0_1 l0_2 a1_0 l1_1 l1_2
theorem impl_FirstTrouble.l0_is (x9 : List (List Int)) (x10 : Int) (x11 : Int) (x466000 : Int) (x466001 : List Bool) (x466002 : List (S78)) (x467000 : Int) (x467001 : List Bool) (x467002 : List (S78)) : Is (fun k => impl_FirstTrouble.l0 k x9 x10 x11 x466000 x466001 x466002 x467000 x467001 x467002) (impl_FirstTrouble.l0v x9 x10 x11 x466000 x466001 x466002 x467000 x467001 x467002) := ⟨fun k => (impl_FirstTrouble.mono_l k) x9 x10 x11 x466000 x466001 x466002 x467000 x467001 x467002, rfl⟩
theorem impl_FirstTrouble.f_is (a0_0 : Int) (l0_1 : List Bool) (l0_2 : List (S78)) (a1_0 : Int) (l1_1 : List Bool) (l1_2 : List (S78)) : Is (fun k => impl_FirstTrouble.f k a0_0 l0_1 l0_2 a1_0 l1_1 l1_2) (impl_FirstTrouble.fv a0_0 l0_1 l0_2 a1_0 l1_1 l1_2) := ⟨fun k => impl_FirstTrouble.mono a0_0 l0_1 l0_2 a1_0 l1_1 l1_2 k, rfl⟩
theorem impl_FirstTrouble.l0v_eq (x9 : List (List Int)) (x10 : Int) (x11 : Int) (x466000 : Int) (x466001 : List Bool) (x466002 : List (S78)) (x467000 : Int) (x467001 : List Bool) (x467002 : List (S78)) : impl_FirstTrouble.l0v x9 x10 x11 x466000 x466001 x466002 x467000 x467001 x467002 = if x11 < x10 then (if 0 ≤ x11 then (if x11 < (x9.length : Int) then (if 0 < ((rd_L9 x9 x11).length : Int) then (if 1 < ((rd_L9 x9 x11).length : Int) then ((impl_TroubleAt.fv x466000 x466001 x466002 x467000 x467001 x467002 (rd (rd_L9 x9 x11) 0) (rd (rd_L9 x9 x11) 1)).bind fun t473 => (if t473 = 0 then (impl_FirstTrouble.l0v x9 x10 (wrap64 (x11 + 1)) x466000 x466001 x466002 x467000 x467001 x467002) else (some (rd_L9 x9 x11)))) else (none)) else (none)) else (none)) else (none)) else (some ([] : List Int)) := by
  refine Is.step (impl_FirstTrouble.l0_is x9 x10 x11 x466000 x466001 x466002 x467000 x467001 x467002).mo (fun k => by rw [impl_FirstTrouble.l0]) ?_
  · skip
    repeat' first
    | with_reducible exact impl_FirstTrouble.l0_is _ _ _ _ _ _ _ _ _
    | with_reducible exact impl_TroubleAt.f_is _ _ _ _ _ _ _ _
    | with_reducible exact Is.now _
    | with_reducible refine Is.ite ?_ ?_
    | with_reducible refine Is.bind ?_ (fun _ => ?_)
theorem impl_FirstTrouble.fv_eq (a0_0 : Int) (l0_1 : List Bool) (l0_2 : List (S78)) (a1_0 : Int) (l1_1 : List Bool) (l1_2 : List (S78)) : impl_FirstTrouble.fv a0_0 l0_1 l0_2 a1_0 l1_1 l1_2 = (impl_PairsOf.fv a0_0 l0_1 l0_2 a1_0 l1_1 l1_2).bind fun t467 => (impl_FirstTrouble.l0v t467 (t467.length : Int) 0 a0_0 l0_1 l0_2 a1_0 l1_1 l1_2) := by
  refine Is.lim (g := fun k => impl_FirstTrouble.f k a0_0 l0_1 l0_2 a1_0 l1_1 l1_2) ?_
  · unfold impl_FirstTrouble.f
    repeat' first
    | with_reducible exact impl_FirstTrouble.l0_is _ _ _ _ _ _ _ _ _
    | with_reducible exact impl_PairsOf.f_is _ _ _ _ _ _
    | with_reducible exact Is.now _
    | with_reducible refine Is.ite ?_ ?_
    | with_reducible refine Is.bind ?_ (fun _ => ?_)
noncomputable def impl_IsSafe.fv (a0_0 : Int) (l0_1 : List Bool) (l0_2 : List (S78)) (a1_0 : Int) (l1_1 : List Bool) (l1_2 : List (S78)) : Option (Bool) := Lim fun k => impl_IsSafe.f k a0_0 l0_1 l0_2 a1_0 l1_1 l1_2
theorem impl_IsSafe.f_is (a0_0 : Int) (l0_1 : List Bool) (l0_2 : List (S78)) (a1_0 : Int) (l1_1 : List Bool) (l1_2 : List (S78)) : Is (fun k => impl_IsSafe.f k a0_0 l0_1 l0_2 a1_0 l1_1 l1_2) (impl_IsSafe.fv a0_0 l0_1 l0_2 a1_0 l1_1 l1_2) := ⟨fun k => impl_IsSafe.mono a0_0 l0_1 l0_2 a1_0 l1_1 l1_2 k, rfl⟩
theorem impl_IsSafe.fv_eq (a0_0 : Int) (l0_1 : List Bool) (l0_2 : List (S78)) (a1_0 : Int) (l1_1 : List Bool) (l1_2 : List (S78)) : impl_IsSafe.fv a0_0 l0_1 l0_2 a1_0 l1_1 l1_2 = (impl_IsMachine.fv a0_0 l0_1 l0_2).bind fun t476 => (if t476 = true then ((impl_IsMachine.fv a1_0 l1_1 l1_2).bind fun t477 => (if t477 = true then ((impl_FirstTrouble.fv a0_0 l0_1 l0_2 a1_0 l1_1 l1_2).bind fun t478 => (some ((t478.length : Int) == 0))) else (some false))) else (some false)) := by
  refine Is.lim (g := fun k => impl_IsSafe.f k a0_0 l0_1 l0_2 a1_0 l1_1 l1_2) ?_
  · unfold impl_IsSafe.f
    repeat' first
    | with_reducible exact impl_FirstTrouble.f_is _ _ _ _ _ _
    | with_reducible exact impl_IsMachine.f_is _ _ _
    | with_reducible exact Is.now _
    | with_reducible refine Is.ite ?_ ?_
    | with_reducible refine Is.bind ?_ (fun _ => ?_)
end Go.Proofs.Ytldcchjbaglppaa.Print

/- Written by a program of this session (limx.py): the equations of what the printed functions come to. No condition. -/
namespace Go.Proofs.Ytldcchjbaglppaa.Print
open Go.RowKit Go.Proofs.YtldcchjbaglppaaW.PrintWords Go.Proofs.YtldcchjbaglppaaW.PrintLast Go.Proofs.Ytldcchjbaglppaa.Base
set_option linter.unusedVariables false
set_option maxRecDepth 20000
noncomputable def impl_WorksWith.l0v (x5 : List Int) (x9 : List (S34)) (x10 : Int) (x11 : Int) (x482000 : Int) (x482001 : List Bool) (x482002 : List (S78)) : Option (List Int) := Lim fun k => impl_WorksWith.l0 k x5 x9 x10 x11 x482000 x482001 x482002
noncomputable def impl_WorksWith.fv (l0 : List (S34)) (a1_0 : Int) (l1_1 : List Bool) (l1_2 : List (S78)) : Option (List Int) := Lim fun k => impl_WorksWith.f k l0 a1_0 l1_1 l1_2
theorem impl_WorksWith.l0_is (x5 : List Int) (x9 : List (S34)) (x10 : Int) (x11 : Int) (x482000 : Int) (x482001 : List Bool) (x482002 : List (S78)) : Is (fun k => impl_WorksWith.l0 k x5 x9 x10 x11 x482000 x482001 x482002) (impl_WorksWith.l0v x5 x9 x10 x11 x482000 x482001 x482002) := ⟨fun k => (impl_WorksWith.mono_l k) x5 x9 x10 x11 x482000 x482001 x482002, rfl⟩
theorem impl_WorksWith.f_is (l0 : List (S34)) (a1_0 : Int) (l1_1 : List Bool) (l1_2 : List (S78)) : Is (fun k => impl_WorksWith.f k l0 a1_0 l1_1 l1_2) (impl_WorksWith.fv l0 a1_0 l1_1 l1_2) := ⟨fun k => impl_WorksWith.mono l0 a1_0 l1_1 l1_2 k, rfl⟩
theorem impl_WorksWith.l0v_eq (x5 : List Int) (x9 : List (S34)) (x10 : Int) (x11 : Int) (x482000 : Int) (x482001 : List Bool) (x482002 : List (S78)) : impl_WorksWith.l0v x5 x9 x10 x11 x482000 x482001 x482002 = if x11 < x10 then (if 0 ≤ x11 then (if x11 < (x9.length : Int) then ((impl_IsSafe.fv ((rd_T34 x9 x11).f0) ((rd_T34 x9 x11).f1) ((rd_T34 x9 x11).f2) x482000 x482001 x482002).bind fun t487 => (if t487 = true then (if x5.length < 17592186044416 then (impl_WorksWith.l0v (x5 ++ [x11]) x9 x10 (wrap64 (x11 + 1)) x482000 x482001 x482002) else (none)) else (impl_WorksWith.l0v x5 x9 x10 (wrap64 (x11 + 1)) x482000 x482001 x482002))) else (none)) else (none)) else (some x5) := by
  refine Is.step (impl_WorksWith.l0_is x5 x9 x10 x11 x482000 x482001 x482002).mo (fun k => by rw [impl_WorksWith.l0]) ?_
  · skip
    repeat' first
    | with_reducible exact impl_IsSafe.f_is _ _ _ _ _ _
    | with_reducible exact impl_WorksWith.l0_is _ _ _ _ _ _ _
    | with_reducible exact Is.now _
    | with_reducible refine Is.ite ?_ ?_
    | with_reducible refine Is.bind ?_ (fun _ => ?_)
theorem impl_WorksWith.fv_eq (l0 : List (S34)) (a1_0 : Int) (l1_1 : List Bool) (l1_2 : List (S78)) : impl_WorksWith.fv l0 a1_0 l1_1 l1_2 = impl_WorksWith.l0v (([] : List Int)) l0 (l0.length : Int) 0 a1_0 l1_1 l1_2 := by
  refine Is.lim (g := fun k => impl_WorksWith.f k l0 a1_0 l1_1 l1_2) ?_
  · unfold impl_WorksWith.f
    repeat' first
    | with_reducible exact impl_WorksWith.l0_is _ _ _ _ _ _ _
    | with_reducible exact Is.now _
    | with_reducible refine Is.ite ?_ ?_
    | with_reducible refine Is.bind ?_ (fun _ => ?_)
noncomputable def laws_eqIntS.l0v (x0 : List Int) (x1 : List Int) (x5 : Int) : Option (Bool) := Lim fun k => laws_eqIntS.l0 k x0 x1 x5
noncomputable def laws_eqIntS.fv (l0 : List Int) (l1 : List Int) : Option (Bool) := Lim fun k => laws_eqIntS.f k l0 l1
theorem laws_eqIntS.l0_is (x0 : List Int) (x1 : List Int) (x5 : Int) : Is (fun k => laws_eqIntS.l0 k x0 x1 x5) (laws_eqIntS.l0v x0 x1 x5) := ⟨fun k => (laws_eqIntS.mono_l k) x0 x1 x5, rfl⟩
theorem laws_eqIntS.f_is (l0 : List Int) (l1 : List Int) : Is (fun k => laws_eqIntS.f k l0 l1) (laws_eqIntS.fv l0 l1) := ⟨fun k => laws_eqIntS.mono l0 l1 k, rfl⟩
theorem laws_eqIntS.l0v_eq (x0 : List Int) (x1 : List Int) (x5 : Int) : laws_eqIntS.l0v x0 x1 x5 = if x5 < (x0.length : Int) then (if 0 ≤ x5 then (if x5 < (x1.length : Int) then (if (rd x0 x5) = (rd x1 x5) then (laws_eqIntS.l0v x0 x1 (wrap64 (x5 + 1))) else (some false)) else (none)) else (none)) else (some true) := by
  refine Is.step (laws_eqIntS.l0_is x0 x1 x5).mo (fun k => by rw [laws_eqIntS.l0]) ?_
  · skip
    repeat' first
    | with_reducible exact laws_eqIntS.l0_is _ _ _
    | with_reducible exact Is.now _
    | with_reducible refine Is.ite ?_ ?_
    | with_reducible refine Is.bind ?_ (fun _ => ?_)
theorem laws_eqIntS.fv_eq (l0 : List Int) (l1 : List Int) : laws_eqIntS.fv l0 l1 = if (l0.length : Int) = (l1.length : Int) then (laws_eqIntS.l0v l0 l1 0) else (some false) := by
  refine Is.lim (g := fun k => laws_eqIntS.f k l0 l1) ?_
  · unfold laws_eqIntS.f
    repeat' first
    | with_reducible exact laws_eqIntS.l0_is _ _ _
    | with_reducible exact Is.now _
    | with_reducible refine Is.ite ?_ ?_
    | with_reducible refine Is.bind ?_ (fun _ => ?_)
noncomputable def laws_markBoolS.l0v (x0 : List Bool) (x1 : Int) (x5 : Int) : Option (Int × List Bool) := Lim fun k => laws_markBoolS.l0 k x0 x1 x5
noncomputable def laws_markBoolS.fv (l0 : List Bool) (a1 : Int) : Option (Int × List Bool) := Lim fun k => laws_markBoolS.f k l0 a1
theorem laws_markBoolS.l0_is (x0 : List Bool) (x1 : Int) (x5 : Int) : Is (fun k => laws_markBoolS.l0 k x0 x1 x5) (laws_markBoolS.l0v x0 x1 x5) := ⟨fun k => (laws_markBoolS.mono_l k) x0 x1 x5, rfl⟩
theorem laws_markBoolS.f_is (l0 : List Bool) (a1 : Int) : Is (fun k => laws_markBoolS.f k l0 a1) (laws_markBoolS.fv l0 a1) := ⟨fun k => laws_markBoolS.mono l0 a1 k, rfl⟩
theorem laws_markBoolS.l0v_eq (x0 : List Bool) (x1 : Int) (x5 : Int) : laws_markBoolS.l0v x0 x1 x5 = if x5 < (x0.length : Int) then (if 0 ≤ x5 then (laws_markBoolS.l0v (x0.set (x5 : Int).toNat ((Int.tmod x1 3) == 0)) (wrap64 (x1 + 1)) (wrap64 (x5 + 1))) else (none)) else (some (x1, x0)) := by
  refine Is.step (laws_markBoolS.l0_is x0 x1 x5).mo (fun k => by rw [laws_markBoolS.l0]) ?_
  · skip
    repeat' first
    | with_reducible exact laws_markBoolS.l0_is _ _ _
    | with_reducible exact Is.now _
    | with_reducible refine Is.ite ?_ ?_
    | with_reducible refine Is.bind ?_ (fun _ => ?_)
theorem laws_markBoolS.fv_eq (l0 : List Bool) (a1 : Int) : laws_markBoolS.fv l0 a1 = laws_markBoolS.l0v l0 a1 0 := by
  refine Is.lim (g := fun k => laws_markBoolS.f k l0 a1) ?_
  · unfold laws_markBoolS.f
    repeat' first
    | with_reducible exact laws_markBoolS.l0_is _ _ _
    | with_reducible exact Is.now _
    | with_reducible refine Is.ite ?_ ?_
    | with_reducible refine Is.bind ?_ (fun _ => ?_)
noncomputable def laws_markMoveS.l0v (x0 : List (S78)) (x1 : Int) (x5 : Int) : Option (Int × (List (S78))) := Lim fun k => laws_markMoveS.l0 k x0 x1 x5
noncomputable def laws_markMoveS.fv (l0 : List (S78)) (a1 : Int) : Option (Int × (List (S78))) := Lim fun k => laws_markMoveS.f k l0 a1
theorem laws_markMoveS.l0_is (x0 : List (S78)) (x1 : Int) (x5 : Int) : Is (fun k => laws_markMoveS.l0 k x0 x1 x5) (laws_markMoveS.l0v x0 x1 x5) := ⟨fun k => (laws_markMoveS.mono_l k) x0 x1 x5, rfl⟩
theorem laws_markMoveS.f_is (l0 : List (S78)) (a1 : Int) : Is (fun k => laws_markMoveS.f k l0 a1) (laws_markMoveS.fv l0 a1) := ⟨fun k => laws_markMoveS.mono l0 a1 k, rfl⟩
theorem laws_markMoveS.l0v_eq (x0 : List (S78)) (x1 : Int) (x5 : Int) : laws_markMoveS.l0v x0 x1 x5 = if x5 < (x0.length : Int) then (if 0 ≤ x5 then ((some (x0.set (x5 : Int).toNat (⟨x1, (rd_T78 x0 x5).f1, (rd_T78 x0 x5).f2, (rd_T78 x0 x5).f3⟩ : S78) : List (S78))).bind fun y494 => ((some (y494.set (x5 : Int).toNat (⟨(rd_T78 y494 x5).f0, ((Int.tmod (wrap64 (x1 + 1)) 3) == 0), (rd_T78 y494 x5).f2, (rd_T78 y494 x5).f3⟩ : S78) : List (S78))).bind fun y495 => ((some (y495.set (x5 : Int).toNat (⟨(rd_T78 y495 x5).f0, (rd_T78 y495 x5).f1, wrap64 ((wrap64 (x1 + 1)) + 1), (rd_T78 y495 x5).f3⟩ : S78) : List (S78))).bind fun y496 => (laws_markMoveS.l0v (y496.set (x5 : Int).toNat (⟨(rd_T78 y496 x5).f0, (rd_T78 y496 x5).f1, (rd_T78 y496 x5).f2, wrap64 ((wrap64 ((wrap64 (x1 + 1)) + 1)) + 1)⟩ : S78)) (wrap64 ((wrap64 ((wrap64 ((wrap64 (x1 + 1)) + 1)) + 1)) + 1)) (wrap64 (x5 + 1)))))) else (none)) else (some (x1, x0)) := by
  refine Is.step (laws_markMoveS.l0_is x0 x1 x5).mo (fun k => by rw [laws_markMoveS.l0]) ?_
  · skip
    repeat' first
    | with_reducible exact laws_markMoveS.l0_is _ _ _
    | with_reducible exact Is.now _
    | with_reducible refine Is.ite ?_ ?_
    | with_reducible refine Is.bind ?_ (fun _ => ?_)
theorem laws_markMoveS.fv_eq (l0 : List (S78)) (a1 : Int) : laws_markMoveS.fv l0 a1 = laws_markMoveS.l0v l0 a1 0 := by
  refine Is.lim (g := fun k => laws_markMoveS.f k l0 a1) ?_
  · unfold laws_markMoveS.f
    repeat' first
    | with_reducible exact laws_markMoveS.l0_is _ _ _
    | with_reducible exact Is.now _
    | with_reducible refine Is.ite ?_ ?_
    | with_reducible refine Is.bind ?_ (fun _ => ?_)
noncomputable def laws_markMachineS.l0v (x0 : List (S34)) (x1 : Int) (x5 : Int) : Option (Int) := Lim fun k => laws_markMachineS.l0 k x0 x1 x5
noncomputable def laws_markMachineS.fv (l0 : List (S34)) (a1 : Int) : Option (Int) := Lim fun k => laws_markMachineS.f k l0 a1
theorem laws_markMachineS.l0_is (x0 : List (S34)) (x1 : Int) (x5 : Int) : Is (fun k => laws_markMachineS.l0 k x0 x1 x5) (laws_markMachineS.l0v x0 x1 x5) := ⟨fun k => (laws_markMachineS.mono_l k) x0 x1 x5, rfl⟩
theorem laws_markMachineS.f_is (l0 : List (S34)) (a1 : Int) : Is (fun k => laws_markMachineS.f k l0 a1) (laws_markMachineS.fv l0 a1) := ⟨fun k => laws_markMachineS.mono l0 a1 k, rfl⟩
theorem laws_markMachineS.l0v_eq (x0 : List (S34)) (x1 : Int) (x5 : Int) : laws_markMachineS.l0v x0 x1 x5 = if x5 < (x0.length : Int) then (if 0 ≤ x5 then ((laws_markBoolS.fv (rd_T34 x0 x5).f1 (wrap64 (x1 + 1))).bind fun bt1 => ((laws_markMoveS.fv (rd_T34 x0 x5).f2 bt1.1).bind fun bt2 => (laws_markMachineS.l0v (x0.set (x5 : Int).toNat (⟨x1, bt1.2, bt2.2⟩ : S34)) bt2.1 (wrap64 (x5 + 1))))) else (none)) else (some x1) := by
  refine Is.step (laws_markMachineS.l0_is x0 x1 x5).mo (fun k => by rw [laws_markMachineS.l0]) ?_
  · skip
    repeat' first
    | with_reducible exact laws_markBoolS.f_is _ _
    | with_reducible exact laws_markMachineS.l0_is _ _ _
    | with_reducible exact laws_markMoveS.f_is _ _
    | with_reducible exact Is.now _
    | with_reducible refine Is.ite ?_ ?_
    | with_reducible refine Is.bind ?_ (fun _ => ?_)
theorem laws_markMachineS.fv_eq (l0 : List (S34)) (a1 : Int) : laws_markMachineS.fv l0 a1 = laws_markMachineS.l0v l0 a1 0 := by
  refine Is.lim (g := fun k => laws_markMachineS.f k l0 a1) ?_
  · unfold laws_markMachineS.f
    repeat' first
    | with_reducible exact laws_markMachineS.l0_is _ _ _
    | with_reducible exact Is.now _
    | with_reducible refine Is.ite ?_ ?_
    | with_reducible refine Is.bind ?_ (fun _ => ?_)
noncomputable def laws_markMachine.fv (a0_0 : Int) (l0_1 : List Bool) (l0_2 : List (S78)) (a1 : Int) : Option (Int × List Bool × (List (S78))) := Lim fun k => laws_markMachine.f k a0_0 l0_1 l0_2 a1
theorem laws_markMachine.f_is (a0_0 : Int) (l0_1 : List Bool) (l0_2 : List (S78)) (a1 : Int) : Is (fun k => laws_markMachine.f k a0_0 l0_1 l0_2 a1) (laws_markMachine.fv a0_0 l0_1 l0_2 a1) := ⟨fun k => laws_markMachine.mono a0_0 l0_1 l0_2 a1 k, rfl⟩
theorem laws_markMachine.fv_eq (a0_0 : Int) (l0_1 : List Bool) (l0_2 : List (S78)) (a1 : Int) : laws_markMachine.fv a0_0 l0_1 l0_2 a1 = (laws_markBoolS.fv l0_1 a1).bind fun bt499 => ((laws_markMoveS.fv l0_2 bt499.1).bind fun bt501 => (some (bt501.1, bt499.2, bt501.2))) := by
  refine Is.lim (g := fun k => laws_markMachine.f k a0_0 l0_1 l0_2 a1) ?_
  · unfold laws_markMachine.f
    repeat' first
    | with_reducible exact laws_markBoolS.f_is _ _
    | with_reducible exact laws_markMoveS.f_is _ _
    | with_reducible exact Is.now _
    | with_reducible refine Is.ite ?_ ?_
    | with_reducible refine Is.bind ?_ (fun _ => ?_)
noncomputable def laws_markIntS.l0v (x0 : List Int) (x1 : Int) (x5 : Int) : Option (Int × List Int) := Lim fun k => laws_markIntS.l0 k x0 x1 x5
noncomputable def laws_markIntS.fv (l0 : List Int) (a1 : Int) : Option (Int × List Int) := Lim fun k => laws_markIntS.f k l0 a1
theorem laws_markIntS.l0_is (x0 : List Int) (x1 : Int) (x5 : Int) : Is (fun k => laws_markIntS.l0 k x0 x1 x5) (laws_markIntS.l0v x0 x1 x5) := ⟨fun k => (laws_markIntS.mono_l k) x0 x1 x5, rfl⟩
theorem laws_markIntS.f_is (l0 : List Int) (a1 : Int) : Is (fun k => laws_markIntS.f k l0 a1) (laws_markIntS.fv l0 a1) := ⟨fun k => laws_markIntS.mono l0 a1 k, rfl⟩
theorem laws_markIntS.l0v_eq (x0 : List Int) (x1 : Int) (x5 : Int) : laws_markIntS.l0v x0 x1 x5 = if x5 < (x0.length : Int) then (if 0 ≤ x5 then (laws_markIntS.l0v (x0.set (x5 : Int).toNat x1) (wrap64 (x1 + 1)) (wrap64 (x5 + 1))) else (none)) else (some (x1, x0)) := by
  refine Is.step (laws_markIntS.l0_is x0 x1 x5).mo (fun k => by rw [laws_markIntS.l0]) ?_
  · skip
    repeat' first
    | with_reducible exact laws_markIntS.l0_is _ _ _
    | with_reducible exact Is.now _
    | with_reducible refine Is.ite ?_ ?_
    | with_reducible refine Is.bind ?_ (fun _ => ?_)
theorem laws_markIntS.fv_eq (l0 : List Int) (a1 : Int) : laws_markIntS.fv l0 a1 = laws_markIntS.l0v l0 a1 0 := by
  refine Is.lim (g := fun k => laws_markIntS.f k l0 a1) ?_
  · unfold laws_markIntS.f
    repeat' first
    | with_reducible exact laws_markIntS.l0_is _ _ _
    | with_reducible exact Is.now _
    | with_reducible refine Is.ite ?_ ?_
    | with_reducible refine Is.bind ?_ (fun _ => ?_)
end Go.Proofs.Ytldcchjbaglppaa.Print

/- Written by a program of this session (limx.py): the equations of what the printed functions come to. No condition. -/
namespace Go.Proofs.Ytldcchjbaglppaa.Print
open Go.RowKit Go.Proofs.YtldcchjbaglppaaW.PrintWords Go.Proofs.YtldcchjbaglppaaW.PrintLast Go.Proofs.Ytldcchjbaglppaa.Base
set_option linter.unusedVariables false
set_option maxRecDepth 20000
noncomputable def spec_l4Put.l0v (x0 : List Int) (x1 : Int) (x5 : Int) : Option (List Int) := Lim fun k => spec_l4Put.l0 k x0 x1 x5
noncomputable def spec_l4Put.fv (l0 : List Int) (a1 : Int) : Option (List Int) := Lim fun k => spec_l4Put.f k l0 a1
theorem spec_l4Put.l0_is (x0 : List Int) (x1 : Int) (x5 : Int) : Is (fun k => spec_l4Put.l0 k x0 x1 x5) (spec_l4Put.l0v x0 x1 x5) := ⟨fun k => (spec_l4Put.mono_l k) x0 x1 x5, rfl⟩
theorem spec_l4Put.f_is (l0 : List Int) (a1 : Int) : Is (fun k => spec_l4Put.f k l0 a1) (spec_l4Put.fv l0 a1) := ⟨fun k => spec_l4Put.mono l0 a1 k, rfl⟩
theorem spec_l4Put.l0v_eq (x0 : List Int) (x1 : Int) (x5 : Int) : spec_l4Put.l0v x0 x1 x5 = if x5 < (x0.length : Int) then (if 0 ≤ x5 then (if (rd x0 x5) < x1 then (spec_l4Put.l0v x0 x1 (wrap64 (x5 + 1))) else (if (rd x0 x5) = x1 then ((some (([] : List Int) : List Int)).bind fun y163 => (if y163.length + x0.length < 17592186044416 then (some (y163 ++ x0)) else (none))) else ((some (([] : List Int) : List Int)).bind fun y169 => (if x5 ≤ (x0.length : Int) then (if y169.length + (x0.take (x5 : Int).toNat).length < 17592186044416 then ((some (y169 ++ (x0.take (x5 : Int).toNat) : List Int)).bind fun y173 => ((some (([x1] : List Int) : List Int)).bind fun y176 => (if y173.length + y176.length < 17592186044416 then ((some (y173 ++ y176 : List Int)).bind fun y179 => (if y179.length + (x0.drop (x5 : Int).toNat).length < 17592186044416 then (some (y179 ++ (x0.drop (x5 : Int).toNat))) else (none))) else (none)))) else (none)) else (none))))) else (none)) else ((some (([] : List Int) : List Int)).bind fun y186 => (if 0 ≤ x5 then (if x5 ≤ (x0.length : Int) then (if y186.length + (x0.take (x5 : Int).toNat).length < 17592186044416 then ((some (y186 ++ (x0.take (x5 : Int).toNat) : List Int)).bind fun y190 => ((some (([x1] : List Int) : List Int)).bind fun y193 => (if y190.length + y193.length < 17592186044416 then ((some (y190 ++ y193 : List Int)).bind fun y196 => (if y196.length + (x0.drop (x5 : Int).toNat).length < 17592186044416 then (some (y196 ++ (x0.drop (x5 : Int).toNat))) else (none))) else (none)))) else (none)) else (none)) else (none))) := by
  refine Is.step (spec_l4Put.l0_is x0 x1 x5).mo (fun k => by rw [spec_l4Put.l0]) ?_
  · skip
    repeat' first
    | with_reducible exact spec_l4Put.l0_is _ _ _
    | with_reducible exact Is.now _
    | with_reducible refine Is.ite ?_ ?_
    | with_reducible refine Is.bind ?_ (fun _ => ?_)
theorem spec_l4Put.fv_eq (l0 : List Int) (a1 : Int) : spec_l4Put.fv l0 a1 = spec_l4Put.l0v l0 a1 0 := by
  refine Is.lim (g := fun k => spec_l4Put.f k l0 a1) ?_
  · unfold spec_l4Put.f
    repeat' first
    | with_reducible exact spec_l4Put.l0_is _ _ _
    | with_reducible exact Is.now _
    | with_reducible refine Is.ite ?_ ?_
    | with_reducible refine Is.bind ?_ (fun _ => ?_)
noncomputable def spec_MovesFrom.l0v (x1 : Int) (x2 : Bool) (x7 : List Int) (x8 : Int) (x204000 : Int) (x204001 : List Bool) (x204002 : List (S78)) : Option (List Int) := Lim fun k => spec_MovesFrom.l0 k x1 x2 x7 x8 x204000 x204001 x204002
noncomputable def spec_MovesFrom.fv (a0_0 : Int) (l0_1 : List Bool) (l0_2 : List (S78)) (a1 : Int) (a2 : Bool) : Option (List Int) := Lim fun k => spec_MovesFrom.f k a0_0 l0_1 l0_2 a1 a2
theorem spec_MovesFrom.l0_is (x1 : Int) (x2 : Bool) (x7 : List Int) (x8 : Int) (x204000 : Int) (x204001 : List Bool) (x204002 : List (S78)) : Is (fun k => spec_MovesFrom.l0 k x1 x2 x7 x8 x204000 x204001 x204002) (spec_MovesFrom.l0v x1 x2 x7 x8 x204000 x204001 x204002) := ⟨fun k => (spec_MovesFrom.mono_l k) x1 x2 x7 x8 x204000 x204001 x204002, rfl⟩
theorem spec_MovesFrom.f_is (a0_0 : Int) (l0_1 : List Bool) (l0_2 : List (S78)) (a1 : Int) (a2 : Bool) : Is (fun k => spec_MovesFrom.f k a0_0 l0_1 l0_2 a1 a2) (spec_MovesFrom.fv a0_0 l0_1 l0_2 a1 a2) := ⟨fun k => spec_MovesFrom.mono a0_0 l0_1 l0_2 a1 a2 k, rfl⟩
theorem spec_MovesFrom.l0v_eq (x1 : Int) (x2 : Bool) (x7 : List Int) (x8 : Int) (x204000 : Int) (x204001 : List Bool) (x204002 : List (S78)) : spec_MovesFrom.l0v x1 x2 x7 x8 x204000 x204001 x204002 = if x8 < (x204002.length : Int) then (if 0 ≤ x8 then (if ((rd_T78 x204002 x8).f0) = x1 then (if (((rd_T78 x204002 x8).f1) == x2) = true then ((spec_l4Put.fv x7 ((rd_T78 x204002 x8).f2)).bind fun t210 => (spec_MovesFrom.l0v x1 x2 t210 (wrap64 (x8 + 1)) x204000 x204001 x204002)) else (spec_MovesFrom.l0v x1 x2 x7 (wrap64 (x8 + 1)) x204000 x204001 x204002)) else (spec_MovesFrom.l0v x1 x2 x7 (wrap64 (x8 + 1)) x204000 x204001 x204002)) else (none)) else (some x7) := by
  refine Is.step (spec_MovesFrom.l0_is x1 x2 x7 x8 x204000 x204001 x204002).mo (fun k => by rw [spec_MovesFrom.l0]) ?_
  · skip
    repeat' first
    | with_reducible exact spec_MovesFrom.l0_is _ _ _ _ _ _ _
    | with_reducible exact spec_l4Put.f_is _ _
    | with_reducible exact Is.now _
    | with_reducible refine Is.ite ?_ ?_
    | with_reducible refine Is.bind ?_ (fun _ => ?_)
theorem spec_MovesFrom.fv_eq (a0_0 : Int) (l0_1 : List Bool) (l0_2 : List (S78)) (a1 : Int) (a2 : Bool) : spec_MovesFrom.fv a0_0 l0_1 l0_2 a1 a2 = spec_MovesFrom.l0v a1 a2 (([] : List Int)) 0 a0_0 l0_1 l0_2 := by
  refine Is.lim (g := fun k => spec_MovesFrom.f k a0_0 l0_1 l0_2 a1 a2) ?_
  · unfold spec_MovesFrom.f
    repeat' first
    | with_reducible exact spec_MovesFrom.l0_is _ _ _ _ _ _ _
    | with_reducible exact Is.now _
    | with_reducible refine Is.ite ?_ ?_
    | with_reducible refine Is.bind ?_ (fun _ => ?_)
end Go.Proofs.Ytldcchjbaglppaa.Print

/- Written by a program of this session (limx.py): the equations of what the printed functions come to. No condition. -/
namespace Go.Proofs.Ytldcchjbaglppaa.Print
open Go.RowKit Go.Proofs.YtldcchjbaglppaaW.PrintWords Go.Proofs.YtldcchjbaglppaaW.PrintLast Go.Proofs.Ytldcchjbaglppaa.Base
set_option linter.unusedVariables false
set_option maxRecDepth 20000
noncomputable def spec_IsMachine.j0v (x22 : Bool) (x214000 : Int) (x214001 : List Bool) (x214002 : List (S78)) : Option (Bool) := Lim fun k => spec_IsMachine.j0 k x22 x214000 x214001 x214002
noncomputable def spec_IsMachine.l0v (x3 : Int) (x214000 : Int) (x214001 : List Bool) (x214002 : List (S78)) : Option (Bool) := Lim fun k => spec_IsMachine.l0 k x3 x214000 x214001 x214002
noncomputable def spec_IsMachine.fv (a0_0 : Int) (l0_1 : List Bool) (l0_2 : List (S78)) : Option (Bool) := Lim fun k => spec_IsMachine.f k a0_0 l0_1 l0_2
theorem spec_IsMachine.j0_is (x22 : Bool) (x214000 : Int) (x214001 : List Bool) (x214002 : List (S78)) : Is (fun k => spec_IsMachine.j0 k x22 x214000 x214001 x214002) (spec_IsMachine.j0v x22 x214000 x214001 x214002) := ⟨fun k => (spec_IsMachine.mono_l k).1 x22 x214000 x214001 x214002, rfl⟩
theorem spec_IsMachine.l0_is (x3 : Int) (x214000 : Int) (x214001 : List Bool) (x214002 : List (S78)) : Is (fun k => spec_IsMachine.l0 k x3 x214000 x214001 x214002) (spec_IsMachine.l0v x3 x214000 x214001 x214002) := ⟨fun k => (spec_IsMachine.mono_l k).2 x3 x214000 x214001 x214002, rfl⟩
theorem spec_IsMachine.f_is (a0_0 : Int) (l0_1 : List Bool) (l0_2 : List (S78)) : Is (fun k => spec_IsMachine.f k a0_0 l0_1 l0_2) (spec_IsMachine.fv a0_0 l0_1 l0_2) := ⟨fun k => spec_IsMachine.mono a0_0 l0_1 l0_2 k, rfl⟩
theorem spec_IsMachine.j0v_eq (x22 : Bool) (x214000 : Int) (x214001 : List Bool) (x214002 : List (S78)) : spec_IsMachine.j0v x22 x214000 x214001 x214002 = if x22 = true then (some false) else (spec_IsMachine.l0v 0 x214000 x214001 x214002) := by
  refine Is.step (spec_IsMachine.j0_is x22 x214000 x214001 x214002).mo (fun k => by rw [spec_IsMachine.j0]) ?_
  · skip
    repeat' first
    | with_reducible exact spec_IsMachine.l0_is _ _ _ _
    | with_reducible exact Is.now _
    | with_reducible refine Is.ite ?_ ?_
    | with_reducible refine Is.bind ?_ (fun _ => ?_)
theorem spec_IsMachine.l0v_eq (x3 : Int) (x214000 : Int) (x214001 : List Bool) (x214002 : List (S78)) : spec_IsMachine.l0v x3 x214000 x214001 x214002 = if x3 < (x214002.length : Int) then (if 0 ≤ x3 then ((spec_l1In.f ((rd_T78 x214002 x3).f0) 0 (wrap64 (x214000 - 1))).bind fun t217 => (if t217 = true then ((spec_l1In.f ((rd_T78 x214002 x3).f3) 0 (wrap64 (x214000 - 1))).bind fun t218 => (if t218 = true then ((spec_l1In.f ((rd_T78 x214002 x3).f2) 0 5).bind fun t219 => (if t219 = true then ((spec_MoveOf.fv x214000 x214001 x214002 ((rd_T78 x214002 x3).f0) ((rd_T78 x214002 x3).f1) ((rd_T78 x214002 x3).f2)).bind fun t220 => (if t220 < x3 then (some false) else ((spec_MovesFrom.fv x214000 x214001 x214002 ((rd_T78 x214002 x3).f0) (!((rd_T78 x214002 x3).f1))).bind fun t221 => (if (t221.length : Int) > 0 then (some false) else (spec_IsMachine.l0v (wrap64 (x3 + 1)) x214000 x214001 x214002))))) else (some false))) else (some false))) else (some false))) else (none)) else (some true) := by
  refine Is.step (spec_IsMachine.l0_is x3 x214000 x214001 x214002).mo (fun k => by rw [spec_IsMachine.l0]) ?_
  · skip
    repeat' first
    | with_reducible exact spec_IsMachine.l0_is _ _ _ _
    | with_reducible exact spec_MoveOf.f_is _ _ _ _ _ _
    | with_reducible exact spec_MovesFrom.f_is _ _ _ _ _
    | with_reducible exact Is.now _
    | with_reducible refine Is.ite ?_ ?_
    | with_reducible refine Is.bind ?_ (fun _ => ?_)
theorem spec_IsMachine.fv_eq (a0_0 : Int) (l0_1 : List Bool) (l0_2 : List (S78)) : spec_IsMachine.fv a0_0 l0_1 l0_2 = (spec_l1In.f a0_0 1 6).bind fun t214 => (if t214 = true then (if (l0_1.length : Int) = a0_0 then (spec_IsMachine.j0v (decide ((l0_2.length : Int) > 12)) a0_0 l0_1 l0_2) else (spec_IsMachine.j0v true a0_0 l0_1 l0_2)) else (spec_IsMachine.j0v true a0_0 l0_1 l0_2)) := by
  refine Is.lim (g := fun k => spec_IsMachine.f k a0_0 l0_1 l0_2) ?_
  · unfold spec_IsMachine.f
    repeat' first
    | with_reducible exact spec_IsMachine.j0_is _ _ _ _
    | with_reducible exact Is.now _
    | with_reducible refine Is.ite ?_ ?_
    | with_reducible refine Is.bind ?_ (fun _ => ?_)
noncomputable def spec_EqualInts.l0v (x0 : List Int) (x1 : List Int) (x5 : Int) : Option (Bool) := Lim fun k => spec_EqualInts.l0 k x0 x1 x5
noncomputable def spec_EqualInts.fv (l0 : List Int) (l1 : List Int) : Option (Bool) := Lim fun k => spec_EqualInts.f k l0 l1
theorem spec_EqualInts.l0_is (x0 : List Int) (x1 : List Int) (x5 : Int) : Is (fun k => spec_EqualInts.l0 k x0 x1 x5) (spec_EqualInts.l0v x0 x1 x5) := ⟨fun k => (spec_EqualInts.mono_l k) x0 x1 x5, rfl⟩
theorem spec_EqualInts.f_is (l0 : List Int) (l1 : List Int) : Is (fun k => spec_EqualInts.f k l0 l1) (spec_EqualInts.fv l0 l1) := ⟨fun k => spec_EqualInts.mono l0 l1 k, rfl⟩
theorem spec_EqualInts.l0v_eq (x0 : List Int) (x1 : List Int) (x5 : Int) : spec_EqualInts.l0v x0 x1 x5 = if x5 < (x0.length : Int) then (if 0 ≤ x5 then (if x5 < (x1.length : Int) then (if (rd x0 x5) = (rd x1 x5) then (spec_EqualInts.l0v x0 x1 (wrap64 (x5 + 1))) else (some false)) else (none)) else (none)) else (some true) := by
  refine Is.step (spec_EqualInts.l0_is x0 x1 x5).mo (fun k => by rw [spec_EqualInts.l0]) ?_
  · skip
    repeat' first
    | with_reducible exact spec_EqualInts.l0_is _ _ _
    | with_reducible exact Is.now _
    | with_reducible refine Is.ite ?_ ?_
    | with_reducible refine Is.bind ?_ (fun _ => ?_)
theorem spec_EqualInts.fv_eq (l0 : List Int) (l1 : List Int) : spec_EqualInts.fv l0 l1 = if (l0.length : Int) = (l1.length : Int) then (spec_EqualInts.l0v l0 l1 0) else (some false) := by
  refine Is.lim (g := fun k => spec_EqualInts.f k l0 l1) ?_
  · unfold spec_EqualInts.f
    repeat' first
    | with_reducible exact spec_EqualInts.l0_is _ _ _
    | with_reducible exact Is.now _
    | with_reducible refine Is.ite ?_ ?_
    | with_reducible refine Is.bind ?_ (fun _ => ?_)
noncomputable def spec_l14Has.l0v (x0 : List (List Int)) (x1 : List Int) (x5 : Int) : Option (Bool) := Lim fun k => spec_l14Has.l0 k x0 x1 x5
noncomputable def spec_l14Has.fv (l0 : List (List Int)) (l1 : List Int) : Option (Bool) := Lim fun k => spec_l14Has.f k l0 l1
theorem spec_l14Has.l0_is (x0 : List (List Int)) (x1 : List Int) (x5 : Int) : Is (fun k => spec_l14Has.l0 k x0 x1 x5) (spec_l14Has.l0v x0 x1 x5) := ⟨fun k => (spec_l14Has.mono_l k) x0 x1 x5, rfl⟩
theorem spec_l14Has.f_is (l0 : List (List Int)) (l1 : List Int) : Is (fun k => spec_l14Has.f k l0 l1) (spec_l14Has.fv l0 l1) := ⟨fun k => spec_l14Has.mono l0 l1 k, rfl⟩
theorem spec_l14Has.l0v_eq (x0 : List (List Int)) (x1 : List Int) (x5 : Int) : spec_l14Has.l0v x0 x1 x5 = if x5 < (x0.length : Int) then (if 0 ≤ x5 then ((spec_EqualInts.fv (rd_L9 x0 x5) x1).bind fun t227 => (if t227 = true then (some true) else (spec_l14Has.l0v x0 x1 (wrap64 (x5 + 1))))) else (none)) else (some false) := by
  refine Is.step (spec_l14Has.l0_is x0 x1 x5).mo (fun k => by rw [spec_l14Has.l0]) ?_
  · skip
    repeat' first
    | with_reducible exact spec_EqualInts.f_is _ _
    | with_reducible exact spec_l14Has.l0_is _ _ _
    | with_reducible exact Is.now _
    | with_reducible refine Is.ite ?_ ?_
    | with_reducible refine Is.bind ?_ (fun _ => ?_)
theorem spec_l14Has.fv_eq (l0 : List (List Int)) (l1 : List Int) : spec_l14Has.fv l0 l1 = spec_l14Has.l0v l0 l1 0 := by
  refine Is.lim (g := fun k => spec_l14Has.f k l0 l1) ?_
  · unfold spec_l14Has.f
    repeat' first
    | with_reducible exact spec_l14Has.l0_is _ _ _
    | with_reducible exact Is.now _
    | with_reducible refine Is.ite ?_ ?_
    | with_reducible refine Is.bind ?_ (fun _ => ?_)
end Go.Proofs.Ytldcchjbaglppaa.Print

/- Written by a program of this session (limx.py): the equations of what the printed functions come to. No condition. -/
namespace Go.Proofs.Ytldcchjbaglppaa.Print
open Go.RowKit Go.Proofs.YtldcchjbaglppaaW.PrintWords Go.Proofs.YtldcchjbaglppaaW.PrintLast Go.Proofs.Ytldcchjbaglppaa.Base
set_option linter.unusedVariables false
set_option maxRecDepth 20000
noncomputable def spec_NextPairs.l0v (x2 : Int) (x3 : Int) (x9 : List (List Int)) (x10 : List Int) (x11 : Int) (x229000 : Int) (x229001 : List Bool) (x229002 : List (S78)) (x230000 : Int) (x230001 : List Bool) (x230002 : List (S78)) : Option ((List (List Int))) := Lim fun k => spec_NextPairs.l0 k x2 x3 x9 x10 x11 x229000 x229001 x229002 x230000 x230001 x230002
noncomputable def spec_NextPairs.l1v (x2 : Int) (x3 : Int) (x9 : List (List Int)) (x10 : List Int) (x13 : Int) (x229000 : Int) (x229001 : List Bool) (x229002 : List (S78)) (x230000 : Int) (x230001 : List Bool) (x230002 : List (S78)) : Option ((List (List Int))) := Lim fun k => spec_NextPairs.l1 k x2 x3 x9 x10 x13 x229000 x229001 x229002 x230000 x230001 x230002
noncomputable def spec_NextPairs.fv (a0_0 : Int) (l0_1 : List Bool) (l0_2 : List (S78)) (a1_0 : Int) (l1_1 : List Bool) (l1_2 : List (S78)) (a2 : Int) (a3 : Int) : Option ((List (List Int))) := Lim fun k => spec_NextPairs.f k a0_0 l0_1 l0_2 a1_0 l1_1 l1_2 a2 a3
theorem spec_NextPairs.l0_is (x2 : Int) (x3 : Int) (x9 : List (List Int)) (x10 : List Int) (x11 : Int) (x229000 : Int) (x229001 : List Bool) (x229002 : List (S78)) (x230000 : Int) (x230001 : List Bool) (x230002 : List (S78)) : Is (fun k => spec_NextPairs.l0 k x2 x3 x9 x10 x11 x229000 x229001 x229002 x230000 x230001 x230002) (spec_NextPairs.l0v x2 x3 x9 x10 x11 x229000 x229001 x229002 x230000 x230001 x230002) := ⟨fun k => (spec_NextPairs.mono_l k).1 x2 x3 x9 x10 x11 x229000 x229001 x229002 x230000 x230001 x230002, rfl⟩
theorem spec_NextPairs.l1_is (x2 : Int) (x3 : Int) (x9 : List (List Int)) (x10 : List Int) (x13 : Int) (x229000 : Int) (x229001 : List Bool) (x229002 : List (S78)) (x230000 : Int) (x230001 : List Bool) (x230002 : List (S78)) : Is (fun k => spec_NextPairs.l1 k x2 x3 x9 x10 x13 x229000 x229001 x229002 x230000 x230001 x230002) (spec_NextPairs.l1v x2 x3 x9 x10 x13 x229000 x229001 x229002 x230000 x230001 x230002) := ⟨fun k => (spec_NextPairs.mono_l k).2 x2 x3 x9 x10 x13 x229000 x229001 x229002 x230000 x230001 x230002, rfl⟩
theorem spec_NextPairs.f_is (a0_0 : Int) (l0_1 : List Bool) (l0_2 : List (S78)) (a1_0 : Int) (l1_1 : List Bool) (l1_2 : List (S78)) (a2 : Int) (a3 : Int) : Is (fun k => spec_NextPairs.f k a0_0 l0_1 l0_2 a1_0 l1_1 l1_2 a2 a3) (spec_NextPairs.fv a0_0 l0_1 l0_2 a1_0 l1_1 l1_2 a2 a3) := ⟨fun k => spec_NextPairs.mono a0_0 l0_1 l0_2 a1_0 l1_1 l1_2 a2 a3 k, rfl⟩
theorem spec_NextPairs.l0v_eq (x2 : Int) (x3 : Int) (x9 : List (List Int)) (x10 : List Int) (x11 : Int) (x229000 : Int) (x229001 : List Bool) (x229002 : List (S78)) (x230000 : Int) (x230001 : List Bool) (x230002 : List (S78)) : spec_NextPairs.l0v x2 x3 x9 x10 x11 x229000 x229001 x229002 x230000 x230001 x230002 = if x11 < (x10.length : Int) then (if 0 ≤ x11 then ((spec_MoveOf.fv x230000 x230001 x230002 x3 false (rd x10 x11)).bind fun t237 => (if t237 ≥ 0 then ((spec_MoveOf.fv x229000 x229001 x229002 x2 true (rd x10 x11)).bind fun t239 => (if 0 ≤ t239 then (if t239 < (x229002.length : Int) then (if 0 ≤ t237 then (if t237 < (x230002.length : Int) then (if x9.length < 5864062014805 then (spec_NextPairs.l0v x2 x3 (x9 ++ [(([(rd_T78 x229002 t239).f3, (rd_T78 x230002 t237).f3] : List Int))]) x10 (wrap64 (x11 + 1)) x229000 x229001 x229002 x230000 x230001 x230002) else (none)) else (none)) else (none)) else (none)) else (none))) else (spec_NextPairs.l0v x2 x3 x9 x10 (wrap64 (x11 + 1)) x229000 x229001 x229002 x230000 x230001 x230002))) else (none)) else ((spec_MovesFrom.fv x230000 x230001 x230002 x3 true).bind fun t248 => (spec_NextPairs.l1v x2 x3 x9 t248 0 x229000 x229001 x229002 x230000 x230001 x230002)) := by
  refine Is.step (spec_NextPairs.l0_is x2 x3 x9 x10 x11 x229000 x229001 x229002 x230000 x230001 x230002).mo (fun k => by rw [spec_NextPairs.l0]) ?_
  · skip
    repeat' first
    | with_reducible exact spec_MoveOf.f_is _ _ _ _ _ _
    | with_reducible exact spec_MovesFrom.f_is _ _ _ _ _
    | with_reducible exact spec_NextPairs.l0_is _ _ _ _ _ _ _ _ _ _ _
    | with_reducible exact spec_NextPairs.l1_is _ _ _ _ _ _ _ _ _ _ _
    | with_reducible exact Is.now _
    | with_reducible refine Is.ite ?_ ?_
    | with_reducible refine Is.bind ?_ (fun _ => ?_)
theorem spec_NextPairs.l1v_eq (x2 : Int) (x3 : Int) (x9 : List (List Int)) (x10 : List Int) (x13 : Int) (x229000 : Int) (x229001 : List Bool) (x229002 : List (S78)) (x230000 : Int) (x230001 : List Bool) (x230002 : List (S78)) : spec_NextPairs.l1v x2 x3 x9 x10 x13 x229000 x229001 x229002 x230000 x230001 x230002 = if x13 < (x10.length : Int) then (if 0 ≤ x13 then ((spec_MoveOf.fv x229000 x229001 x229002 x2 false (rd x10 x13)).bind fun t252 => (if t252 ≥ 0 then (if 0 ≤ t252 then (if t252 < (x229002.length : Int) then ((spec_MoveOf.fv x230000 x230001 x230002 x3 true (rd x10 x13)).bind fun t255 => (if 0 ≤ t255 then (if t255 < (x230002.length : Int) then (if x9.length < 5864062014805 then (spec_NextPairs.l1v x2 x3 (x9 ++ [(([(rd_T78 x229002 t252).f3, (rd_T78 x230002 t255).f3] : List Int))]) x10 (wrap64 (x13 + 1)) x229000 x229001 x229002 x230000 x230001 x230002) else (none)) else (none)) else (none))) else (none)) else (none)) else (spec_NextPairs.l1v x2 x3 x9 x10 (wrap64 (x13 + 1)) x229000 x229001 x229002 x230000 x230001 x230002))) else (none)) else (some x9) := by
  refine Is.step (spec_NextPairs.l1_is x2 x3 x9 x10 x13 x229000 x229001 x229002 x230000 x230001 x230002).mo (fun k => by rw [spec_NextPairs.l1]) ?_
  · skip
    repeat' first
    | with_reducible exact spec_MoveOf.f_is _ _ _ _ _ _
    | with_reducible exact spec_NextPairs.l1_is _ _ _ _ _ _ _ _ _ _ _
    | with_reducible exact Is.now _
    | with_reducible refine Is.ite ?_ ?_
    | with_reducible refine Is.bind ?_ (fun _ => ?_)
theorem spec_NextPairs.fv_eq (a0_0 : Int) (l0_1 : List Bool) (l0_2 : List (S78)) (a1_0 : Int) (l1_1 : List Bool) (l1_2 : List (S78)) (a2 : Int) (a3 : Int) : spec_NextPairs.fv a0_0 l0_1 l0_2 a1_0 l1_1 l1_2 a2 a3 = (spec_MovesFrom.fv a0_0 l0_1 l0_2 a2 true).bind fun t233 => (spec_NextPairs.l0v a2 a3 (([] : List (List Int))) t233 0 a0_0 l0_1 l0_2 a1_0 l1_1 l1_2) := by
  refine Is.lim (g := fun k => spec_NextPairs.f k a0_0 l0_1 l0_2 a1_0 l1_1 l1_2 a2 a3) ?_
  · unfold spec_NextPairs.f
    repeat' first
    | with_reducible exact spec_MovesFrom.f_is _ _ _ _ _
    | with_reducible exact spec_NextPairs.l0_is _ _ _ _ _ _ _ _ _ _ _
    | with_reducible exact Is.now _
    | with_reducible refine Is.ite ?_ ?_
    | with_reducible refine Is.bind ?_ (fun _ => ?_)
end Go.Proofs.Ytldcchjbaglppaa.Print

/- Written by a program of this session (limx.py): the equations of what the printed functions come to. No condition. -/
namespace Go.Proofs.Ytldcchjbaglppaa.Print
open Go.RowKit Go.Proofs.YtldcchjbaglppaaW.PrintWords Go.Proofs.YtldcchjbaglppaaW.PrintLast Go.Proofs.Ytldcchjbaglppaa.Base
set_option linter.unusedVariables false
set_option maxRecDepth 20000
noncomputable def spec_PairsOf.j0v (x5 : List (List Int)) (x17 : Bool) (x264000 : Int) (x264001 : List Bool) (x264002 : List (S78)) (x265000 : Int) (x265001 : List Bool) (x265002 : List (S78)) : Option ((List (List Int))) := Lim fun k => spec_PairsOf.j0 k x5 x17 x264000 x264001 x264002 x265000 x265001 x265002
noncomputable def spec_PairsOf.l0v (x5 : List (List Int)) (x6 : Int) (x264000 : Int) (x264001 : List Bool) (x264002 : List (S78)) (x265000 : Int) (x265001 : List Bool) (x265002 : List (S78)) : Option ((List (List Int))) := Lim fun k => spec_PairsOf.l0 k x5 x6 x264000 x264001 x264002 x265000 x265001 x265002
noncomputable def spec_PairsOf.l1v (x5 : List (List Int)) (x6 : Int) (x7 : List (List Int)) (x8 : Int) (x264000 : Int) (x264001 : List Bool) (x264002 : List (S78)) (x265000 : Int) (x265001 : List Bool) (x265002 : List (S78)) : Option ((List (List Int))) := Lim fun k => spec_PairsOf.l1 k x5 x6 x7 x8 x264000 x264001 x264002 x265000 x265001 x265002
noncomputable def spec_PairsOf.fv (a0_0 : Int) (l0_1 : List Bool) (l0_2 : List (S78)) (a1_0 : Int) (l1_1 : List Bool) (l1_2 : List (S78)) : Option ((List (List Int))) := Lim fun k => spec_PairsOf.f k a0_0 l0_1 l0_2 a1_0 l1_1 l1_2
theorem spec_PairsOf.j0_is (x5 : List (List Int)) (x17 : Bool) (x264000 : Int) (x264001 : List Bool) (x264002 : List (S78)) (x265000 : Int) (x265001 : List Bool) (x265002 : List (S78)) : Is (fun k => spec_PairsOf.j0 k x5 x17 x264000 x264001 x264002 x265000 x265001 x265002) (spec_PairsOf.j0v x5 x17 x264000 x264001 x264002 x265000 x265001 x265002) := ⟨fun k => (spec_PairsOf.mono_l k).1 x5 x17 x264000 x264001 x264002 x265000 x265001 x265002, rfl⟩
theorem spec_PairsOf.l0_is (x5 : List (List Int)) (x6 : Int) (x264000 : Int) (x264001 : List Bool) (x264002 : List (S78)) (x265000 : Int) (x265001 : List Bool) (x265002 : List (S78)) : Is (fun k => spec_PairsOf.l0 k x5 x6 x264000 x264001 x264002 x265000 x265001 x265002) (spec_PairsOf.l0v x5 x6 x264000 x264001 x264002 x265000 x265001 x265002) := ⟨fun k => (spec_PairsOf.mono_l k).2.1 x5 x6 x264000 x264001 x264002 x265000 x265001 x265002, rfl⟩
theorem spec_PairsOf.l1_is (x5 : List (List Int)) (x6 : Int) (x7 : List (List Int)) (x8 : Int) (x264000 : Int) (x264001 : List Bool) (x264002 : List (S78)) (x265000 : Int) (x265001 : List Bool) (x265002 : List (S78)) : Is (fun k => spec_PairsOf.l1 k x5 x6 x7 x8 x264000 x264001 x264002 x265000 x265001 x265002) (spec_PairsOf.l1v x5 x6 x7 x8 x264000 x264001 x264002 x265000 x265001 x265002) := ⟨fun k => (spec_PairsOf.mono_l k).2.2 x5 x6 x7 x8 x264000 x264001 x264002 x265000 x265001 x265002, rfl⟩
theorem spec_PairsOf.f_is (a0_0 : Int) (l0_1 : List Bool) (l0_2 : List (S78)) (a1_0 : Int) (l1_1 : List Bool) (l1_2 : List (S78)) : Is (fun k => spec_PairsOf.f k a0_0 l0_1 l0_2 a1_0 l1_1 l1_2) (spec_PairsOf.fv a0_0 l0_1 l0_2 a1_0 l1_1 l1_2) := ⟨fun k => spec_PairsOf.mono a0_0 l0_1 l0_2 a1_0 l1_1 l1_2 k, rfl⟩
theorem spec_PairsOf.j0v_eq (x5 : List (List Int)) (x17 : Bool) (x264000 : Int) (x264001 : List Bool) (x264002 : List (S78)) (x265000 : Int) (x265001 : List Bool) (x265002 : List (S78)) : spec_PairsOf.j0v x5 x17 x264000 x264001 x264002 x265000 x265001 x265002 = if x17 = true then (some x5) else (if x5.length < 5864062014805 then (spec_PairsOf.l0v (x5 ++ [(([0, 0] : List Int))]) 0 x264000 x264001 x264002 x265000 x265001 x265002) else (none)) := by
  refine Is.step (spec_PairsOf.j0_is x5 x17 x264000 x264001 x264002 x265000 x265001 x265002).mo (fun k => by rw [spec_PairsOf.j0]) ?_
  · skip
    repeat' first
    | with_reducible exact spec_PairsOf.l0_is _ _ _ _ _ _ _ _
    | with_reducible exact Is.now _
    | with_reducible refine Is.ite ?_ ?_
    | with_reducible refine Is.bind ?_ (fun _ => ?_)
theorem spec_PairsOf.l0v_eq (x5 : List (List Int)) (x6 : Int) (x264000 : Int) (x264001 : List Bool) (x264002 : List (S78)) (x265000 : Int) (x265001 : List Bool) (x265002 : List (S78)) : spec_PairsOf.l0v x5 x6 x264000 x264001 x264002 x265000 x265001 x265002 = if x6 < (x5.length : Int) then (if 0 ≤ x6 then (if 0 < ((rd_L9 x5 x6).length : Int) then (if 1 < ((rd_L9 x5 x6).length : Int) then ((spec_NextPairs.fv x264000 x264001 x264002 x265000 x265001 x265002 (rd (rd_L9 x5 x6) 0) (rd (rd_L9 x5 x6) 1)).bind fun t280 => (spec_PairsOf.l1v x5 x6 t280 0 x264000 x264001 x264002 x265000 x265001 x265002)) else (none)) else (none)) else (none)) else (some x5) := by
  refine Is.step (spec_PairsOf.l0_is x5 x6 x264000 x264001 x264002 x265000 x265001 x265002).mo (fun k => by rw [spec_PairsOf.l0]) ?_
  · skip
    repeat' first
    | with_reducible exact spec_NextPairs.f_is _ _ _ _ _ _ _ _
    | with_reducible exact spec_PairsOf.l1_is _ _ _ _ _ _ _ _ _ _
    | with_reducible exact Is.now _
    | with_reducible refine Is.ite ?_ ?_
    | with_reducible refine Is.bind ?_ (fun _ => ?_)
theorem spec_PairsOf.l1v_eq (x5 : List (List Int)) (x6 : Int) (x7 : List (List Int)) (x8 : Int) (x264000 : Int) (x264001 : List Bool) (x264002 : List (S78)) (x265000 : Int) (x265001 : List Bool) (x265002 : List (S78)) : spec_PairsOf.l1v x5 x6 x7 x8 x264000 x264001 x264002 x265000 x265001 x265002 = if x8 < (x7.length : Int) then (if 0 ≤ x8 then ((spec_l14Has.fv x5 (rd_L9 x7 x8)).bind fun t284 => (if t284 = true then (spec_PairsOf.l1v x5 x6 x7 (wrap64 (x8 + 1)) x264000 x264001 x264002 x265000 x265001 x265002) else (if x5.length < 5864062014805 then (spec_PairsOf.l1v (x5 ++ [rd_L9 x7 x8]) x6 x7 (wrap64 (x8 + 1)) x264000 x264001 x264002 x265000 x265001 x265002) else (none)))) else (none)) else (spec_PairsOf.l0v x5 (wrap64 (x6 + 1)) x264000 x264001 x264002 x265000 x265001 x265002) := by
  refine Is.step (spec_PairsOf.l1_is x5 x6 x7 x8 x264000 x264001 x264002 x265000 x265001 x265002).mo (fun k => by rw [spec_PairsOf.l1]) ?_
  · skip
    repeat' first
    | with_reducible exact spec_PairsOf.l0_is _ _ _ _ _ _ _ _
    | with_reducible exact spec_PairsOf.l1_is _ _ _ _ _ _ _ _ _ _
    | with_reducible exact spec_l14Has.f_is _ _
    | with_reducible exact Is.now _
    | with_reducible refine Is.ite ?_ ?_
    | with_reducible refine Is.bind ?_ (fun _ => ?_)
theorem spec_PairsOf.fv_eq (a0_0 : Int) (l0_1 : List Bool) (l0_2 : List (S78)) (a1_0 : Int) (l1_1 : List Bool) (l1_2 : List (S78)) : spec_PairsOf.fv a0_0 l0_1 l0_2 a1_0 l1_1 l1_2 = (some (([] : List (List Int)) : List (List Int))).bind fun y265 => ((spec_IsMachine.fv a0_0 l0_1 l0_2).bind fun t268 => (if t268 = true then ((spec_IsMachine.fv a1_0 l1_1 l1_2).bind fun t269 => (spec_PairsOf.j0v y265 (!t269) a0_0 l0_1 l0_2 a1_0 l1_1 l1_2)) else (spec_PairsOf.j0v y265 true a0_0 l0_1 l0_2 a1_0 l1_1 l1_2))) := by
  refine Is.lim (g := fun k => spec_PairsOf.f k a0_0 l0_1 l0_2 a1_0 l1_1 l1_2) ?_
  · unfold spec_PairsOf.f
    repeat' first
    | with_reducible exact spec_IsMachine.f_is _ _ _
    | with_reducible exact spec_PairsOf.j0_is _ _ _ _ _ _ _ _
    | with_reducible exact Is.now _
    | with_reducible refine Is.ite ?_ ?_
    | with_reducible refine Is.bind ?_ (fun _ => ?_)
noncomputable def spec_l14Unread.l0v (x3 : Int) (x9 : List Int) (x10 : Int) (x294000 : Int) (x294001 : List Bool) (x294002 : List (S78)) : Option (Bool) := Lim fun k => spec_l14Unread.l0 k x3 x9 x10 x294000 x294001 x294002
noncomputable def spec_l14Unread.fv (a0_0 : Int) (l0_1 : List Bool) (l0_2 : List (S78)) (a1_0 : Int) (l1_1 : List Bool) (l1_2 : List (S78)) (a2 : Int) (a3 : Int) : Option (Bool) := Lim fun k => spec_l14Unread.f k a0_0 l0_1 l0_2 a1_0 l1_1 l1_2 a2 a3
theorem spec_l14Unread.l0_is (x3 : Int) (x9 : List Int) (x10 : Int) (x294000 : Int) (x294001 : List Bool) (x294002 : List (S78)) : Is (fun k => spec_l14Unread.l0 k x3 x9 x10 x294000 x294001 x294002) (spec_l14Unread.l0v x3 x9 x10 x294000 x294001 x294002) := ⟨fun k => (spec_l14Unread.mono_l k) x3 x9 x10 x294000 x294001 x294002, rfl⟩
theorem spec_l14Unread.f_is (a0_0 : Int) (l0_1 : List Bool) (l0_2 : List (S78)) (a1_0 : Int) (l1_1 : List Bool) (l1_2 : List (S78)) (a2 : Int) (a3 : Int) : Is (fun k => spec_l14Unread.f k a0_0 l0_1 l0_2 a1_0 l1_1 l1_2 a2 a3) (spec_l14Unread.fv a0_0 l0_1 l0_2 a1_0 l1_1 l1_2 a2 a3) := ⟨fun k => spec_l14Unread.mono a0_0 l0_1 l0_2 a1_0 l1_1 l1_2 a2 a3 k, rfl⟩
theorem spec_l14Unread.l0v_eq (x3 : Int) (x9 : List Int) (x10 : Int) (x294000 : Int) (x294001 : List Bool) (x294002 : List (S78)) : spec_l14Unread.l0v x3 x9 x10 x294000 x294001 x294002 = if x10 < (x9.length : Int) then (if 0 ≤ x10 then ((spec_MoveOf.fv x294000 x294001 x294002 x3 false (rd x9 x10)).bind fun t298 => (if t298 < 0 then (some true) else (spec_l14Unread.l0v x3 x9 (wrap64 (x10 + 1)) x294000 x294001 x294002))) else (none)) else (some false) := by
  refine Is.step (spec_l14Unread.l0_is x3 x9 x10 x294000 x294001 x294002).mo (fun k => by rw [spec_l14Unread.l0]) ?_
  · skip
    repeat' first
    | with_reducible exact spec_MoveOf.f_is _ _ _ _ _ _
    | with_reducible exact spec_l14Unread.l0_is _ _ _ _ _ _
    | with_reducible exact Is.now _
    | with_reducible refine Is.ite ?_ ?_
    | with_reducible refine Is.bind ?_ (fun _ => ?_)
theorem spec_l14Unread.fv_eq (a0_0 : Int) (l0_1 : List Bool) (l0_2 : List (S78)) (a1_0 : Int) (l1_1 : List Bool) (l1_2 : List (S78)) (a2 : Int) (a3 : Int) : spec_l14Unread.fv a0_0 l0_1 l0_2 a1_0 l1_1 l1_2 a2 a3 = (spec_MovesFrom.fv a0_0 l0_1 l0_2 a2 true).bind fun t294 => (spec_l14Unread.l0v a3 t294 0 a1_0 l1_1 l1_2) := by
  refine Is.lim (g := fun k => spec_l14Unread.f k a0_0 l0_1 l0_2 a1_0 l1_1 l1_2 a2 a3) ?_
  · unfold spec_l14Unread.f
    repeat' first
    | with_reducible exact spec_MovesFrom.f_is _ _ _ _ _
    | with_reducible exact spec_l14Unread.l0_is _ _ _ _ _ _
    | with_reducible exact Is.now _
    | with_reducible refine Is.ite ?_ ?_
    | with_reducible refine Is.bind ?_ (fun _ => ?_)
end Go.Proofs.Ytldcchjbaglppaa.Print

/- Written by a program of this session (limx.py): the equations of what the printed functions come to. No condition. -/
namespace Go.Proofs.Ytldcchjbaglppaa.Print
open Go.RowKit Go.Proofs.YtldcchjbaglppaaW.PrintWords Go.Proofs.YtldcchjbaglppaaW.PrintLast Go.Proofs.Ytldcchjbaglppaa.Base
set_option linter.unusedVariables false
set_option maxRecDepth 20000
noncomputable def spec_TroubleAt.j0v (x2 : Int) (x3 : Int) (x9 : Bool) (x300000 : Int) (x300001 : List Bool) (x300002 : List (S78)) (x301000 : Int) (x301001 : List Bool) (x301002 : List (S78)) : Option (Int) := Lim fun k => spec_TroubleAt.j0 k x2 x3 x9 x300000 x300001 x300002 x301000 x301001 x301002
noncomputable def spec_TroubleAt.fv (a0_0 : Int) (l0_1 : List Bool) (l0_2 : List (S78)) (a1_0 : Int) (l1_1 : List Bool) (l1_2 : List (S78)) (a2 : Int) (a3 : Int) : Option (Int) := Lim fun k => spec_TroubleAt.f k a0_0 l0_1 l0_2 a1_0 l1_1 l1_2 a2 a3
theorem spec_TroubleAt.j0_is (x2 : Int) (x3 : Int) (x9 : Bool) (x300000 : Int) (x300001 : List Bool) (x300002 : List (S78)) (x301000 : Int) (x301001 : List Bool) (x301002 : List (S78)) : Is (fun k => spec_TroubleAt.j0 k x2 x3 x9 x300000 x300001 x300002 x301000 x301001 x301002) (spec_TroubleAt.j0v x2 x3 x9 x300000 x300001 x300002 x301000 x301001 x301002) := ⟨fun k => (spec_TroubleAt.mono_l k) x2 x3 x9 x300000 x300001 x300002 x301000 x301001 x301002, rfl⟩
theorem spec_TroubleAt.f_is (a0_0 : Int) (l0_1 : List Bool) (l0_2 : List (S78)) (a1_0 : Int) (l1_1 : List Bool) (l1_2 : List (S78)) (a2 : Int) (a3 : Int) : Is (fun k => spec_TroubleAt.f k a0_0 l0_1 l0_2 a1_0 l1_1 l1_2 a2 a3) (spec_TroubleAt.fv a0_0 l0_1 l0_2 a1_0 l1_1 l1_2 a2 a3) := ⟨fun k => spec_TroubleAt.mono a0_0 l0_1 l0_2 a1_0 l1_1 l1_2 a2 a3 k, rfl⟩
theorem spec_TroubleAt.j0v_eq (x2 : Int) (x3 : Int) (x9 : Bool) (x300000 : Int) (x300001 : List Bool) (x300002 : List (S78)) (x301000 : Int) (x301001 : List Bool) (x301002 : List (S78)) : spec_TroubleAt.j0v x2 x3 x9 x300000 x300001 x300002 x301000 x301001 x301002 = if x9 = true then (some 1) else ((spec_NextPairs.fv x300000 x300001 x300002 x301000 x301001 x301002 x2 x3).bind fun t303 => (if (t303.length : Int) = 0 then ((spec_l14End.f x300000 x300001 x300002 x2).bind fun t306 => (if t306 = true then ((spec_l14End.f x301000 x301001 x301002 x3).bind fun t307 => (if t307 = true then (some 0) else (some 2))) else (some 2))) else (some 0))) := by
  refine Is.step (spec_TroubleAt.j0_is x2 x3 x9 x300000 x300001 x300002 x301000 x301001 x301002).mo (fun k => by rw [spec_TroubleAt.j0]) ?_
  · skip
    repeat' first
    | with_reducible exact spec_NextPairs.f_is _ _ _ _ _ _ _ _
    | with_reducible exact Is.now _
    | with_reducible refine Is.ite ?_ ?_
    | with_reducible refine Is.bind ?_ (fun _ => ?_)
theorem spec_TroubleAt.fv_eq (a0_0 : Int) (l0_1 : List Bool) (l0_2 : List (S78)) (a1_0 : Int) (l1_1 : List Bool) (l1_2 : List (S78)) (a2 : Int) (a3 : Int) : spec_TroubleAt.fv a0_0 l0_1 l0_2 a1_0 l1_1 l1_2 a2 a3 = (spec_l14Unread.fv a0_0 l0_1 l0_2 a1_0 l1_1 l1_2 a2 a3).bind fun t301 => (if t301 = true then (spec_TroubleAt.j0v a2 a3 true a0_0 l0_1 l0_2 a1_0 l1_1 l1_2) else ((spec_l14Unread.fv a1_0 l1_1 l1_2 a0_0 l0_1 l0_2 a3 a2).bind fun t302 => (spec_TroubleAt.j0v a2 a3 t302 a0_0 l0_1 l0_2 a1_0 l1_1 l1_2))) := by
  refine Is.lim (g := fun k => spec_TroubleAt.f k a0_0 l0_1 l0_2 a1_0 l1_1 l1_2 a2 a3) ?_
  · unfold spec_TroubleAt.f
    repeat' first
    | with_reducible exact spec_TroubleAt.j0_is _ _ _ _ _ _ _ _ _
    | with_reducible exact spec_l14Unread.f_is _ _ _ _ _ _ _ _
    | with_reducible exact Is.now _
    | with_reducible refine Is.ite ?_ ?_
    | with_reducible refine Is.bind ?_ (fun _ => ?_)
noncomputable def spec_FirstTrouble.l0v (x5 : List (List Int)) (x6 : Int) (x309000 : Int) (x309001 : List Bool) (x309002 : List (S78)) (x310000 : Int) (x310001 : List Bool) (x310002 : List (S78)) : Option (List Int) := Lim fun k => spec_FirstTrouble.l0 k x5 x6 x309000 x309001 x309002 x310000 x310001 x310002
noncomputable def spec_FirstTrouble.fv (a0_0 : Int) (l0_1 : List Bool) (l0_2 : List (S78)) (a1_0 : Int) (l1_1 : List Bool) (l1_2 : List (S78)) : Option (List Int) := Lim fun k => spec_FirstTrouble.f k a0_0 l0_1 l0_2 a1_0 l1_1 l1_2
theorem spec_FirstTrouble.l0_is (x5 : List (List Int)) (x6 : Int) (x309000 : Int) (x309001 : List Bool) (x309002 : List (S78)) (x310000 : Int) (x310001 : List Bool) (x310002 : List (S78)) : Is (fun k => spec_FirstTrouble.l0 k x5 x6 x309000 x309001 x309002 x310000 x310001 x310002) (spec_FirstTrouble.l0v x5 x6 x309000 x309001 x309002 x310000 x310001 x310002) := ⟨fun k => (spec_FirstTrouble.mono_l k) x5 x6 x309000 x309001 x309002 x310000 x310001 x310002, rfl⟩
theorem spec_FirstTrouble.f_is (a0_0 : Int) (l0_1 : List Bool) (l0_2 : List (S78)) (a1_0 : Int) (l1_1 : List Bool) (l1_2 : List (S78)) : Is (fun k => spec_FirstTrouble.f k a0_0 l0_1 l0_2 a1_0 l1_1 l1_2) (spec_FirstTrouble.fv a0_0 l0_1 l0_2 a1_0 l1_1 l1_2) := ⟨fun k => spec_FirstTrouble.mono a0_0 l0_1 l0_2 a1_0 l1_1 l1_2 k, rfl⟩
theorem spec_FirstTrouble.l0v_eq (x5 : List (List Int)) (x6 : Int) (x309000 : Int) (x309001 : List Bool) (x309002 : List (S78)) (x310000 : Int) (x310001 : List Bool) (x310002 : List (S78)) : spec_FirstTrouble.l0v x5 x6 x309000 x309001 x309002 x310000 x310001 x310002 = if x6 < (x5.length : Int) then (if 0 ≤ x6 then (if 0 < ((rd_L9 x5 x6).length : Int) then (if 1 < ((rd_L9 x5 x6).length : Int) then ((spec_TroubleAt.fv x309000 x309001 x309002 x310000 x310001 x310002 (rd (rd_L9 x5 x6) 0) (rd (rd_L9 x5 x6) 1)).bind fun t317 => (if t317 = 0 then (spec_FirstTrouble.l0v x5 (wrap64 (x6 + 1)) x309000 x309001 x309002 x310000 x310001 x310002) else ((some (([] : List Int) : List Int)).bind fun y318 => (if y318.length + (rd_L9 x5 x6).length < 17592186044416 then (some (y318 ++ (rd_L9 x5 x6))) else (none))))) else (none)) else (none)) else (none)) else (some (([] : List Int))) := by
  refine Is.step (spec_FirstTrouble.l0_is x5 x6 x309000 x309001 x309002 x310000 x310001 x310002).mo (fun k => by rw [spec_FirstTrouble.l0]) ?_
  · skip
    repeat' first
    | with_reducible exact spec_FirstTrouble.l0_is _ _ _ _ _ _ _ _
    | with_reducible exact spec_TroubleAt.f_is _ _ _ _ _ _ _ _
    | with_reducible exact Is.now _
    | with_reducible refine Is.ite ?_ ?_
    | with_reducible refine Is.bind ?_ (fun _ => ?_)
theorem spec_FirstTrouble.fv_eq (a0_0 : Int) (l0_1 : List Bool) (l0_2 : List (S78)) (a1_0 : Int) (l1_1 : List Bool) (l1_2 : List (S78)) : spec_FirstTrouble.fv a0_0 l0_1 l0_2 a1_0 l1_1 l1_2 = (spec_PairsOf.fv a0_0 l0_1 l0_2 a1_0 l1_1 l1_2).bind fun t310 => (spec_FirstTrouble.l0v t310 0 a0_0 l0_1 l0_2 a1_0 l1_1 l1_2) := by
  refine Is.lim (g := fun k => spec_FirstTrouble.f k a0_0 l0_1 l0_2 a1_0 l1_1 l1_2) ?_
  · unfold spec_FirstTrouble.f
    repeat' first
    | with_reducible exact spec_FirstTrouble.l0_is _ _ _ _ _ _ _ _
    | with_reducible exact spec_PairsOf.f_is _ _ _ _ _ _
    | with_reducible exact Is.now _
    | with_reducible refine Is.ite ?_ ?_
    | with_reducible refine Is.bind ?_ (fun _ => ?_)
noncomputable def spec_IsSafe.fv (a0_0 : Int) (l0_1 : List Bool) (l0_2 : List (S78)) (a1_0 : Int) (l1_1 : List Bool) (l1_2 : List (S78)) : Option (Bool) := Lim fun k => spec_IsSafe.f k a0_0 l0_1 l0_2 a1_0 l1_1 l1_2
theorem spec_IsSafe.f_is (a0_0 : Int) (l0_1 : List Bool) (l0_2 : List (S78)) (a1_0 : Int) (l1_1 : List Bool) (l1_2 : List (S78)) : Is (fun k => spec_IsSafe.f k a0_0 l0_1 l0_2 a1_0 l1_1 l1_2) (spec_IsSafe.fv a0_0 l0_1 l0_2 a1_0 l1_1 l1_2) := ⟨fun k => spec_IsSafe.mono a0_0 l0_1 l0_2 a1_0 l1_1 l1_2 k, rfl⟩
theorem spec_IsSafe.fv_eq (a0_0 : Int) (l0_1 : List Bool) (l0_2 : List (S78)) (a1_0 : Int) (l1_1 : List Bool) (l1_2 : List (S78)) : spec_IsSafe.fv a0_0 l0_1 l0_2 a1_0 l1_1 l1_2 = (spec_IsMachine.fv a0_0 l0_1 l0_2).bind fun t330 => (if t330 = true then ((spec_IsMachine.fv a1_0 l1_1 l1_2).bind fun t331 => (if t331 = true then ((spec_FirstTrouble.fv a0_0 l0_1 l0_2 a1_0 l1_1 l1_2).bind fun t332 => (some ((t332.length : Int) == 0))) else (some false))) else (some false)) := by
  refine Is.lim (g := fun k => spec_IsSafe.f k a0_0 l0_1 l0_2 a1_0 l1_1 l1_2) ?_
  · unfold spec_IsSafe.f
    repeat' first
    | with_reducible exact spec_FirstTrouble.f_is _ _ _ _ _ _
    | with_reducible exact spec_IsMachine.f_is _ _ _
    | with_reducible exact Is.now _
    | with_reducible refine Is.ite ?_ ?_
    | with_reducible refine Is.bind ?_ (fun _ => ?_)
noncomputable def spec_WorksWith.l0v (x0 : List (S34)) (x5 : List Int) (x6 : Int) (x336000 : Int) (x336001 : List Bool) (x336002 : List (S78)) : Option (List Int) := Lim fun k => spec_WorksWith.l0 k x0 x5 x6 x336000 x336001 x336002
noncomputable def spec_WorksWith.fv (l0 : List (S34)) (a1_0 : Int) (l1_1 : List Bool) (l1_2 : List (S78)) : Option (List Int) := Lim fun k => spec_WorksWith.f k l0 a1_0 l1_1 l1_2
theorem spec_WorksWith.l0_is (x0 : List (S34)) (x5 : List Int) (x6 : Int) (x336000 : Int) (x336001 : List Bool) (x336002 : List (S78)) : Is (fun k => spec_WorksWith.l0 k x0 x5 x6 x336000 x336001 x336002) (spec_WorksWith.l0v x0 x5 x6 x336000 x336001 x336002) := ⟨fun k => (spec_WorksWith.mono_l k) x0 x5 x6 x336000 x336001 x336002, rfl⟩
theorem spec_WorksWith.f_is (l0 : List (S34)) (a1_0 : Int) (l1_1 : List Bool) (l1_2 : List (S78)) : Is (fun k => spec_WorksWith.f k l0 a1_0 l1_1 l1_2) (spec_WorksWith.fv l0 a1_0 l1_1 l1_2) := ⟨fun k => spec_WorksWith.mono l0 a1_0 l1_1 l1_2 k, rfl⟩
theorem spec_WorksWith.l0v_eq (x0 : List (S34)) (x5 : List Int) (x6 : Int) (x336000 : Int) (x336001 : List Bool) (x336002 : List (S78)) : spec_WorksWith.l0v x0 x5 x6 x336000 x336001 x336002 = if x6 < (x0.length : Int) then (if 0 ≤ x6 then ((spec_IsSafe.fv ((rd_T34 x0 x6).f0) ((rd_T34 x0 x6).f1) ((rd_T34 x0 x6).f2) x336000 x336001 x336002).bind fun t340 => (if t340 = true then (if x5.length < 17592186044416 then (spec_WorksWith.l0v x0 (x5 ++ [x6]) (wrap64 (x6 + 1)) x336000 x336001 x336002) else (none)) else (spec_WorksWith.l0v x0 x5 (wrap64 (x6 + 1)) x336000 x336001 x336002))) else (none)) else (some x5) := by
  refine Is.step (spec_WorksWith.l0_is x0 x5 x6 x336000 x336001 x336002).mo (fun k => by rw [spec_WorksWith.l0]) ?_
  · skip
    repeat' first
    | with_reducible exact spec_IsSafe.f_is _ _ _ _ _ _
    | with_reducible exact spec_WorksWith.l0_is _ _ _ _ _ _
    | with_reducible exact Is.now _
    | with_reducible refine Is.ite ?_ ?_
    | with_reducible refine Is.bind ?_ (fun _ => ?_)
theorem spec_WorksWith.fv_eq (l0 : List (S34)) (a1_0 : Int) (l1_1 : List Bool) (l1_2 : List (S78)) : spec_WorksWith.fv l0 a1_0 l1_1 l1_2 = spec_WorksWith.l0v l0 (([] : List Int)) 0 a1_0 l1_1 l1_2 := by
  refine Is.lim (g := fun k => spec_WorksWith.f k l0 a1_0 l1_1 l1_2) ?_
  · unfold spec_WorksWith.f
    repeat' first
    | with_reducible exact spec_WorksWith.l0_is _ _ _ _ _ _
    | with_reducible exact Is.now _
    | with_reducible refine Is.ite ?_ ?_
    | with_reducible refine Is.bind ?_ (fun _ => ?_)
end Go.Proofs.Ytldcchjbaglppaa.Print

/- Written by a program of this session (limx.py): the equations of what the printed functions come to. No condition. -/
namespace Go.Proofs.Ytldcchjbaglppaa.Print
open Go.RowKit Go.Proofs.YtldcchjbaglppaaW.PrintWords Go.Proofs.YtldcchjbaglppaaW.PrintLast Go.Proofs.Ytldcchjbaglppaa.Base
set_option linter.unusedVariables false
set_option maxRecDepth 20000
noncomputable def laws_heldIntS.l0v (x0 : List Int) (x1 : Int) (x5 : Int) : Option (Int) := Lim fun k => laws_heldIntS.l0 k x0 x1 x5
noncomputable def laws_heldIntS.fv (l0 : List Int) (a1 : Int) : Option (Int) := Lim fun k => laws_heldIntS.f k l0 a1
theorem laws_heldIntS.l0_is (x0 : List Int) (x1 : Int) (x5 : Int) : Is (fun k => laws_heldIntS.l0 k x0 x1 x5) (laws_heldIntS.l0v x0 x1 x5) := ⟨fun k => (laws_heldIntS.mono_l k) x0 x1 x5, rfl⟩
theorem laws_heldIntS.f_is (l0 : List Int) (a1 : Int) : Is (fun k => laws_heldIntS.f k l0 a1) (laws_heldIntS.fv l0 a1) := ⟨fun k => laws_heldIntS.mono l0 a1 k, rfl⟩
theorem laws_heldIntS.l0v_eq (x0 : List Int) (x1 : Int) (x5 : Int) : laws_heldIntS.l0v x0 x1 x5 = if x5 < (x0.length : Int) then (if 0 ≤ x5 then (if (rd x0 x5) = x1 then (laws_heldIntS.l0v x0 (wrap64 (x1 + 1)) (wrap64 (x5 + 1))) else (some (-1))) else (none)) else (some x1) := by
  refine Is.step (laws_heldIntS.l0_is x0 x1 x5).mo (fun k => by rw [laws_heldIntS.l0]) ?_
  · skip
    repeat' first
    | with_reducible exact laws_heldIntS.l0_is _ _ _
    | with_reducible exact Is.now _
    | with_reducible refine Is.ite ?_ ?_
    | with_reducible refine Is.bind ?_ (fun _ => ?_)
theorem laws_heldIntS.fv_eq (l0 : List Int) (a1 : Int) : laws_heldIntS.fv l0 a1 = laws_heldIntS.l0v l0 a1 0 := by
  refine Is.lim (g := fun k => laws_heldIntS.f k l0 a1) ?_
  · unfold laws_heldIntS.f
    repeat' first
    | with_reducible exact laws_heldIntS.l0_is _ _ _
    | with_reducible exact Is.now _
    | with_reducible refine Is.ite ?_ ?_
    | with_reducible refine Is.bind ?_ (fun _ => ?_)
end Go.Proofs.Ytldcchjbaglppaa.Print

/- Written by a program of this session (limx.py): the equations of what the printed functions come to. No condition. -/
namespace Go.Proofs.Ytldcchjbaglppaa.Print
open Go.RowKit Go.Proofs.YtldcchjbaglppaaW.PrintWords Go.Proofs.YtldcchjbaglppaaW.PrintLast Go.Proofs.Ytldcchjbaglppaa.Base
set_option linter.unusedVariables false
set_option maxRecDepth 20000
noncomputable def laws_FnExactWorksWith.j0v (x0 : List (S26)) (x6 : List Int) (x9 : List Int) (x63 : Bool) (x506000 : Int) (x506001 : List Bool) (x506002 : List (S80)) : Option (Bool) := Lim fun k => laws_FnExactWorksWith.j0 k x0 x6 x9 x63 x506000 x506001 x506002
noncomputable def laws_FnExactWorksWith.fv (l0 : List (S26)) (a1_0 : Int) (l1_1 : List Bool) (l1_2 : List (S80)) : Option (Bool) := Lim fun k => laws_FnExactWorksWith.f k l0 a1_0 l1_1 l1_2
theorem laws_FnExactWorksWith.j0_is (x0 : List (S26)) (x6 : List Int) (x9 : List Int) (x63 : Bool) (x506000 : Int) (x506001 : List Bool) (x506002 : List (S80)) : Is (fun k => laws_FnExactWorksWith.j0 k x0 x6 x9 x63 x506000 x506001 x506002) (laws_FnExactWorksWith.j0v x0 x6 x9 x63 x506000 x506001 x506002) := ⟨fun k => (laws_FnExactWorksWith.mono_l k) x0 x6 x9 x63 x506000 x506001 x506002, rfl⟩
theorem laws_FnExactWorksWith.f_is (l0 : List (S26)) (a1_0 : Int) (l1_1 : List Bool) (l1_2 : List (S80)) : Is (fun k => laws_FnExactWorksWith.f k l0 a1_0 l1_1 l1_2) (laws_FnExactWorksWith.fv l0 a1_0 l1_1 l1_2) := ⟨fun k => laws_FnExactWorksWith.mono l0 a1_0 l1_1 l1_2 k, rfl⟩
theorem laws_FnExactWorksWith.j0v_eq (x0 : List (S26)) (x6 : List Int) (x9 : List Int) (x63 : Bool) (x506000 : Int) (x506001 : List Bool) (x506002 : List (S80)) : laws_FnExactWorksWith.j0v x0 x6 x9 x63 x506000 x506001 x506002 = if x63 = true then (some false) else ((laws_markIntS.fv x9 1).bind fun bt553 => ((laws_heldIntS.fv bt553.2 1).bind fun t555 => (if t555 < 0 then (some false) else (if t555 = bt553.1 then ((laws_toMachineS.fv x0).bind fun t556 => ((laws_toMachine.fv x506000 x506001 x506002).bind fun bt559 => ((impl_WorksWith.fv t556 bt559.1 bt559.2.1 bt559.2.2).bind fun t566 => ((laws_eqIntS.fv t566 x6).bind fun t569 => (if t569 = true then ((laws_heldIntS.fv bt553.2 1).bind fun t570 => (if t570 < 0 then (some false) else (if t570 = bt553.1 then (some true) else (some false)))) else (some false)))))) else (some false))))) := by
  refine Is.step (laws_FnExactWorksWith.j0_is x0 x6 x9 x63 x506000 x506001 x506002).mo (fun k => by rw [laws_FnExactWorksWith.j0]) ?_
  · skip
    repeat' first
    | with_reducible exact impl_WorksWith.f_is _ _ _ _
    | with_reducible exact laws_eqIntS.f_is _ _
    | with_reducible exact laws_heldIntS.f_is _ _
    | with_reducible exact laws_markIntS.f_is _ _
    | with_reducible exact laws_toMachine.f_is _ _ _
    | with_reducible exact laws_toMachineS.f_is _
    | with_reducible exact Is.now _
    | with_reducible refine Is.ite ?_ ?_
    | with_reducible refine Is.bind ?_ (fun _ => ?_)
theorem laws_FnExactWorksWith.fv_eq (l0 : List (S26)) (a1_0 : Int) (l1_1 : List Bool) (l1_2 : List (S80)) : laws_FnExactWorksWith.fv l0 a1_0 l1_1 l1_2 = (laws_szMachineS.fv l0 1048576).bind fun t506 => (if t506 < 0 then (some true) else ((laws_szMachine.f a1_0 l1_1 l1_2 t506).bind fun t507 => (if t507 < 0 then (some true) else ((laws_toMachineS.fv l0).bind fun t508 => ((laws_toMachine.fv a1_0 l1_1 l1_2).bind fun bt511 => ((spec_WorksWith.fv t508 bt511.1 bt511.2.1 bt511.2.2).bind fun t518 => ((laws_toMachineS.fv l0).bind fun t521 => ((laws_toMachine.fv a1_0 l1_1 l1_2).bind fun bt524 => ((impl_WorksWith.fv t521 bt524.1 bt524.2.1 bt524.2.2).bind fun t532 => ((laws_eqIntS.fv t532 t518).bind fun t535 => (if t535 = true then ((laws_toMachineS.fv l0).bind fun t536 => ((laws_eqMachineS.fv t521 t536).bind fun t539 => (if t539 = true then ((laws_toMachine.fv a1_0 l1_1 l1_2).bind fun bt540 => ((laws_eqMachine.fv bt524.1 bt524.2.1 bt524.2.2 bt540.1 bt540.2.1 bt540.2.2).bind fun t547 => (if t547 = true then ((laws_markMachineS.fv t521 1).bind fun t548 => ((laws_markMachine.fv bt524.1 bt524.2.1 bt524.2.2 t548).bind fun bt549 => (if bt549.1 < 0 then (laws_FnExactWorksWith.j0v l0 t518 t532 true a1_0 l1_1 l1_2) else ((laws_eqIntS.fv t532 t518).bind fun t552 => (laws_FnExactWorksWith.j0v l0 t518 t532 (!t552) a1_0 l1_1 l1_2))))) else (some false)))) else (some false)))) else (some false)))))))))))) := by
  refine Is.lim (g := fun k => laws_FnExactWorksWith.f k l0 a1_0 l1_1 l1_2) ?_
  · unfold laws_FnExactWorksWith.f
    repeat' first
    | with_reducible exact impl_WorksWith.f_is _ _ _ _
    | with_reducible exact laws_FnExactWorksWith.j0_is _ _ _ _ _ _ _
    | with_reducible exact laws_eqIntS.f_is _ _
    | with_reducible exact laws_eqMachine.f_is _ _ _ _ _ _
    | with_reducible exact laws_eqMachineS.f_is _ _
    | with_reducible exact laws_markMachine.f_is _ _ _ _
    | with_reducible exact laws_markMachineS.f_is _ _
    | with_reducible exact laws_szMachineS.f_is _ _
    | with_reducible exact laws_toMachine.f_is _ _ _
    | with_reducible exact laws_toMachineS.f_is _
    | with_reducible exact spec_WorksWith.f_is _ _ _ _
    | with_reducible exact Is.now _
    | with_reducible refine Is.ite ?_ ?_
    | with_reducible refine Is.bind ?_ (fun _ => ?_)
end Go.Proofs.Ytldcchjbaglppaa.Print
