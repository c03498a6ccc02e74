/- Written by a program of this session (merge.py): texts that the law's plain side leans on, laid together. No condition. -/
import Derived.Test.YtldcchjbaglppaaWWords
import Derived.Test.YtldcchjbaglppaaPrint1
import Derived.Test.YtldcchjbaglppaaPrint2
import Derived.Test.YtldcchjbaglppaaPrint3
import Derived.Test.YtldcchjbaglppaaPrint4
import Derived.Test.YtldcchjbaglppaaPrint5
import Derived.Test.YtldcchjbaglppaaPrint6
import Derived.Test.YtldcchjbaglppaaPrint7
import Derived.Test.YtldcchjbaglppaaPrint8
import Derived.Test.YtldcchjbaglppaaPrint9
import Derived.Test.YtldcchjbaglppaaPrint10
import Derived.Test.YtldcchjbaglppaaPrint11
import Derived.Test.YtldcchjbaglppaaPrint12
import Derived.Test.YtldcchjbaglppaaPrint14
import Derived.Test.YtldcchjbaglppaaPrint13
import Derived.Test.YtldcchjbaglppaaPrint15
import Derived.Test.YtldcchjbaglppaaPrint16
import Derived.Test.YtldcchjbaglppaaPrint27
/- What a function with rounds comes to when it has rounds enough, as an option: its equations hold without rounds. No condition. -/
namespace Go.Proofs.Ytldcchjbaglppaa.Base
open Go.RowKit Go.Proofs.YtldcchjbaglppaaW.PrintWords

/-- More rounds tell the same. -/
def Mo {α : Type} (g : Nat → Option α) : Prop := ∀ k, LeO (g k) (g (k + 1))
theorem mo_le {α : Type} {g : Nat → Option α} (h : Mo g) {k k' : Nat} (hk : k ≤ k') {r : α} (hr : g k = some r) : g k' = some r := at_rounds h hk hr
open Classical in
/-- What it comes to at last: nothing, or one answer. -/
noncomputable def Lim {α : Type} (g : Nat → Option α) : Option α := if h : ∃ r, ∃ k, g k = some r then some (Classical.choose h) else none
theorem lim_some {α : Type} {g : Nat → Option α} (h : Mo g) {k : Nat} {r : α} (hr : g k = some r) : Lim g = some r := by
  have hx : ∃ r, ∃ k, g k = some r := ⟨r, k, hr⟩
  unfold Lim
  rw [dif_pos hx]
  obtain ⟨k', hk'⟩ := Classical.choose_spec hx
  have h1 := mo_le h (Nat.le_max_left k k') hr
  have h2 := mo_le h (Nat.le_max_right k k') hk'
  rw [h1] at h2
  exact h2.symm
theorem of_lim {α : Type} {g : Nat → Option α} {r : α} (h : Lim g = some r) : ∃ k, g k = some r := by
  unfold Lim at h
  split at h
  · rename_i hx
    obtain rfl := Option.some.inj h
    exact Classical.choose_spec hx
  · cases h
theorem lim_none {α : Type} {g : Nat → Option α} (h : Lim g = none) (k : Nat) : g k = none := by
  cases hk : g k with
  | none => rfl
  | some r =>
    unfold Lim at h
    rw [dif_pos ⟨r, k, hk⟩] at h
    cases h
theorem none_lim {α : Type} {g : Nat → Option α} (h : ∀ k, g k = none) : Lim g = none := by
  unfold Lim
  rw [dif_neg]
  rintro ⟨r, k, hk⟩
  rw [h k] at hk
  cases hk
structure Is {α : Type} (g : Nat → Option α) (v : Option α) : Prop where
  mo : Mo g
  lim : Lim g = v
theorem Is.now {α : Type} (v : Option α) : Is (fun _ => v) v := by
  refine ⟨fun _ => LeO.refl _, ?_⟩
  cases v with
  | none => exact none_lim fun _ => rfl
  | some r => exact lim_some (g := fun _ => some r) (fun _ => LeO.refl _) (k := 0) rfl
theorem Is.ite {α : Type} {c : Prop} [Decidable c] {g h : Nat → Option α} {a b : Option α} (hg : Is g a) (hh : Is h b) : Is (fun k => if c then g k else h k) (if c then a else b) := by
  by_cases hc : c
  · simp only [if_pos hc]
    exact hg
  · simp only [if_neg hc]
    exact hh
theorem Is.bind {α β : Type} {g : Nat → Option α} {f : Nat → α → Option β} {a : Option α} {b : α → Option β} (hg : Is g a) (hf : ∀ x, Is (fun k => f k x) (b x)) : Is (fun k => (g k).bind (f k)) (a.bind b) := by
  have hm : Mo (fun k => (g k).bind (f k)) := fun k => LeO.bind (hg.mo k) (fun x => (hf x).mo k)
  refine ⟨hm, ?_⟩
  cases ha : a with
  | none =>
    refine none_lim fun k => ?_
    rw [lim_none (hg.lim.trans ha) k]
    rfl
  | some x =>
    obtain ⟨k, hk⟩ := of_lim (hg.lim.trans ha)
    show _ = b x
    cases hb : b x with
    | none =>
      refine none_lim fun k' => ?_
      cases hx : (g k').bind (f k') with
      | none => rfl
      | some r =>
        have h1 := mo_le hm (Nat.le_max_left k' k) hx
        have h2 := mo_le hg.mo (Nat.le_max_right k' k) hk
        simp only [h2, Option.bind_some] at h1
        rw [lim_none ((hf x).lim.trans hb)] at h1
        cases h1
    | some r =>
      obtain ⟨k', hk'⟩ := of_lim ((hf x).lim.trans hb)
      refine lim_some hm (k := max k k') ?_
      simp only [mo_le hg.mo (Nat.le_max_left k k') hk, Option.bind_some]
      exact mo_le (hf x).mo (Nat.le_max_right k k') hk'
theorem Is.step {α : Type} {g b : Nat → Option α} {v : Option α} (hg : Mo g) (h : ∀ k, g (k + 1) = b k) (hb : Is b v) : Lim g = v := by
  rw [← hb.lim]
  cases hx : Lim g with
  | none =>
    symm
    refine none_lim fun k => ?_
    rw [← h k]
    exact lim_none hx _
  | some r =>
    obtain ⟨k, hk⟩ := of_lim hx
    symm
    refine lim_some hb.mo (k := k) ?_
    rw [← h k]
    exact mo_le hg (Nat.le_succ k) hk
theorem ends {α : Type} {g : Nat → Option α} {r : α} (h : Lim g = some r) : ∃ k, g k = some r := of_lim h
end Go.Proofs.Ytldcchjbaglppaa.Base

/- Written by a program of this session (limx.py): the equations of what the printed functions come to. No condition. -/
namespace Go.Proofs.Ytldcchjbaglppaa.Print
open Go.RowKit Go.Proofs.YtldcchjbaglppaaW.PrintWords Go.Proofs.YtldcchjbaglppaaW.PrintLast Go.Proofs.Ytldcchjbaglppaa.Base
set_option linter.unusedVariables false
set_option maxRecDepth 20000
noncomputable def laws_szMachineS.l0v (x0 : List (S26)) (x1 : Int) (x5 : Int) : Option (Int) := Lim fun k => laws_szMachineS.l0 k x0 x1 x5
noncomputable def laws_szMachineS.fv (l0 : List (S26)) (a1 : Int) : Option (Int) := Lim fun k => laws_szMachineS.f k l0 a1
theorem laws_szMachineS.l0_is (x0 : List (S26)) (x1 : Int) (x5 : Int) : Is (fun k => laws_szMachineS.l0 k x0 x1 x5) (laws_szMachineS.l0v x0 x1 x5) := ⟨fun k => (laws_szMachineS.mono_l k) x0 x1 x5, rfl⟩
theorem laws_szMachineS.f_is (l0 : List (S26)) (a1 : Int) : Is (fun k => laws_szMachineS.f k l0 a1) (laws_szMachineS.fv l0 a1) := ⟨fun k => laws_szMachineS.mono l0 a1 k, rfl⟩
theorem laws_szMachineS.l0v_eq (x0 : List (S26)) (x1 : Int) (x5 : Int) : laws_szMachineS.l0v x0 x1 x5 = if x5 < (x0.length : Int) then (if 0 ≤ x5 then ((laws_szMachine.f ((rd_T26 x0 x5).f0) ((rd_T26 x0 x5).f1) ((rd_T26 x0 x5).f2) x1).bind fun t105 => (if t105 < 0 then (some (-1)) else (laws_szMachineS.l0v x0 t105 (wrap64 (x5 + 1))))) else (none)) else (some x1) := by
  refine Is.step (laws_szMachineS.l0_is x0 x1 x5).mo (fun k => by rw [laws_szMachineS.l0]) ?_
  · skip
    repeat' first
    | with_reducible exact laws_szMachineS.l0_is _ _ _
    | with_reducible exact Is.now _
    | with_reducible refine Is.ite ?_ ?_
    | with_reducible refine Is.bind ?_ (fun _ => ?_)
theorem laws_szMachineS.fv_eq (l0 : List (S26)) (a1 : Int) : laws_szMachineS.fv l0 a1 = if (wrap64 (a1 - (l0.length : Int))) < 0 then (some (-1)) else (laws_szMachineS.l0v l0 (wrap64 (a1 - (l0.length : Int))) 0) := by
  refine Is.lim (g := fun k => laws_szMachineS.f k l0 a1) ?_
  · unfold laws_szMachineS.f
    repeat' first
    | with_reducible exact laws_szMachineS.l0_is _ _ _
    | with_reducible exact Is.now _
    | with_reducible refine Is.ite ?_ ?_
    | with_reducible refine Is.bind ?_ (fun _ => ?_)
noncomputable def laws_toBoolS.l0v (x0 : List Bool) (x3 : List Bool) (x4 : Int) : Option (List Bool) := Lim fun k => laws_toBoolS.l0 k x0 x3 x4
noncomputable def laws_toBoolS.fv (l0 : List Bool) : Option (List Bool) := Lim fun k => laws_toBoolS.f k l0
theorem laws_toBoolS.l0_is (x0 : List Bool) (x3 : List Bool) (x4 : Int) : Is (fun k => laws_toBoolS.l0 k x0 x3 x4) (laws_toBoolS.l0v x0 x3 x4) := ⟨fun k => (laws_toBoolS.mono_l k) x0 x3 x4, rfl⟩
theorem laws_toBoolS.f_is (l0 : List Bool) : Is (fun k => laws_toBoolS.f k l0) (laws_toBoolS.fv l0) := ⟨fun k => laws_toBoolS.mono l0 k, rfl⟩
theorem laws_toBoolS.l0v_eq (x0 : List Bool) (x3 : List Bool) (x4 : Int) : laws_toBoolS.l0v x0 x3 x4 = if x4 < (x0.length : Int) then (if 0 ≤ x4 then (if x4 < (x3.length : Int) then (laws_toBoolS.l0v x0 (x3.set (x4 : Int).toNat (rdOf false x0 x4)) (wrap64 (x4 + 1))) else (none)) else (none)) else (some x3) := by
  refine Is.step (laws_toBoolS.l0_is x0 x3 x4).mo (fun k => by rw [laws_toBoolS.l0]) ?_
  · skip
    repeat' first
    | with_reducible exact laws_toBoolS.l0_is _ _ _
    | with_reducible exact Is.now _
    | with_reducible refine Is.ite ?_ ?_
    | with_reducible refine Is.bind ?_ (fun _ => ?_)
theorem laws_toBoolS.fv_eq (l0 : List Bool) : laws_toBoolS.fv l0 = if 0 ≤ (l0.length : Int) then (if ((l0.length : Int) : Int).toNat ≤ 281474976710656 then (laws_toBoolS.l0v l0 (List.replicate ((l0.length : Int) : Int).toNat false) 0) else (none)) else (none) := by
  refine Is.lim (g := fun k => laws_toBoolS.f k l0) ?_
  · unfold laws_toBoolS.f
    repeat' first
    | with_reducible exact laws_toBoolS.l0_is _ _ _
    | with_reducible exact Is.now _
    | with_reducible refine Is.ite ?_ ?_
    | with_reducible refine Is.bind ?_ (fun _ => ?_)
noncomputable def laws_toMoveS.l0v (x0 : List (S80)) (x3 : List (S78)) (x4 : Int) : Option ((List (S78))) := Lim fun k => laws_toMoveS.l0 k x0 x3 x4
noncomputable def laws_toMoveS.fv (l0 : List (S80)) : Option ((List (S78))) := Lim fun k => laws_toMoveS.f k l0
theorem laws_toMoveS.l0_is (x0 : List (S80)) (x3 : List (S78)) (x4 : Int) : Is (fun k => laws_toMoveS.l0 k x0 x3 x4) (laws_toMoveS.l0v x0 x3 x4) := ⟨fun k => (laws_toMoveS.mono_l k) x0 x3 x4, rfl⟩
theorem laws_toMoveS.f_is (l0 : List (S80)) : Is (fun k => laws_toMoveS.f k l0) (laws_toMoveS.fv l0) := ⟨fun k => laws_toMoveS.mono l0 k, rfl⟩
theorem laws_toMoveS.l0v_eq (x0 : List (S80)) (x3 : List (S78)) (x4 : Int) : laws_toMoveS.l0v x0 x3 x4 = if x4 < (x0.length : Int) then (if 0 ≤ x4 then ((laws_toMove.f ((rd_T80 x0 x4).f0) ((rd_T80 x0 x4).f1) ((rd_T80 x0 x4).f2) ((rd_T80 x0 x4).f3)).bind fun bt118 => (if x4 < (x3.length : Int) then (laws_toMoveS.l0v x0 (x3.set (x4 : Int).toNat (⟨bt118.1, bt118.2.1, bt118.2.2.1, bt118.2.2.2⟩ : S78)) (wrap64 (x4 + 1))) else (none))) else (none)) else (some x3) := by
  refine Is.step (laws_toMoveS.l0_is x0 x3 x4).mo (fun k => by rw [laws_toMoveS.l0]) ?_
  · skip
    repeat' first
    | with_reducible exact laws_toMoveS.l0_is _ _ _
    | with_reducible exact Is.now _
    | with_reducible refine Is.ite ?_ ?_
    | with_reducible refine Is.bind ?_ (fun _ => ?_)
theorem laws_toMoveS.fv_eq (l0 : List (S80)) : laws_toMoveS.fv l0 = if 0 ≤ (l0.length : Int) then (if ((l0.length : Int) : Int).toNat ≤ 8796093022208 then (laws_toMoveS.l0v l0 (List.replicate ((l0.length : Int) : Int).toNat z78) 0) else (none)) else (none) := by
  refine Is.lim (g := fun k => laws_toMoveS.f k l0) ?_
  · unfold laws_toMoveS.f
    repeat' first
    | with_reducible exact laws_toMoveS.l0_is _ _ _
    | with_reducible exact Is.now _
    | with_reducible refine Is.ite ?_ ?_
    | with_reducible refine Is.bind ?_ (fun _ => ?_)
noncomputable def laws_toMachine.fv (a0_0 : Int) (l0_1 : List Bool) (l0_2 : List (S80)) : Option (Int × List Bool × (List (S78))) := Lim fun k => laws_toMachine.f k a0_0 l0_1 l0_2
theorem laws_toMachine.f_is (a0_0 : Int) (l0_1 : List Bool) (l0_2 : List (S80)) : Is (fun k => laws_toMachine.f k a0_0 l0_1 l0_2) (laws_toMachine.fv a0_0 l0_1 l0_2) := ⟨fun k => laws_toMachine.mono a0_0 l0_1 l0_2 k, rfl⟩
theorem laws_toMachine.fv_eq (a0_0 : Int) (l0_1 : List Bool) (l0_2 : List (S80)) : laws_toMachine.fv a0_0 l0_1 l0_2 = (laws_toBoolS.fv l0_1).bind fun t126 => ((laws_toMoveS.fv l0_2).bind fun t129 => (some (a0_0, t126, t129))) := by
  refine Is.lim (g := fun k => laws_toMachine.f k a0_0 l0_1 l0_2) ?_
  · unfold laws_toMachine.f
    repeat' first
    | with_reducible exact laws_toBoolS.f_is _
    | with_reducible exact laws_toMoveS.f_is _
    | with_reducible exact Is.now _
    | with_reducible refine Is.ite ?_ ?_
    | with_reducible refine Is.bind ?_ (fun _ => ?_)
noncomputable def laws_toMachineS.l0v (x0 : List (S26)) (x3 : List (S34)) (x4 : Int) : Option ((List (S34))) := Lim fun k => laws_toMachineS.l0 k x0 x3 x4
noncomputable def laws_toMachineS.fv (l0 : List (S26)) : Option ((List (S34))) := Lim fun k => laws_toMachineS.f k l0
theorem laws_toMachineS.l0_is (x0 : List (S26)) (x3 : List (S34)) (x4 : Int) : Is (fun k => laws_toMachineS.l0 k x0 x3 x4) (laws_toMachineS.l0v x0 x3 x4) := ⟨fun k => (laws_toMachineS.mono_l k) x0 x3 x4, rfl⟩
theorem laws_toMachineS.f_is (l0 : List (S26)) : Is (fun k => laws_toMachineS.f k l0) (laws_toMachineS.fv l0) := ⟨fun k => laws_toMachineS.mono l0 k, rfl⟩
theorem laws_toMachineS.l0v_eq (x0 : List (S26)) (x3 : List (S34)) (x4 : Int) : laws_toMachineS.l0v x0 x3 x4 = if x4 < (x0.length : Int) then (if 0 ≤ x4 then ((laws_toMachine.fv ((rd_T26 x0 x4).f0) ((rd_T26 x0 x4).f1) ((rd_T26 x0 x4).f2)).bind fun bt136 => (if x4 < (x3.length : Int) then (laws_toMachineS.l0v x0 (x3.set (x4 : Int).toNat (⟨bt136.1, bt136.2.1, bt136.2.2⟩ : S34)) (wrap64 (x4 + 1))) else (none))) else (none)) else (some x3) := by
  refine Is.step (laws_toMachineS.l0_is x0 x3 x4).mo (fun k => by rw [laws_toMachineS.l0]) ?_
  · skip
    repeat' first
    | with_reducible exact laws_toMachine.f_is _ _ _
    | with_reducible exact laws_toMachineS.l0_is _ _ _
    | with_reducible exact Is.now _
    | with_reducible refine Is.ite ?_ ?_
    | with_reducible refine Is.bind ?_ (fun _ => ?_)
theorem laws_toMachineS.fv_eq (l0 : List (S26)) : laws_toMachineS.fv l0 = if 0 ≤ (l0.length : Int) then (if ((l0.length : Int) : Int).toNat ≤ 5026338869833 then (laws_toMachineS.l0v l0 (List.replicate ((l0.length : Int) : Int).toNat z34) 0) else (none)) else (none) := by
  refine Is.lim (g := fun k => laws_toMachineS.f k l0) ?_
  · unfold laws_toMachineS.f
    repeat' first
    | with_reducible exact laws_toMachineS.l0_is _ _ _
    | with_reducible exact Is.now _
    | with_reducible refine Is.ite ?_ ?_
    | with_reducible refine Is.bind ?_ (fun _ => ?_)
end Go.Proofs.Ytldcchjbaglppaa.Print

/- Written by a program of this session (limx.py): the equations of what the printed functions come to. No condition. -/
namespace Go.Proofs.Ytldcchjbaglppaa.Print
open Go.RowKit Go.Proofs.YtldcchjbaglppaaW.PrintWords Go.Proofs.YtldcchjbaglppaaW.PrintLast Go.Proofs.Ytldcchjbaglppaa.Base
set_option linter.unusedVariables false
set_option maxRecDepth 20000
noncomputable def laws_eqBoolS.l0v (x0 : List Bool) (x1 : List Bool) (x5 : Int) : Option (Bool) := Lim fun k => laws_eqBoolS.l0 k x0 x1 x5
noncomputable def laws_eqBoolS.fv (l0 : List Bool) (l1 : List Bool) : Option (Bool) := Lim fun k => laws_eqBoolS.f k l0 l1
theorem laws_eqBoolS.l0_is (x0 : List Bool) (x1 : List Bool) (x5 : Int) : Is (fun k => laws_eqBoolS.l0 k x0 x1 x5) (laws_eqBoolS.l0v x0 x1 x5) := ⟨fun k => (laws_eqBoolS.mono_l k) x0 x1 x5, rfl⟩
theorem laws_eqBoolS.f_is (l0 : List Bool) (l1 : List Bool) : Is (fun k => laws_eqBoolS.f k l0 l1) (laws_eqBoolS.fv l0 l1) := ⟨fun k => laws_eqBoolS.mono l0 l1 k, rfl⟩
theorem laws_eqBoolS.l0v_eq (x0 : List Bool) (x1 : List Bool) (x5 : Int) : laws_eqBoolS.l0v x0 x1 x5 = if x5 < (x0.length : Int) then (if 0 ≤ x5 then (if x5 < (x1.length : Int) then (if rdOf false x0 x5 = true then (if rdOf false x1 x5 = true then (laws_eqBoolS.l0v x0 x1 (wrap64 (x5 + 1))) else (some false)) else (if rdOf false x1 x5 = true then (some false) else (laws_eqBoolS.l0v x0 x1 (wrap64 (x5 + 1))))) else (none)) else (none)) else (some true) := by
  refine Is.step (laws_eqBoolS.l0_is x0 x1 x5).mo (fun k => by rw [laws_eqBoolS.l0]) ?_
  · skip
    repeat' first
    | with_reducible exact laws_eqBoolS.l0_is _ _ _
    | with_reducible exact Is.now _
    | with_reducible refine Is.ite ?_ ?_
    | with_reducible refine Is.bind ?_ (fun _ => ?_)
theorem laws_eqBoolS.fv_eq (l0 : List Bool) (l1 : List Bool) : laws_eqBoolS.fv l0 l1 = if (l0.length : Int) = (l1.length : Int) then (laws_eqBoolS.l0v l0 l1 0) else (some false) := by
  refine Is.lim (g := fun k => laws_eqBoolS.f k l0 l1) ?_
  · unfold laws_eqBoolS.f
    repeat' first
    | with_reducible exact laws_eqBoolS.l0_is _ _ _
    | with_reducible exact Is.now _
    | with_reducible refine Is.ite ?_ ?_
    | with_reducible refine Is.bind ?_ (fun _ => ?_)
noncomputable def laws_eqMoveS.l0v (x0 : List (S78)) (x1 : List (S78)) (x5 : Int) : Option (Bool) := Lim fun k => laws_eqMoveS.l0 k x0 x1 x5
noncomputable def laws_eqMoveS.fv (l0 : List (S78)) (l1 : List (S78)) : Option (Bool) := Lim fun k => laws_eqMoveS.f k l0 l1
theorem laws_eqMoveS.l0_is (x0 : List (S78)) (x1 : List (S78)) (x5 : Int) : Is (fun k => laws_eqMoveS.l0 k x0 x1 x5) (laws_eqMoveS.l0v x0 x1 x5) := ⟨fun k => (laws_eqMoveS.mono_l k) x0 x1 x5, rfl⟩
theorem laws_eqMoveS.f_is (l0 : List (S78)) (l1 : List (S78)) : Is (fun k => laws_eqMoveS.f k l0 l1) (laws_eqMoveS.fv l0 l1) := ⟨fun k => laws_eqMoveS.mono l0 l1 k, rfl⟩
theorem laws_eqMoveS.l0v_eq (x0 : List (S78)) (x1 : List (S78)) (x5 : Int) : laws_eqMoveS.l0v x0 x1 x5 = if x5 < (x0.length : Int) then (if 0 ≤ x5 then (if x5 < (x1.length : Int) then ((laws_eqMove.f ((rd_T78 x0 x5).f0) ((rd_T78 x0 x5).f1) ((rd_T78 x0 x5).f2) ((rd_T78 x0 x5).f3) ((rd_T78 x1 x5).f0) ((rd_T78 x1 x5).f1) ((rd_T78 x1 x5).f2) ((rd_T78 x1 x5).f3)).bind fun t150 => (if t150 = true then (laws_eqMoveS.l0v x0 x1 (wrap64 (x5 + 1))) else (some false))) else (none)) else (none)) else (some true) := by
  refine Is.step (laws_eqMoveS.l0_is x0 x1 x5).mo (fun k => by rw [laws_eqMoveS.l0]) ?_
  · skip
    repeat' first
    | with_reducible exact laws_eqMoveS.l0_is _ _ _
    | with_reducible exact Is.now _
    | with_reducible refine Is.ite ?_ ?_
    | with_reducible refine Is.bind ?_ (fun _ => ?_)
theorem laws_eqMoveS.fv_eq (l0 : List (S78)) (l1 : List (S78)) : laws_eqMoveS.fv l0 l1 = if (l0.length : Int) = (l1.length : Int) then (laws_eqMoveS.l0v l0 l1 0) else (some false) := by
  refine Is.lim (g := fun k => laws_eqMoveS.f k l0 l1) ?_
  · unfold laws_eqMoveS.f
    repeat' first
    | with_reducible exact laws_eqMoveS.l0_is _ _ _
    | with_reducible exact Is.now _
    | with_reducible refine Is.ite ?_ ?_
    | with_reducible refine Is.bind ?_ (fun _ => ?_)
noncomputable def laws_eqMachine.fv (a0_0 : Int) (l0_1 : List Bool) (l0_2 : List (S78)) (a1_0 : Int) (l1_1 : List Bool) (l1_2 : List (S78)) : Option (Bool) := Lim fun k => laws_eqMachine.f k a0_0 l0_1 l0_2 a1_0 l1_1 l1_2
theorem laws_eqMachine.f_is (a0_0 : Int) (l0_1 : List Bool) (l0_2 : List (S78)) (a1_0 : Int) (l1_1 : List Bool) (l1_2 : List (S78)) : Is (fun k => laws_eqMachine.f k a0_0 l0_1 l0_2 a1_0 l1_1 l1_2) (laws_eqMachine.fv a0_0 l0_1 l0_2 a1_0 l1_1 l1_2) := ⟨fun k => laws_eqMachine.mono a0_0 l0_1 l0_2 a1_0 l1_1 l1_2 k, rfl⟩
theorem laws_eqMachine.fv_eq (a0_0 : Int) (l0_1 : List Bool) (l0_2 : List (S78)) (a1_0 : Int) (l1_1 : List Bool) (l1_2 : List (S78)) : laws_eqMachine.fv a0_0 l0_1 l0_2 a1_0 l1_1 l1_2 = if a0_0 = a1_0 then ((laws_eqBoolS.fv l0_1 l1_1).bind fun t153 => (if t153 = true then ((laws_eqMoveS.fv l0_2 l1_2).bind fun t154 => (if t154 = true then (some true) else (some false))) else (some false))) else (some false) := by
  refine Is.lim (g := fun k => laws_eqMachine.f k a0_0 l0_1 l0_2 a1_0 l1_1 l1_2) ?_
  · unfold laws_eqMachine.f
    repeat' first
    | with_reducible exact laws_eqBoolS.f_is _ _
    | with_reducible exact laws_eqMoveS.f_is _ _
    | with_reducible exact Is.now _
    | with_reducible refine Is.ite ?_ ?_
    | with_reducible refine Is.bind ?_ (fun _ => ?_)
end Go.Proofs.Ytldcchjbaglppaa.Print

/- Written by a program of this session (limx.py): the equations of what the printed functions come to. No condition. -/
namespace Go.Proofs.Ytldcchjbaglppaa.Print
open Go.RowKit Go.Proofs.YtldcchjbaglppaaW.PrintWords Go.Proofs.YtldcchjbaglppaaW.PrintLast Go.Proofs.Ytldcchjbaglppaa.Base
set_option linter.unusedVariables false
set_option maxRecDepth 20000
noncomputable def laws_eqMachineS.l0v (x0 : List (S34)) (x1 : List (S34)) (x5 : Int) : Option (Bool) := Lim fun k => laws_eqMachineS.l0 k x0 x1 x5
noncomputable def laws_eqMachineS.fv (l0 : List (S34)) (l1 : List (S34)) : Option (Bool) := Lim fun k => laws_eqMachineS.f k l0 l1
theorem laws_eqMachineS.l0_is (x0 : List (S34)) (x1 : List (S34)) (x5 : Int) : Is (fun k => laws_eqMachineS.l0 k x0 x1 x5) (laws_eqMachineS.l0v x0 x1 x5) := ⟨fun k => (laws_eqMachineS.mono_l k) x0 x1 x5, rfl⟩
theorem laws_eqMachineS.f_is (l0 : List (S34)) (l1 : List (S34)) : Is (fun k => laws_eqMachineS.f k l0 l1) (laws_eqMachineS.fv l0 l1) := ⟨fun k => laws_eqMachineS.mono l0 l1 k, rfl⟩
theorem laws_eqMachineS.l0v_eq (x0 : List (S34)) (x1 : List (S34)) (x5 : Int) : laws_eqMachineS.l0v x0 x1 x5 = if x5 < (x0.length : Int) then (if 0 ≤ x5 then (if x5 < (x1.length : Int) then ((laws_eqMachine.fv ((rd_T34 x0 x5).f0) ((rd_T34 x0 x5).f1) ((rd_T34 x0 x5).f2) ((rd_T34 x1 x5).f0) ((rd_T34 x1 x5).f1) ((rd_T34 x1 x5).f2)).bind fun t157 => (if t157 = true then (laws_eqMachineS.l0v x0 x1 (wrap64 (x5 + 1))) else (some false))) else (none)) else (none)) else (some true) := by
  refine Is.step (laws_eqMachineS.l0_is x0 x1 x5).mo (fun k => by rw [laws_eqMachineS.l0]) ?_
  · skip
    repeat' first
    | with_reducible exact laws_eqMachine.f_is _ _ _ _ _ _
    | with_reducible exact laws_eqMachineS.l0_is _ _ _
    | with_reducible exact Is.now _
    | with_reducible refine Is.ite ?_ ?_
    | with_reducible refine Is.bind ?_ (fun _ => ?_)
theorem laws_eqMachineS.fv_eq (l0 : List (S34)) (l1 : List (S34)) : laws_eqMachineS.fv l0 l1 = if (l0.length : Int) = (l1.length : Int) then (laws_eqMachineS.l0v l0 l1 0) else (some false) := by
  refine Is.lim (g := fun k => laws_eqMachineS.f k l0 l1) ?_
  · unfold laws_eqMachineS.f
    repeat' first
    | with_reducible exact laws_eqMachineS.l0_is _ _ _
    | with_reducible exact Is.now _
    | with_reducible refine Is.ite ?_ ?_
    | with_reducible refine Is.bind ?_ (fun _ => ?_)
end Go.Proofs.Ytldcchjbaglppaa.Print

/- Written by a program of this session (limx.py): the equations of what the printed functions come to. No condition. -/
namespace Go.Proofs.Ytldcchjbaglppaa.Print
open Go.RowKit Go.Proofs.YtldcchjbaglppaaW.PrintWords Go.Proofs.YtldcchjbaglppaaW.PrintLast Go.Proofs.Ytldcchjbaglppaa.Base
set_option linter.unusedVariables false
set_option maxRecDepth 20000
noncomputable def impl_IsMachine.j0v (x24 : Bool) (x159000 : Int) (x159001 : List Bool) (x159002 : List (S78)) : Option (Bool) := Lim fun k => impl_IsMachine.j0 k x24 x159000 x159001 x159002
noncomputable def impl_IsMachine.l0v (x26 : List (S78)) (x27 : Int) (x28 : Int) (x159000 : Int) (x159001 : List Bool) (x159002 : List (S78)) : Option (Bool) := Lim fun k => impl_IsMachine.l0 k x26 x27 x28 x159000 x159001 x159002
noncomputable def impl_IsMachine.j2v (x3 : Int) (x26 : List (S78)) (x27 : Int) (x28 : Int) (x54 : Bool) (x159000 : Int) (x159001 : List Bool) (x159002 : List (S78)) (x162000 : Int) (x162001 : Bool) (x162002 : Int) (x162003 : Int) : Option (Bool) := Lim fun k => impl_IsMachine.j2 k x3 x26 x27 x28 x54 x159000 x159001 x159002 x162000 x162001 x162002 x162003
noncomputable def impl_IsMachine.l1v (x26 : List (S78)) (x27 : Int) (x28 : Int) (x58 : List (S78)) (x59 : Int) (x60 : Int) (x159000 : Int) (x159001 : List Bool) (x159002 : List (S78)) (x162000 : Int) (x162001 : Bool) (x162002 : Int) (x162003 : Int) : Option (Bool) := Lim fun k => impl_IsMachine.l1 k x26 x27 x28 x58 x59 x60 x159000 x159001 x159002 x162000 x162001 x162002 x162003
noncomputable def impl_IsMachine.fv (a0_0 : Int) (l0_1 : List Bool) (l0_2 : List (S78)) : Option (Bool) := Lim fun k => impl_IsMachine.f k a0_0 l0_1 l0_2
theorem impl_IsMachine.j0_is (x24 : Bool) (x159000 : Int) (x159001 : List Bool) (x159002 : List (S78)) : Is (fun k => impl_IsMachine.j0 k x24 x159000 x159001 x159002) (impl_IsMachine.j0v x24 x159000 x159001 x159002) := ⟨fun k => (impl_IsMachine.mono_l k).1 x24 x159000 x159001 x159002, rfl⟩
theorem impl_IsMachine.l0_is (x26 : List (S78)) (x27 : Int) (x28 : Int) (x159000 : Int) (x159001 : List Bool) (x159002 : List (S78)) : Is (fun k => impl_IsMachine.l0 k x26 x27 x28 x159000 x159001 x159002) (impl_IsMachine.l0v x26 x27 x28 x159000 x159001 x159002) := ⟨fun k => (impl_IsMachine.mono_l k).2.1 x26 x27 x28 x159000 x159001 x159002, rfl⟩
theorem impl_IsMachine.j2_is (x3 : Int) (x26 : List (S78)) (x27 : Int) (x28 : Int) (x54 : Bool) (x159000 : Int) (x159001 : List Bool) (x159002 : List (S78)) (x162000 : Int) (x162001 : Bool) (x162002 : Int) (x162003 : Int) : Is (fun k => impl_IsMachine.j2 k x3 x26 x27 x28 x54 x159000 x159001 x159002 x162000 x162001 x162002 x162003) (impl_IsMachine.j2v x3 x26 x27 x28 x54 x159000 x159001 x159002 x162000 x162001 x162002 x162003) := ⟨fun k => (impl_IsMachine.mono_l k).2.2.1 x3 x26 x27 x28 x54 x159000 x159001 x159002 x162000 x162001 x162002 x162003, rfl⟩
theorem impl_IsMachine.l1_is (x26 : List (S78)) (x27 : Int) (x28 : Int) (x58 : List (S78)) (x59 : Int) (x60 : Int) (x159000 : Int) (x159001 : List Bool) (x159002 : List (S78)) (x162000 : Int) (x162001 : Bool) (x162002 : Int) (x162003 : Int) : Is (fun k => impl_IsMachine.l1 k x26 x27 x28 x58 x59 x60 x159000 x159001 x159002 x162000 x162001 x162002 x162003) (impl_IsMachine.l1v x26 x27 x28 x58 x59 x60 x159000 x159001 x159002 x162000 x162001 x162002 x162003) := ⟨fun k => (impl_IsMachine.mono_l k).2.2.2 x26 x27 x28 x58 x59 x60 x159000 x159001 x159002 x162000 x162001 x162002 x162003, rfl⟩
theorem impl_IsMachine.f_is (a0_0 : Int) (l0_1 : List Bool) (l0_2 : List (S78)) : Is (fun k => impl_IsMachine.f k a0_0 l0_1 l0_2) (impl_IsMachine.fv a0_0 l0_1 l0_2) := ⟨fun k => impl_IsMachine.mono a0_0 l0_1 l0_2 k, rfl⟩
theorem impl_IsMachine.j0v_eq (x24 : Bool) (x159000 : Int) (x159001 : List Bool) (x159002 : List (S78)) : impl_IsMachine.j0v x24 x159000 x159001 x159002 = if x24 = true then (some false) else (impl_IsMachine.l0v x159002 (x159002.length : Int) 0 x159000 x159001 x159002) := by
  refine Is.step (impl_IsMachine.j0_is x24 x159000 x159001 x159002).mo (fun k => by rw [impl_IsMachine.j0]) ?_
  · skip
    repeat' first
    | with_reducible exact impl_IsMachine.l0_is _ _ _ _ _ _
    | with_reducible exact Is.now _
    | with_reducible refine Is.ite ?_ ?_
    | with_reducible refine Is.bind ?_ (fun _ => ?_)
theorem impl_IsMachine.l0v_eq (x26 : List (S78)) (x27 : Int) (x28 : Int) (x159000 : Int) (x159001 : List Bool) (x159002 : List (S78)) : impl_IsMachine.l0v x26 x27 x28 x159000 x159001 x159002 = if x28 < x27 then (if 0 ≤ x28 then (if x28 < (x26.length : Int) then ((impl_InRange.f ((rd_T78 x26 x28).f0) 0 (wrap64 (x159000 - 1))).bind fun t162 => (if t162 = true then ((impl_InRange.f ((rd_T78 x26 x28).f3) 0 (wrap64 (x159000 - 1))).bind fun t163 => (if t163 = true then ((impl_InRange.f ((rd_T78 x26 x28).f2) 0 5).bind fun t164 => (impl_IsMachine.j2v x28 x26 x27 x28 (!t164) x159000 x159001 x159002 ((rd_T78 x26 x28).f0) ((rd_T78 x26 x28).f1) ((rd_T78 x26 x28).f2) ((rd_T78 x26 x28).f3))) else (impl_IsMachine.j2v x28 x26 x27 x28 true x159000 x159001 x159002 ((rd_T78 x26 x28).f0) ((rd_T78 x26 x28).f1) ((rd_T78 x26 x28).f2) ((rd_T78 x26 x28).f3)))) else (impl_IsMachine.j2v x28 x26 x27 x28 true x159000 x159001 x159002 ((rd_T78 x26 x28).f0) ((rd_T78 x26 x28).f1) ((rd_T78 x26 x28).f2) ((rd_T78 x26 x28).f3)))) else (none)) else (none)) else (some true) := by
  refine Is.step (impl_IsMachine.l0_is x26 x27 x28 x159000 x159001 x159002).mo (fun k => by rw [impl_IsMachine.l0]) ?_
  · skip
    repeat' first
    | with_reducible exact impl_IsMachine.j2_is _ _ _ _ _ _ _ _ _ _ _ _
    | with_reducible exact Is.now _
    | with_reducible refine Is.ite ?_ ?_
    | with_reducible refine Is.bind ?_ (fun _ => ?_)
theorem impl_IsMachine.j2v_eq (x3 : Int) (x26 : List (S78)) (x27 : Int) (x28 : Int) (x54 : Bool) (x159000 : Int) (x159001 : List Bool) (x159002 : List (S78)) (x162000 : Int) (x162001 : Bool) (x162002 : Int) (x162003 : Int) : impl_IsMachine.j2v x3 x26 x27 x28 x54 x159000 x159001 x159002 x162000 x162001 x162002 x162003 = if x54 = true then (some false) else (if 0 ≤ x3 then (if x3 ≤ (x159002.length : Int) then ((some (x159002.take (x3 : Int).toNat : List (S78))).bind fun y165 => (impl_IsMachine.l1v x26 x27 x28 y165 (y165.length : Int) 0 x159000 x159001 x159002 x162000 x162001 x162002 x162003)) else (none)) else (none)) := by
  refine Is.step (impl_IsMachine.j2_is x3 x26 x27 x28 x54 x159000 x159001 x159002 x162000 x162001 x162002 x162003).mo (fun k => by rw [impl_IsMachine.j2]) ?_
  · skip
    repeat' first
    | with_reducible exact impl_IsMachine.l1_is _ _ _ _ _ _ _ _ _ _ _ _ _
    | with_reducible exact Is.now _
    | with_reducible refine Is.ite ?_ ?_
    | with_reducible refine Is.bind ?_ (fun _ => ?_)
theorem impl_IsMachine.l1v_eq (x26 : List (S78)) (x27 : Int) (x28 : Int) (x58 : List (S78)) (x59 : Int) (x60 : Int) (x159000 : Int) (x159001 : List Bool) (x159002 : List (S78)) (x162000 : Int) (x162001 : Bool) (x162002 : Int) (x162003 : Int) : impl_IsMachine.l1v x26 x27 x28 x58 x59 x60 x159000 x159001 x159002 x162000 x162001 x162002 x162003 = if x60 < x59 then (if 0 ≤ x60 then (if x60 < (x58.length : Int) then (if ((rd_T78 x58 x60).f0) = x162000 then (if (((rd_T78 x58 x60).f1) != x162001) = true then (some false) else (if ((rd_T78 x58 x60).f2) = x162002 then (some false) else (impl_IsMachine.l1v x26 x27 x28 x58 x59 (wrap64 (x60 + 1)) x159000 x159001 x159002 x162000 x162001 x162002 x162003))) else (impl_IsMachine.l1v x26 x27 x28 x58 x59 (wrap64 (x60 + 1)) x159000 x159001 x159002 x162000 x162001 x162002 x162003)) else (none)) else (none)) else (impl_IsMachine.l0v x26 x27 (wrap64 (x28 + 1)) x159000 x159001 x159002) := by
  refine Is.step (impl_IsMachine.l1_is x26 x27 x28 x58 x59 x60 x159000 x159001 x159002 x162000 x162001 x162002 x162003).mo (fun k => by rw [impl_IsMachine.l1]) ?_
  · skip
    repeat' first
    | with_reducible exact impl_IsMachine.l0_is _ _ _ _ _ _
    | with_reducible exact impl_IsMachine.l1_is _ _ _ _ _ _ _ _ _ _ _ _ _
    | with_reducible exact Is.now _
    | with_reducible refine Is.ite ?_ ?_
    | with_reducible refine Is.bind ?_ (fun _ => ?_)
theorem impl_IsMachine.fv_eq (a0_0 : Int) (l0_1 : List Bool) (l0_2 : List (S78)) : impl_IsMachine.fv a0_0 l0_1 l0_2 = (impl_InRange.f a0_0 1 6).bind fun t159 => (if t159 = true then (if (l0_1.length : Int) = a0_0 then (impl_IsMachine.j0v (decide ((l0_2.length : Int) > 12)) a0_0 l0_1 l0_2) else (impl_IsMachine.j0v true a0_0 l0_1 l0_2)) else (impl_IsMachine.j0v true a0_0 l0_1 l0_2)) := by
  refine Is.lim (g := fun k => impl_IsMachine.f k a0_0 l0_1 l0_2) ?_
  · unfold impl_IsMachine.f
    repeat' first
    | with_reducible exact impl_IsMachine.j0_is _ _ _ _
    | with_reducible exact Is.now _
    | with_reducible refine Is.ite ?_ ?_
    | with_reducible refine Is.bind ?_ (fun _ => ?_)
end Go.Proofs.Ytldcchjbaglppaa.Print

/- Written by a program of this session (limx.py): the equations of what the printed functions come to. No condition. -/
namespace Go.Proofs.Ytldcchjbaglppaa.Print
open Go.RowKit Go.Proofs.YtldcchjbaglppaaW.PrintWords Go.Proofs.YtldcchjbaglppaaW.PrintLast Go.Proofs.Ytldcchjbaglppaa.Base
set_option linter.unusedVariables false
set_option maxRecDepth 20000
noncomputable def slices_Equal_int_int.l0v (x0 : List Int) (x1 : List Int) (x12 : Int) (x13 : Int) : Option (Bool) := Lim fun k => slices_Equal_int_int.l0 k x0 x1 x12 x13
noncomputable def slices_Equal_int_int.fv (l0 : List Int) (l1 : List Int) : Option (Bool) := Lim fun k => slices_Equal_int_int.f k l0 l1
theorem slices_Equal_int_int.l0_is (x0 : List Int) (x1 : List Int) (x12 : Int) (x13 : Int) : Is (fun k => slices_Equal_int_int.l0 k x0 x1 x12 x13) (slices_Equal_int_int.l0v x0 x1 x12 x13) := ⟨fun k => (slices_Equal_int_int.mono_l k) x0 x1 x12 x13, rfl⟩
theorem slices_Equal_int_int.f_is (l0 : List Int) (l1 : List Int) : Is (fun k => slices_Equal_int_int.f k l0 l1) (slices_Equal_int_int.fv l0 l1) := ⟨fun k => slices_Equal_int_int.mono l0 l1 k, rfl⟩
theorem slices_Equal_int_int.l0v_eq (x0 : List Int) (x1 : List Int) (x12 : Int) (x13 : Int) : slices_Equal_int_int.l0v x0 x1 x12 x13 = if x13 < x12 then (if 0 ≤ x13 then (if x13 < (x0.length : Int) then (if x13 < (x1.length : Int) then (if (rd x0 x13) = (rd x1 x13) then (slices_Equal_int_int.l0v x0 x1 x12 (wrap64 (x13 + 1))) else (some false)) else (none)) else (none)) else (none)) else (some true) := by
  refine Is.step (slices_Equal_int_int.l0_is x0 x1 x12 x13).mo (fun k => by rw [slices_Equal_int_int.l0]) ?_
  · skip
    repeat' first
    | with_reducible exact slices_Equal_int_int.l0_is _ _ _ _
    | with_reducible exact Is.now _
    | with_reducible refine Is.ite ?_ ?_
    | with_reducible refine Is.bind ?_ (fun _ => ?_)
theorem slices_Equal_int_int.fv_eq (l0 : List Int) (l1 : List Int) : slices_Equal_int_int.fv l0 l1 = if (l0.length : Int) = (l1.length : Int) then (slices_Equal_int_int.l0v l0 l1 (l0.length : Int) 0) else (some false) := by
  refine Is.lim (g := fun k => slices_Equal_int_int.f k l0 l1) ?_
  · unfold slices_Equal_int_int.f
    repeat' first
    | with_reducible exact slices_Equal_int_int.l0_is _ _ _ _
    | with_reducible exact Is.now _
    | with_reducible refine Is.ite ?_ ?_
    | with_reducible refine Is.bind ?_ (fun _ => ?_)
noncomputable def slices_insertionSortOrdered_int.l0v (x0 : List Int) (x1 : Int) (x2 : Int) (x6 : Int) : Option (List Int) := Lim fun k => slices_insertionSortOrdered_int.l0 k x0 x1 x2 x6
noncomputable def slices_insertionSortOrdered_int.l1v (x0 : List Int) (x1 : Int) (x2 : Int) (x6 : Int) (x7 : Int) : Option (List Int) := Lim fun k => slices_insertionSortOrdered_int.l1 k x0 x1 x2 x6 x7
noncomputable def slices_insertionSortOrdered_int.fv (l0 : List Int) (a1 : Int) (a2 : Int) : Option (List Int) := Lim fun k => slices_insertionSortOrdered_int.f k l0 a1 a2
theorem slices_insertionSortOrdered_int.l0_is (x0 : List Int) (x1 : Int) (x2 : Int) (x6 : Int) : Is (fun k => slices_insertionSortOrdered_int.l0 k x0 x1 x2 x6) (slices_insertionSortOrdered_int.l0v x0 x1 x2 x6) := ⟨fun k => (slices_insertionSortOrdered_int.mono_l k).1 x0 x1 x2 x6, rfl⟩
theorem slices_insertionSortOrdered_int.l1_is (x0 : List Int) (x1 : Int) (x2 : Int) (x6 : Int) (x7 : Int) : Is (fun k => slices_insertionSortOrdered_int.l1 k x0 x1 x2 x6 x7) (slices_insertionSortOrdered_int.l1v x0 x1 x2 x6 x7) := ⟨fun k => (slices_insertionSortOrdered_int.mono_l k).2 x0 x1 x2 x6 x7, rfl⟩
theorem slices_insertionSortOrdered_int.f_is (l0 : List Int) (a1 : Int) (a2 : Int) : Is (fun k => slices_insertionSortOrdered_int.f k l0 a1 a2) (slices_insertionSortOrdered_int.fv l0 a1 a2) := ⟨fun k => slices_insertionSortOrdered_int.mono l0 a1 a2 k, rfl⟩
theorem slices_insertionSortOrdered_int.l0v_eq (x0 : List Int) (x1 : Int) (x2 : Int) (x6 : Int) : slices_insertionSortOrdered_int.l0v x0 x1 x2 x6 = if x6 < x2 then (slices_insertionSortOrdered_int.l1v x0 x1 x2 x6 x6) else (some x0) := by
  refine Is.step (slices_insertionSortOrdered_int.l0_is x0 x1 x2 x6).mo (fun k => by rw [slices_insertionSortOrdered_int.l0]) ?_
  · skip
    repeat' first
    | with_reducible exact slices_insertionSortOrdered_int.l1_is _ _ _ _ _
    | with_reducible exact Is.now _
    | with_reducible refine Is.ite ?_ ?_
    | with_reducible refine Is.bind ?_ (fun _ => ?_)
theorem slices_insertionSortOrdered_int.l1v_eq (x0 : List Int) (x1 : Int) (x2 : Int) (x6 : Int) (x7 : Int) : slices_insertionSortOrdered_int.l1v x0 x1 x2 x6 x7 = if x7 > x1 then (if 0 ≤ x7 then (if x7 < (x0.length : Int) then (if 0 ≤ (wrap64 (x7 - 1)) then (if (wrap64 (x7 - 1)) < (x0.length : Int) then ((cmp_Less_int.f (rd x0 x7) (rd x0 (wrap64 (x7 - 1)))).bind fun t177 => (if t177 = true then (slices_insertionSortOrdered_int.l1v ((x0.set (x7 : Int).toNat (rd x0 (wrap64 (x7 - 1)))).set ((wrap64 (x7 - 1)) : Int).toNat (rd x0 x7)) x1 x2 x6 (wrap64 (x7 - 1))) else (slices_insertionSortOrdered_int.l0v x0 x1 x2 (wrap64 (x6 + 1))))) else (none)) else (none)) else (none)) else (none)) else (slices_insertionSortOrdered_int.l0v x0 x1 x2 (wrap64 (x6 + 1))) := by
  refine Is.step (slices_insertionSortOrdered_int.l1_is x0 x1 x2 x6 x7).mo (fun k => by rw [slices_insertionSortOrdered_int.l1]) ?_
  · skip
    repeat' first
    | with_reducible exact slices_insertionSortOrdered_int.l0_is _ _ _ _
    | with_reducible exact slices_insertionSortOrdered_int.l1_is _ _ _ _ _
    | with_reducible exact Is.now _
    | with_reducible refine Is.ite ?_ ?_
    | with_reducible refine Is.bind ?_ (fun _ => ?_)
theorem slices_insertionSortOrdered_int.fv_eq (l0 : List Int) (a1 : Int) (a2 : Int) : slices_insertionSortOrdered_int.fv l0 a1 a2 = slices_insertionSortOrdered_int.l0v l0 a1 a2 (wrap64 (a1 + 1)) := by
  refine Is.lim (g := fun k => slices_insertionSortOrdered_int.f k l0 a1 a2) ?_
  · unfold slices_insertionSortOrdered_int.f
    repeat' first
    | with_reducible exact slices_insertionSortOrdered_int.l0_is _ _ _ _
    | with_reducible exact Is.now _
    | with_reducible refine Is.ite ?_ ?_
    | with_reducible refine Is.bind ?_ (fun _ => ?_)
noncomputable def slices_pdqsortOrdered_int.l0v (x0 : List Int) (x1 : Int) (x2 : Int) (x3 : Int) (x8 : Bool) : Option (List Int) := Lim fun k => slices_pdqsortOrdered_int.l0 k x0 x1 x2 x3 x8
noncomputable def slices_pdqsortOrdered_int.fv (l0 : List Int) (a1 : Int) (a2 : Int) (a3 : Int) : Option (List Int) := Lim fun k => slices_pdqsortOrdered_int.f k l0 a1 a2 a3
theorem slices_pdqsortOrdered_int.l0_is (x0 : List Int) (x1 : Int) (x2 : Int) (x3 : Int) (x8 : Bool) : Is (fun k => slices_pdqsortOrdered_int.l0 k x0 x1 x2 x3 x8) (slices_pdqsortOrdered_int.l0v x0 x1 x2 x3 x8) := ⟨fun k => (slices_pdqsortOrdered_int.mono_l k) x0 x1 x2 x3 x8, rfl⟩
theorem slices_pdqsortOrdered_int.f_is (l0 : List Int) (a1 : Int) (a2 : Int) (a3 : Int) : Is (fun k => slices_pdqsortOrdered_int.f k l0 a1 a2 a3) (slices_pdqsortOrdered_int.fv l0 a1 a2 a3) := ⟨fun k => slices_pdqsortOrdered_int.mono l0 a1 a2 a3 k, rfl⟩
theorem slices_pdqsortOrdered_int.l0v_eq (x0 : List Int) (x1 : Int) (x2 : Int) (x3 : Int) (x8 : Bool) : slices_pdqsortOrdered_int.l0v x0 x1 x2 x3 x8 = if (wrap64 (x2 - x1)) ≤ 12 then ((slices_insertionSortOrdered_int.fv x0 x1 x2).bind fun t182 => (some t182)) else (if x3 = 0 then (none) else (if x8 = true then (none) else (none))) := by
  refine Is.step (slices_pdqsortOrdered_int.l0_is x0 x1 x2 x3 x8).mo (fun k => by rw [slices_pdqsortOrdered_int.l0]) ?_
  · skip
    repeat' first
    | with_reducible exact slices_insertionSortOrdered_int.f_is _ _ _
    | with_reducible exact Is.now _
    | with_reducible refine Is.ite ?_ ?_
    | with_reducible refine Is.bind ?_ (fun _ => ?_)
theorem slices_pdqsortOrdered_int.fv_eq (l0 : List Int) (a1 : Int) (a2 : Int) (a3 : Int) : slices_pdqsortOrdered_int.fv l0 a1 a2 a3 = slices_pdqsortOrdered_int.l0v l0 a1 a2 a3 true := by
  refine Is.lim (g := fun k => slices_pdqsortOrdered_int.f k l0 a1 a2 a3) ?_
  · unfold slices_pdqsortOrdered_int.f
    repeat' first
    | with_reducible exact slices_pdqsortOrdered_int.l0_is _ _ _ _ _
    | with_reducible exact Is.now _
    | with_reducible refine Is.ite ?_ ?_
    | with_reducible refine Is.bind ?_ (fun _ => ?_)
noncomputable def slices_Sort_int_int.fv (l0 : List Int) : Option (List Int) := Lim fun k => slices_Sort_int_int.f k l0
theorem slices_Sort_int_int.f_is (l0 : List Int) : Is (fun k => slices_Sort_int_int.f k l0) (slices_Sort_int_int.fv l0) := ⟨fun k => slices_Sort_int_int.mono l0 k, rfl⟩
theorem slices_Sort_int_int.fv_eq (l0 : List Int) : slices_Sort_int_int.fv l0 = (bits_Len.f (IntKind.u64.wrap ((l0.length : Int)))).bind fun t183 => ((slices_pdqsortOrdered_int.fv l0 0 (l0.length : Int) t183).bind fun t184 => (some t184)) := by
  refine Is.lim (g := fun k => slices_Sort_int_int.f k l0) ?_
  · unfold slices_Sort_int_int.f
    repeat' first
    | with_reducible exact slices_pdqsortOrdered_int.f_is _ _ _ _
    | with_reducible exact Is.now _
    | with_reducible refine Is.ite ?_ ?_
    | with_reducible refine Is.bind ?_ (fun _ => ?_)
noncomputable def slices_Compact_int_int.l0v (x0 : List Int) (x3 : Int) : Option (List Int) := Lim fun k => slices_Compact_int_int.l0 k x0 x3
noncomputable def slices_Compact_int_int.fv (l0 : List Int) : Option (List Int) := Lim fun k => slices_Compact_int_int.f k l0
theorem slices_Compact_int_int.l0_is (x0 : List Int) (x3 : Int) : Is (fun k => slices_Compact_int_int.l0 k x0 x3) (slices_Compact_int_int.l0v x0 x3) := ⟨fun k => (slices_Compact_int_int.mono_l k) x0 x3, rfl⟩
theorem slices_Compact_int_int.f_is (l0 : List Int) : Is (fun k => slices_Compact_int_int.f k l0) (slices_Compact_int_int.fv l0) := ⟨fun k => slices_Compact_int_int.mono l0 k, rfl⟩
theorem slices_Compact_int_int.l0v_eq (x0 : List Int) (x3 : Int) : slices_Compact_int_int.l0v x0 x3 = if x3 < (x0.length : Int) then (if 0 ≤ x3 then (if 0 ≤ (wrap64 (x3 - 1)) then (if (wrap64 (x3 - 1)) < (x0.length : Int) then (if (rd x0 x3) = (rd x0 (wrap64 (x3 - 1))) then (none) else (slices_Compact_int_int.l0v x0 (wrap64 (x3 + 1)))) else (none)) else (none)) else (none)) else (some x0) := by
  refine Is.step (slices_Compact_int_int.l0_is x0 x3).mo (fun k => by rw [slices_Compact_int_int.l0]) ?_
  · skip
    repeat' first
    | with_reducible exact slices_Compact_int_int.l0_is _ _
    | with_reducible exact Is.now _
    | with_reducible refine Is.ite ?_ ?_
    | with_reducible refine Is.bind ?_ (fun _ => ?_)
theorem slices_Compact_int_int.fv_eq (l0 : List Int) : slices_Compact_int_int.fv l0 = if (l0.length : Int) < 2 then (some l0) else (slices_Compact_int_int.l0v l0 1) := by
  refine Is.lim (g := fun k => slices_Compact_int_int.f k l0) ?_
  · unfold slices_Compact_int_int.f
    repeat' first
    | with_reducible exact slices_Compact_int_int.l0_is _ _
    | with_reducible exact Is.now _
    | with_reducible refine Is.ite ?_ ?_
    | with_reducible refine Is.bind ?_ (fun _ => ?_)
end Go.Proofs.Ytldcchjbaglppaa.Print

/- Written by a program of this session (limx.py): the equations of what the printed functions come to. No condition. -/
namespace Go.Proofs.Ytldcchjbaglppaa.Print
open Go.RowKit Go.Proofs.YtldcchjbaglppaaW.PrintWords Go.Proofs.YtldcchjbaglppaaW.PrintLast Go.Proofs.Ytldcchjbaglppaa.Base
set_option linter.unusedVariables false
set_option maxRecDepth 20000
noncomputable def impl_MovesFrom.l0v (x1 : Int) (x2 : Bool) (x7 : List Int) (x12 : List (S78)) (x13 : Int) (x14 : Int) : Option (List Int) := Lim fun k => impl_MovesFrom.l0 k x1 x2 x7 x12 x13 x14
noncomputable def impl_MovesFrom.fv (a0_0 : Int) (l0_1 : List Bool) (l0_2 : List (S78)) (a1 : Int) (a2 : Bool) : Option (List Int) := Lim fun k => impl_MovesFrom.f k a0_0 l0_1 l0_2 a1 a2
theorem impl_MovesFrom.l0_is (x1 : Int) (x2 : Bool) (x7 : List Int) (x12 : List (S78)) (x13 : Int) (x14 : Int) : Is (fun k => impl_MovesFrom.l0 k x1 x2 x7 x12 x13 x14) (impl_MovesFrom.l0v x1 x2 x7 x12 x13 x14) := ⟨fun k => (impl_MovesFrom.mono_l k) x1 x2 x7 x12 x13 x14, rfl⟩
theorem impl_MovesFrom.f_is (a0_0 : Int) (l0_1 : List Bool) (l0_2 : List (S78)) (a1 : Int) (a2 : Bool) : Is (fun k => impl_MovesFrom.f k a0_0 l0_1 l0_2 a1 a2) (impl_MovesFrom.fv a0_0 l0_1 l0_2 a1 a2) := ⟨fun k => impl_MovesFrom.mono a0_0 l0_1 l0_2 a1 a2 k, rfl⟩
theorem impl_MovesFrom.l0v_eq (x1 : Int) (x2 : Bool) (x7 : List Int) (x12 : List (S78)) (x13 : Int) (x14 : Int) : impl_MovesFrom.l0v x1 x2 x7 x12 x13 x14 = if x14 < x13 then (if 0 ≤ x14 then (if x14 < (x12.length : Int) then (if ((rd_T78 x12 x14).f0) = x1 then (if (((rd_T78 x12 x14).f1) == x2) = true then (if x7.length < 17592186044416 then (impl_MovesFrom.l0v x1 x2 (x7 ++ [(rd_T78 x12 x14).f2]) x12 x13 (wrap64 (x14 + 1))) else (none)) else (impl_MovesFrom.l0v x1 x2 x7 x12 x13 (wrap64 (x14 + 1)))) else (impl_MovesFrom.l0v x1 x2 x7 x12 x13 (wrap64 (x14 + 1)))) else (none)) else (none)) else ((slices_Sort_int_int.fv x7).bind fun t196 => ((slices_Compact_int_int.fv t196).bind fun t197 => (some t197))) := by
  refine Is.step (impl_MovesFrom.l0_is x1 x2 x7 x12 x13 x14).mo (fun k => by rw [impl_MovesFrom.l0]) ?_
  · skip
    repeat' first
    | with_reducible exact impl_MovesFrom.l0_is _ _ _ _ _ _
    | with_reducible exact slices_Compact_int_int.f_is _
    | with_reducible exact slices_Sort_int_int.f_is _
    | with_reducible exact Is.now _
    | with_reducible refine Is.ite ?_ ?_
    | with_reducible refine Is.bind ?_ (fun _ => ?_)
theorem impl_MovesFrom.fv_eq (a0_0 : Int) (l0_1 : List Bool) (l0_2 : List (S78)) (a1 : Int) (a2 : Bool) : impl_MovesFrom.fv a0_0 l0_1 l0_2 a1 a2 = impl_MovesFrom.l0v a1 a2 (([] : List Int)) l0_2 (l0_2.length : Int) 0 := by
  refine Is.lim (g := fun k => impl_MovesFrom.f k a0_0 l0_1 l0_2 a1 a2) ?_
  · unfold impl_MovesFrom.f
    repeat' first
    | with_reducible exact impl_MovesFrom.l0_is _ _ _ _ _ _
    | with_reducible exact Is.now _
    | with_reducible refine Is.ite ?_ ?_
    | with_reducible refine Is.bind ?_ (fun _ => ?_)
noncomputable def slices_IndexFunc_impl_Move_impl_Move_with_impl_MoveOf_1.l0v (x0 : List (S78)) (x7 : Int) (x8 : Int) (x2000 : Int) (x3000 : Bool) (x4000 : Int) : Option (Int) := Lim fun k => slices_IndexFunc_impl_Move_impl_Move_with_impl_MoveOf_1.l0 k x0 x7 x8 x2000 x3000 x4000
noncomputable def slices_IndexFunc_impl_Move_impl_Move_with_impl_MoveOf_1.fv (l0 : List (S78)) (a1_0 : Int) (a2_0 : Bool) (a3_0 : Int) : Option (Int) := Lim fun k => slices_IndexFunc_impl_Move_impl_Move_with_impl_MoveOf_1.f k l0 a1_0 a2_0 a3_0
theorem slices_IndexFunc_impl_Move_impl_Move_with_impl_MoveOf_1.l0_is (x0 : List (S78)) (x7 : Int) (x8 : Int) (x2000 : Int) (x3000 : Bool) (x4000 : Int) : Is (fun k => slices_IndexFunc_impl_Move_impl_Move_with_impl_MoveOf_1.l0 k x0 x7 x8 x2000 x3000 x4000) (slices_IndexFunc_impl_Move_impl_Move_with_impl_MoveOf_1.l0v x0 x7 x8 x2000 x3000 x4000) := ⟨fun k => (slices_IndexFunc_impl_Move_impl_Move_with_impl_MoveOf_1.mono_l k) x0 x7 x8 x2000 x3000 x4000, rfl⟩
theorem slices_IndexFunc_impl_Move_impl_Move_with_impl_MoveOf_1.f_is (l0 : List (S78)) (a1_0 : Int) (a2_0 : Bool) (a3_0 : Int) : Is (fun k => slices_IndexFunc_impl_Move_impl_Move_with_impl_MoveOf_1.f k l0 a1_0 a2_0 a3_0) (slices_IndexFunc_impl_Move_impl_Move_with_impl_MoveOf_1.fv l0 a1_0 a2_0 a3_0) := ⟨fun k => slices_IndexFunc_impl_Move_impl_Move_with_impl_MoveOf_1.mono l0 a1_0 a2_0 a3_0 k, rfl⟩
theorem slices_IndexFunc_impl_Move_impl_Move_with_impl_MoveOf_1.l0v_eq (x0 : List (S78)) (x7 : Int) (x8 : Int) (x2000 : Int) (x3000 : Bool) (x4000 : Int) : slices_IndexFunc_impl_Move_impl_Move_with_impl_MoveOf_1.l0v x0 x7 x8 x2000 x3000 x4000 = if x8 < x7 then (if 0 ≤ x8 then (if x8 < (x0.length : Int) then ((impl_MoveOf_1.f ((rd_T78 x0 x8).f0) ((rd_T78 x0 x8).f1) ((rd_T78 x0 x8).f2) ((rd_T78 x0 x8).f3) x2000 x3000 x4000).bind fun t202 => (if t202 = true then (some x8) else (slices_IndexFunc_impl_Move_impl_Move_with_impl_MoveOf_1.l0v x0 x7 (wrap64 (x8 + 1)) x2000 x3000 x4000))) else (none)) else (none)) else (some (-1)) := by
  refine Is.step (slices_IndexFunc_impl_Move_impl_Move_with_impl_MoveOf_1.l0_is x0 x7 x8 x2000 x3000 x4000).mo (fun k => by rw [slices_IndexFunc_impl_Move_impl_Move_with_impl_MoveOf_1.l0]) ?_
  · skip
    repeat' first
    | with_reducible exact slices_IndexFunc_impl_Move_impl_Move_with_impl_MoveOf_1.l0_is _ _ _ _ _ _
    | with_reducible exact Is.now _
    | with_reducible refine Is.ite ?_ ?_
    | with_reducible refine Is.bind ?_ (fun _ => ?_)
theorem slices_IndexFunc_impl_Move_impl_Move_with_impl_MoveOf_1.fv_eq (l0 : List (S78)) (a1_0 : Int) (a2_0 : Bool) (a3_0 : Int) : slices_IndexFunc_impl_Move_impl_Move_with_impl_MoveOf_1.fv l0 a1_0 a2_0 a3_0 = slices_IndexFunc_impl_Move_impl_Move_with_impl_MoveOf_1.l0v l0 (l0.length : Int) 0 a1_0 a2_0 a3_0 := by
  refine Is.lim (g := fun k => slices_IndexFunc_impl_Move_impl_Move_with_impl_MoveOf_1.f k l0 a1_0 a2_0 a3_0) ?_
  · unfold slices_IndexFunc_impl_Move_impl_Move_with_impl_MoveOf_1.f
    repeat' first
    | with_reducible exact slices_IndexFunc_impl_Move_impl_Move_with_impl_MoveOf_1.l0_is _ _ _ _ _ _
    | with_reducible exact Is.now _
    | with_reducible refine Is.ite ?_ ?_
    | with_reducible refine Is.bind ?_ (fun _ => ?_)
noncomputable def impl_MoveOf.fv (a0_0 : Int) (l0_1 : List Bool) (l0_2 : List (S78)) (a1 : Int) (a2 : Bool) (a3 : Int) : Option (Int) := Lim fun k => impl_MoveOf.f k a0_0 l0_1 l0_2 a1 a2 a3
theorem impl_MoveOf.f_is (a0_0 : Int) (l0_1 : List Bool) (l0_2 : List (S78)) (a1 : Int) (a2 : Bool) (a3 : Int) : Is (fun k => impl_MoveOf.f k a0_0 l0_1 l0_2 a1 a2 a3) (impl_MoveOf.fv a0_0 l0_1 l0_2 a1 a2 a3) := ⟨fun k => impl_MoveOf.mono a0_0 l0_1 l0_2 a1 a2 a3 k, rfl⟩
theorem impl_MoveOf.fv_eq (a0_0 : Int) (l0_1 : List Bool) (l0_2 : List (S78)) (a1 : Int) (a2 : Bool) (a3 : Int) : impl_MoveOf.fv a0_0 l0_1 l0_2 a1 a2 a3 = (slices_IndexFunc_impl_Move_impl_Move_with_impl_MoveOf_1.fv l0_2 a1 a2 a3).bind fun t207 => (some t207) := by
  refine Is.lim (g := fun k => impl_MoveOf.f k a0_0 l0_1 l0_2 a1 a2 a3) ?_
  · unfold impl_MoveOf.f
    repeat' first
    | with_reducible exact slices_IndexFunc_impl_Move_impl_Move_with_impl_MoveOf_1.f_is _ _ _ _
    | with_reducible exact Is.now _
    | with_reducible refine Is.ite ?_ ?_
    | with_reducible refine Is.bind ?_ (fun _ => ?_)
end Go.Proofs.Ytldcchjbaglppaa.Print

/- Written by a program of this session (limx.py): the equations of what the printed functions come to. No condition. -/
namespace Go.Proofs.Ytldcchjbaglppaa.Print
open Go.RowKit Go.Proofs.YtldcchjbaglppaaW.PrintWords Go.Proofs.YtldcchjbaglppaaW.PrintLast Go.Proofs.Ytldcchjbaglppaa.Base
set_option linter.unusedVariables false
set_option maxRecDepth 20000
noncomputable def impl_nextFollowed.l0v (x2 : Int) (x3 : Int) (x9 : List (List Int)) (x18 : List Bool) (x19 : Int) (x20 : Int) (x209000 : Int) (x209001 : List Bool) (x209002 : List (S78)) (x210000 : Int) (x210001 : List Bool) (x210002 : List (S78)) : Option ((List (List Int))) := Lim fun k => impl_nextFollowed.l0 k x2 x3 x9 x18 x19 x20 x209000 x209001 x209002 x210000 x210001 x210002
noncomputable def impl_nextFollowed.j1v (x2 : Int) (x3 : Int) (x9 : List (List Int)) (x11 : Bool) (x12 : List Int) (x18 : List Bool) (x19 : Int) (x20 : Int) (x209000 : Int) (x209001 : List Bool) (x209002 : List (S78)) (x210000 : Int) (x210001 : List Bool) (x210002 : List (S78)) : Option ((List (List Int))) := Lim fun k => impl_nextFollowed.j1 k x2 x3 x9 x11 x12 x18 x19 x20 x209000 x209001 x209002 x210000 x210001 x210002
noncomputable def impl_nextFollowed.l1v (x2 : Int) (x3 : Int) (x9 : List (List Int)) (x11 : Bool) (x18 : List Bool) (x19 : Int) (x20 : Int) (x32 : List Int) (x33 : Int) (x34 : Int) (x209000 : Int) (x209001 : List Bool) (x209002 : List (S78)) (x210000 : Int) (x210001 : List Bool) (x210002 : List (S78)) : Option ((List (List Int))) := Lim fun k => impl_nextFollowed.l1 k x2 x3 x9 x11 x18 x19 x20 x32 x33 x34 x209000 x209001 x209002 x210000 x210001 x210002
noncomputable def impl_nextFollowed.fv (a0_0 : Int) (l0_1 : List Bool) (l0_2 : List (S78)) (a1_0 : Int) (l1_1 : List Bool) (l1_2 : List (S78)) (a2 : Int) (a3 : Int) : Option ((List (List Int))) := Lim fun k => impl_nextFollowed.f k a0_0 l0_1 l0_2 a1_0 l1_1 l1_2 a2 a3
theorem impl_nextFollowed.l0_is (x2 : Int) (x3 : Int) (x9 : List (List Int)) (x18 : List Bool) (x19 : Int) (x20 : Int) (x209000 : Int) (x209001 : List Bool) (x209002 : List (S78)) (x210000 : Int) (x210001 : List Bool) (x210002 : List (S78)) : Is (fun k => impl_nextFollowed.l0 k x2 x3 x9 x18 x19 x20 x209000 x209001 x209002 x210000 x210001 x210002) (impl_nextFollowed.l0v x2 x3 x9 x18 x19 x20 x209000 x209001 x209002 x210000 x210001 x210002) := ⟨fun k => (impl_nextFollowed.mono_l k).1 x2 x3 x9 x18 x19 x20 x209000 x209001 x209002 x210000 x210001 x210002, rfl⟩
theorem impl_nextFollowed.j1_is (x2 : Int) (x3 : Int) (x9 : List (List Int)) (x11 : Bool) (x12 : List Int) (x18 : List Bool) (x19 : Int) (x20 : Int) (x209000 : Int) (x209001 : List Bool) (x209002 : List (S78)) (x210000 : Int) (x210001 : List Bool) (x210002 : List (S78)) : Is (fun k => impl_nextFollowed.j1 k x2 x3 x9 x11 x12 x18 x19 x20 x209000 x209001 x209002 x210000 x210001 x210002) (impl_nextFollowed.j1v x2 x3 x9 x11 x12 x18 x19 x20 x209000 x209001 x209002 x210000 x210001 x210002) := ⟨fun k => (impl_nextFollowed.mono_l k).2.1 x2 x3 x9 x11 x12 x18 x19 x20 x209000 x209001 x209002 x210000 x210001 x210002, rfl⟩
theorem impl_nextFollowed.l1_is (x2 : Int) (x3 : Int) (x9 : List (List Int)) (x11 : Bool) (x18 : List Bool) (x19 : Int) (x20 : Int) (x32 : List Int) (x33 : Int) (x34 : Int) (x209000 : Int) (x209001 : List Bool) (x209002 : List (S78)) (x210000 : Int) (x210001 : List Bool) (x210002 : List (S78)) : Is (fun k => impl_nextFollowed.l1 k x2 x3 x9 x11 x18 x19 x20 x32 x33 x34 x209000 x209001 x209002 x210000 x210001 x210002) (impl_nextFollowed.l1v x2 x3 x9 x11 x18 x19 x20 x32 x33 x34 x209000 x209001 x209002 x210000 x210001 x210002) := ⟨fun k => (impl_nextFollowed.mono_l k).2.2 x2 x3 x9 x11 x18 x19 x20 x32 x33 x34 x209000 x209001 x209002 x210000 x210001 x210002, rfl⟩
theorem impl_nextFollowed.f_is (a0_0 : Int) (l0_1 : List Bool) (l0_2 : List (S78)) (a1_0 : Int) (l1_1 : List Bool) (l1_2 : List (S78)) (a2 : Int) (a3 : Int) : Is (fun k => impl_nextFollowed.f k a0_0 l0_1 l0_2 a1_0 l1_1 l1_2 a2 a3) (impl_nextFollowed.fv a0_0 l0_1 l0_2 a1_0 l1_1 l1_2 a2 a3) := ⟨fun k => impl_nextFollowed.mono a0_0 l0_1 l0_2 a1_0 l1_1 l1_2 a2 a3 k, rfl⟩
theorem impl_nextFollowed.l0v_eq (x2 : Int) (x3 : Int) (x9 : List (List Int)) (x18 : List Bool) (x19 : Int) (x20 : Int) (x209000 : Int) (x209001 : List Bool) (x209002 : List (S78)) (x210000 : Int) (x210001 : List Bool) (x210002 : List (S78)) : impl_nextFollowed.l0v x2 x3 x9 x18 x19 x20 x209000 x209001 x209002 x210000 x210001 x210002 = if x20 < x19 then (if 0 ≤ x20 then (if x20 < (x18.length : Int) then ((impl_MovesFrom.fv x209000 x209001 x209002 x2 true).bind fun t217 => (if rdOf false x18 x20 = true then (impl_nextFollowed.j1v x2 x3 x9 (rdOf false x18 x20) t217 x18 x19 x20 x209000 x209001 x209002 x210000 x210001 x210002) else ((impl_MovesFrom.fv x210000 x210001 x210002 x3 false).bind fun t220 => (impl_nextFollowed.j1v x2 x3 x9 (rdOf false x18 x20) t220 x18 x19 x20 x209000 x209001 x209002 x210000 x210001 x210002)))) else (none)) else (none)) else (some x9) := by
  refine Is.step (impl_nextFollowed.l0_is x2 x3 x9 x18 x19 x20 x209000 x209001 x209002 x210000 x210001 x210002).mo (fun k => by rw [impl_nextFollowed.l0]) ?_
  · skip
    repeat' first
    | with_reducible exact impl_MovesFrom.f_is _ _ _ _ _
    | with_reducible exact impl_nextFollowed.j1_is _ _ _ _ _ _ _ _ _ _ _ _ _ _
    | with_reducible exact Is.now _
    | with_reducible refine Is.ite ?_ ?_
    | with_reducible refine Is.bind ?_ (fun _ => ?_)
theorem impl_nextFollowed.j1v_eq (x2 : Int) (x3 : Int) (x9 : List (List Int)) (x11 : Bool) (x12 : List Int) (x18 : List Bool) (x19 : Int) (x20 : Int) (x209000 : Int) (x209001 : List Bool) (x209002 : List (S78)) (x210000 : Int) (x210001 : List Bool) (x210002 : List (S78)) : impl_nextFollowed.j1v x2 x3 x9 x11 x12 x18 x19 x20 x209000 x209001 x209002 x210000 x210001 x210002 = impl_nextFollowed.l1v x2 x3 x9 x11 x18 x19 x20 x12 (x12.length : Int) 0 x209000 x209001 x209002 x210000 x210001 x210002 := by
  refine Is.step (impl_nextFollowed.j1_is x2 x3 x9 x11 x12 x18 x19 x20 x209000 x209001 x209002 x210000 x210001 x210002).mo (fun k => by rw [impl_nextFollowed.j1]) ?_
  · skip
    repeat' first
    | with_reducible exact impl_nextFollowed.l1_is _ _ _ _ _ _ _ _ _ _ _ _ _ _ _ _
    | with_reducible exact Is.now _
    | with_reducible refine Is.ite ?_ ?_
    | with_reducible refine Is.bind ?_ (fun _ => ?_)
theorem impl_nextFollowed.l1v_eq (x2 : Int) (x3 : Int) (x9 : List (List Int)) (x11 : Bool) (x18 : List Bool) (x19 : Int) (x20 : Int) (x32 : List Int) (x33 : Int) (x34 : Int) (x209000 : Int) (x209001 : List Bool) (x209002 : List (S78)) (x210000 : Int) (x210001 : List Bool) (x210002 : List (S78)) : impl_nextFollowed.l1v x2 x3 x9 x11 x18 x19 x20 x32 x33 x34 x209000 x209001 x209002 x210000 x210001 x210002 = if x34 < x33 then (if 0 ≤ x34 then (if x34 < (x32.length : Int) then ((impl_MoveOf.fv x209000 x209001 x209002 x2 x11 (rd x32 x34)).bind fun t224 => ((impl_MoveOf.fv x210000 x210001 x210002 x3 x11 (rd x32 x34)).bind fun t225 => (if t224 ≥ 0 then (if t225 ≥ 0 then (if 0 ≤ t224 then (if t224 < (x209002.length : Int) then (if 0 ≤ t225 then (if t225 < (x210002.length : Int) then (if x9.length < 5864062014805 then (impl_nextFollowed.l1v x2 x3 (x9 ++ [(([(rd_T78 x209002 t224).f3, (rd_T78 x210002 t225).f3] : List Int))]) x11 x18 x19 x20 x32 x33 (wrap64 (x34 + 1)) x209000 x209001 x209002 x210000 x210001 x210002) else (none)) else (none)) else (none)) else (none)) else (none)) else (impl_nextFollowed.l1v x2 x3 x9 x11 x18 x19 x20 x32 x33 (wrap64 (x34 + 1)) x209000 x209001 x209002 x210000 x210001 x210002)) else (impl_nextFollowed.l1v x2 x3 x9 x11 x18 x19 x20 x32 x33 (wrap64 (x34 + 1)) x209000 x209001 x209002 x210000 x210001 x210002)))) else (none)) else (none)) else (impl_nextFollowed.l0v x2 x3 x9 x18 x19 (wrap64 (x20 + 1)) x209000 x209001 x209002 x210000 x210001 x210002) := by
  refine Is.step (impl_nextFollowed.l1_is x2 x3 x9 x11 x18 x19 x20 x32 x33 x34 x209000 x209001 x209002 x210000 x210001 x210002).mo (fun k => by rw [impl_nextFollowed.l1]) ?_
  · skip
    repeat' first
    | with_reducible exact impl_MoveOf.f_is _ _ _ _ _ _
    | with_reducible exact impl_nextFollowed.l0_is _ _ _ _ _ _ _ _ _ _ _ _
    | with_reducible exact impl_nextFollowed.l1_is _ _ _ _ _ _ _ _ _ _ _ _ _ _ _ _
    | with_reducible exact Is.now _
    | with_reducible refine Is.ite ?_ ?_
    | with_reducible refine Is.bind ?_ (fun _ => ?_)
theorem impl_nextFollowed.fv_eq (a0_0 : Int) (l0_1 : List Bool) (l0_2 : List (S78)) (a1_0 : Int) (l1_1 : List Bool) (l1_2 : List (S78)) (a2 : Int) (a3 : Int) : impl_nextFollowed.fv a0_0 l0_1 l0_2 a1_0 l1_1 l1_2 a2 a3 = (some (([true, false] : List Bool) : List Bool)).bind fun y213 => (impl_nextFollowed.l0v a2 a3 (([] : List (List Int))) y213 (y213.length : Int) 0 a0_0 l0_1 l0_2 a1_0 l1_1 l1_2) := by
  refine Is.lim (g := fun k => impl_nextFollowed.f k a0_0 l0_1 l0_2 a1_0 l1_1 l1_2 a2 a3) ?_
  · unfold impl_nextFollowed.f
    repeat' first
    | with_reducible exact impl_nextFollowed.l0_is _ _ _ _ _ _ _ _ _ _ _ _
    | with_reducible exact Is.now _
    | with_reducible refine Is.ite ?_ ?_
    | with_reducible refine Is.bind ?_ (fun _ => ?_)
noncomputable def impl_FollowPairs_1.fv (a0 : Int) (a1 : Int) (a2_0 : Int) (l2_1 : List Bool) (l2_2 : List (S78)) (a3_0 : Int) (l3_1 : List Bool) (l3_2 : List (S78)) : Option ((List (List Int))) := Lim fun k => impl_FollowPairs_1.f k a0 a1 a2_0 l2_1 l2_2 a3_0 l3_1 l3_2
theorem impl_FollowPairs_1.f_is (a0 : Int) (a1 : Int) (a2_0 : Int) (l2_1 : List Bool) (l2_2 : List (S78)) (a3_0 : Int) (l3_1 : List Bool) (l3_2 : List (S78)) : Is (fun k => impl_FollowPairs_1.f k a0 a1 a2_0 l2_1 l2_2 a3_0 l3_1 l3_2) (impl_FollowPairs_1.fv a0 a1 a2_0 l2_1 l2_2 a3_0 l3_1 l3_2) := ⟨fun k => impl_FollowPairs_1.mono a0 a1 a2_0 l2_1 l2_2 a3_0 l3_1 l3_2 k, rfl⟩
theorem impl_FollowPairs_1.fv_eq (a0 : Int) (a1 : Int) (a2_0 : Int) (l2_1 : List Bool) (l2_2 : List (S78)) (a3_0 : Int) (l3_1 : List Bool) (l3_2 : List (S78)) : impl_FollowPairs_1.fv a0 a1 a2_0 l2_1 l2_2 a3_0 l3_1 l3_2 = (impl_nextFollowed.fv a2_0 l2_1 l2_2 a3_0 l3_1 l3_2 a0 a1).bind fun t234 => (some t234) := by
  refine Is.lim (g := fun k => impl_FollowPairs_1.f k a0 a1 a2_0 l2_1 l2_2 a3_0 l3_1 l3_2) ?_
  · unfold impl_FollowPairs_1.f
    repeat' first
    | with_reducible exact impl_nextFollowed.f_is _ _ _ _ _ _ _ _
    | with_reducible exact Is.now _
    | with_reducible refine Is.ite ?_ ?_
    | with_reducible refine Is.bind ?_ (fun _ => ?_)
noncomputable def impl_reached_1.fv (l0 : List Int) (l1_0 : List Int) : Option (Bool) := Lim fun k => impl_reached_1.f k l0 l1_0
theorem impl_reached_1.f_is (l0 : List Int) (l1_0 : List Int) : Is (fun k => impl_reached_1.f k l0 l1_0) (impl_reached_1.fv l0 l1_0) := ⟨fun k => impl_reached_1.mono l0 l1_0 k, rfl⟩
theorem impl_reached_1.fv_eq (l0 : List Int) (l1_0 : List Int) : impl_reached_1.fv l0 l1_0 = (slices_Equal_int_int.fv l0 l1_0).bind fun t234 => (some t234) := by
  refine Is.lim (g := fun k => impl_reached_1.f k l0 l1_0) ?_
  · unfold impl_reached_1.f
    repeat' first
    | with_reducible exact slices_Equal_int_int.f_is _ _
    | with_reducible exact Is.now _
    | with_reducible refine Is.ite ?_ ?_
    | with_reducible refine Is.bind ?_ (fun _ => ?_)
noncomputable def slices_IndexFunc_int_int_with_impl_reached_1.l0v (x0 : List (List Int)) (x7 : Int) (x8 : Int) (x2000 : List Int) : Option (Int) := Lim fun k => slices_IndexFunc_int_int_with_impl_reached_1.l0 k x0 x7 x8 x2000
noncomputable def slices_IndexFunc_int_int_with_impl_reached_1.fv (l0 : List (List Int)) (l1_0 : List Int) : Option (Int) := Lim fun k => slices_IndexFunc_int_int_with_impl_reached_1.f k l0 l1_0
theorem slices_IndexFunc_int_int_with_impl_reached_1.l0_is (x0 : List (List Int)) (x7 : Int) (x8 : Int) (x2000 : List Int) : Is (fun k => slices_IndexFunc_int_int_with_impl_reached_1.l0 k x0 x7 x8 x2000) (slices_IndexFunc_int_int_with_impl_reached_1.l0v x0 x7 x8 x2000) := ⟨fun k => (slices_IndexFunc_int_int_with_impl_reached_1.mono_l k) x0 x7 x8 x2000, rfl⟩
theorem slices_IndexFunc_int_int_with_impl_reached_1.f_is (l0 : List (List Int)) (l1_0 : List Int) : Is (fun k => slices_IndexFunc_int_int_with_impl_reached_1.f k l0 l1_0) (slices_IndexFunc_int_int_with_impl_reached_1.fv l0 l1_0) := ⟨fun k => slices_IndexFunc_int_int_with_impl_reached_1.mono l0 l1_0 k, rfl⟩
theorem slices_IndexFunc_int_int_with_impl_reached_1.l0v_eq (x0 : List (List Int)) (x7 : Int) (x8 : Int) (x2000 : List Int) : slices_IndexFunc_int_int_with_impl_reached_1.l0v x0 x7 x8 x2000 = if x8 < x7 then (if 0 ≤ x8 then (if x8 < (x0.length : Int) then ((impl_reached_1.fv (rd_L9 x0 x8) x2000).bind fun t236 => (if t236 = true then (some x8) else (slices_IndexFunc_int_int_with_impl_reached_1.l0v x0 x7 (wrap64 (x8 + 1)) x2000))) else (none)) else (none)) else (some (-1)) := by
  refine Is.step (slices_IndexFunc_int_int_with_impl_reached_1.l0_is x0 x7 x8 x2000).mo (fun k => by rw [slices_IndexFunc_int_int_with_impl_reached_1.l0]) ?_
  · skip
    repeat' first
    | with_reducible exact impl_reached_1.f_is _ _
    | with_reducible exact slices_IndexFunc_int_int_with_impl_reached_1.l0_is _ _ _ _
    | with_reducible exact Is.now _
    | with_reducible refine Is.ite ?_ ?_
    | with_reducible refine Is.bind ?_ (fun _ => ?_)
theorem slices_IndexFunc_int_int_with_impl_reached_1.fv_eq (l0 : List (List Int)) (l1_0 : List Int) : slices_IndexFunc_int_int_with_impl_reached_1.fv l0 l1_0 = slices_IndexFunc_int_int_with_impl_reached_1.l0v l0 (l0.length : Int) 0 l1_0 := by
  refine Is.lim (g := fun k => slices_IndexFunc_int_int_with_impl_reached_1.f k l0 l1_0) ?_
  · unfold slices_IndexFunc_int_int_with_impl_reached_1.f
    repeat' first
    | with_reducible exact slices_IndexFunc_int_int_with_impl_reached_1.l0_is _ _ _ _
    | with_reducible exact Is.now _
    | with_reducible refine Is.ite ?_ ?_
    | with_reducible refine Is.bind ?_ (fun _ => ?_)
noncomputable def slices_ContainsFunc_int_int_with_impl_reached_1.fv (l0 : List (List Int)) (l1_0 : List Int) : Option (Bool) := Lim fun k => slices_ContainsFunc_int_int_with_impl_reached_1.f k l0 l1_0
theorem slices_ContainsFunc_int_int_with_impl_reached_1.f_is (l0 : List (List Int)) (l1_0 : List Int) : Is (fun k => slices_ContainsFunc_int_int_with_impl_reached_1.f k l0 l1_0) (slices_ContainsFunc_int_int_with_impl_reached_1.fv l0 l1_0) := ⟨fun k => slices_ContainsFunc_int_int_with_impl_reached_1.mono l0 l1_0 k, rfl⟩
theorem slices_ContainsFunc_int_int_with_impl_reached_1.fv_eq (l0 : List (List Int)) (l1_0 : List Int) : slices_ContainsFunc_int_int_with_impl_reached_1.fv l0 l1_0 = (slices_IndexFunc_int_int_with_impl_reached_1.fv l0 l1_0).bind fun t237 => (some (decide (t237 ≥ 0))) := by
  refine Is.lim (g := fun k => slices_ContainsFunc_int_int_with_impl_reached_1.f k l0 l1_0) ?_
  · unfold slices_ContainsFunc_int_int_with_impl_reached_1.f
    repeat' first
    | with_reducible exact slices_IndexFunc_int_int_with_impl_reached_1.f_is _ _
    | with_reducible exact Is.now _
    | with_reducible refine Is.ite ?_ ?_
    | with_reducible refine Is.bind ?_ (fun _ => ?_)
end Go.Proofs.Ytldcchjbaglppaa.Print

/- Written by a program of this session (limx.py): the equations of what the printed functions come to. No condition. -/
namespace Go.Proofs.Ytldcchjbaglppaa.Print
open Go.RowKit Go.Proofs.YtldcchjbaglppaaW.PrintWords Go.Proofs.YtldcchjbaglppaaW.PrintLast Go.Proofs.Ytldcchjbaglppaa.Base
set_option linter.unusedVariables false
set_option maxRecDepth 20000
noncomputable def impl_reached_with_impl_FollowPairs_1.l0v (x3 : List (List Int)) (x4 : Int) (x1000 : Int) (x1001 : List Bool) (x1002 : List (S78)) (x2000 : Int) (x2001 : List Bool) (x2002 : List (S78)) : Option ((List (List Int))) := Lim fun k => impl_reached_with_impl_FollowPairs_1.l0 k x3 x4 x1000 x1001 x1002 x2000 x2001 x2002
noncomputable def impl_reached_with_impl_FollowPairs_1.l1v (x3 : List (List Int)) (x4 : Int) (x28 : List (List Int)) (x29 : Int) (x30 : Int) (x1000 : Int) (x1001 : List Bool) (x1002 : List (S78)) (x2000 : Int) (x2001 : List Bool) (x2002 : List (S78)) : Option ((List (List Int))) := Lim fun k => impl_reached_with_impl_FollowPairs_1.l1 k x3 x4 x28 x29 x30 x1000 x1001 x1002 x2000 x2001 x2002
noncomputable def impl_reached_with_impl_FollowPairs_1.fv (a0_0 : Int) (l0_1 : List Bool) (l0_2 : List (S78)) (a1_0 : Int) (l1_1 : List Bool) (l1_2 : List (S78)) : Option ((List (List Int))) := Lim fun k => impl_reached_with_impl_FollowPairs_1.f k a0_0 l0_1 l0_2 a1_0 l1_1 l1_2
theorem impl_reached_with_impl_FollowPairs_1.l0_is (x3 : List (List Int)) (x4 : Int) (x1000 : Int) (x1001 : List Bool) (x1002 : List (S78)) (x2000 : Int) (x2001 : List Bool) (x2002 : List (S78)) : Is (fun k => impl_reached_with_impl_FollowPairs_1.l0 k x3 x4 x1000 x1001 x1002 x2000 x2001 x2002) (impl_reached_with_impl_FollowPairs_1.l0v x3 x4 x1000 x1001 x1002 x2000 x2001 x2002) := ⟨fun k => (impl_reached_with_impl_FollowPairs_1.mono_l k).1 x3 x4 x1000 x1001 x1002 x2000 x2001 x2002, rfl⟩
theorem impl_reached_with_impl_FollowPairs_1.l1_is (x3 : List (List Int)) (x4 : Int) (x28 : List (List Int)) (x29 : Int) (x30 : Int) (x1000 : Int) (x1001 : List Bool) (x1002 : List (S78)) (x2000 : Int) (x2001 : List Bool) (x2002 : List (S78)) : Is (fun k => impl_reached_with_impl_FollowPairs_1.l1 k x3 x4 x28 x29 x30 x1000 x1001 x1002 x2000 x2001 x2002) (impl_reached_with_impl_FollowPairs_1.l1v x3 x4 x28 x29 x30 x1000 x1001 x1002 x2000 x2001 x2002) := ⟨fun k => (impl_reached_with_impl_FollowPairs_1.mono_l k).2 x3 x4 x28 x29 x30 x1000 x1001 x1002 x2000 x2001 x2002, rfl⟩
theorem impl_reached_with_impl_FollowPairs_1.f_is (a0_0 : Int) (l0_1 : List Bool) (l0_2 : List (S78)) (a1_0 : Int) (l1_1 : List Bool) (l1_2 : List (S78)) : Is (fun k => impl_reached_with_impl_FollowPairs_1.f k a0_0 l0_1 l0_2 a1_0 l1_1 l1_2) (impl_reached_with_impl_FollowPairs_1.fv a0_0 l0_1 l0_2 a1_0 l1_1 l1_2) := ⟨fun k => impl_reached_with_impl_FollowPairs_1.mono a0_0 l0_1 l0_2 a1_0 l1_1 l1_2 k, rfl⟩
theorem impl_reached_with_impl_FollowPairs_1.l0v_eq (x3 : List (List Int)) (x4 : Int) (x1000 : Int) (x1001 : List Bool) (x1002 : List (S78)) (x2000 : Int) (x2001 : List Bool) (x2002 : List (S78)) : impl_reached_with_impl_FollowPairs_1.l0v x3 x4 x1000 x1001 x1002 x2000 x2001 x2002 = if x4 < (x3.length : Int) then (if 0 ≤ x4 then (if 0 < ((rd_L9 x3 x4).length : Int) then (if 1 < ((rd_L9 x3 x4).length : Int) then ((impl_FollowPairs_1.fv (rd (rd_L9 x3 x4) 0) (rd (rd_L9 x3 x4) 1) x1000 x1001 x1002 x2000 x2001 x2002).bind fun t244 => (impl_reached_with_impl_FollowPairs_1.l1v x3 x4 t244 (t244.length : Int) 0 x1000 x1001 x1002 x2000 x2001 x2002)) else (none)) else (none)) else (none)) else (some x3) := by
  refine Is.step (impl_reached_with_impl_FollowPairs_1.l0_is x3 x4 x1000 x1001 x1002 x2000 x2001 x2002).mo (fun k => by rw [impl_reached_with_impl_FollowPairs_1.l0]) ?_
  · skip
    repeat' first
    | with_reducible exact impl_FollowPairs_1.f_is _ _ _ _ _ _ _ _
    | with_reducible exact impl_reached_with_impl_FollowPairs_1.l1_is _ _ _ _ _ _ _ _ _ _ _
    | with_reducible exact Is.now _
    | with_reducible refine Is.ite ?_ ?_
    | with_reducible refine Is.bind ?_ (fun _ => ?_)
theorem impl_reached_with_impl_FollowPairs_1.l1v_eq (x3 : List (List Int)) (x4 : Int) (x28 : List (List Int)) (x29 : Int) (x30 : Int) (x1000 : Int) (x1001 : List Bool) (x1002 : List (S78)) (x2000 : Int) (x2001 : List Bool) (x2002 : List (S78)) : impl_reached_with_impl_FollowPairs_1.l1v x3 x4 x28 x29 x30 x1000 x1001 x1002 x2000 x2001 x2002 = if x30 < x29 then (if 0 ≤ x30 then (if x30 < (x28.length : Int) then ((slices_ContainsFunc_int_int_with_impl_reached_1.fv x3 (rd_L9 x28 x30)).bind fun t249 => (if t249 = true then (impl_reached_with_impl_FollowPairs_1.l1v x3 x4 x28 x29 (wrap64 (x30 + 1)) x1000 x1001 x1002 x2000 x2001 x2002) else (if x3.length < 5864062014805 then (impl_reached_with_impl_FollowPairs_1.l1v (x3 ++ [rd_L9 x28 x30]) x4 x28 x29 (wrap64 (x30 + 1)) x1000 x1001 x1002 x2000 x2001 x2002) else (none)))) else (none)) else (none)) else (impl_reached_with_impl_FollowPairs_1.l0v x3 (wrap64 (x4 + 1)) x1000 x1001 x1002 x2000 x2001 x2002) := by
  refine Is.step (impl_reached_with_impl_FollowPairs_1.l1_is x3 x4 x28 x29 x30 x1000 x1001 x1002 x2000 x2001 x2002).mo (fun k => by rw [impl_reached_with_impl_FollowPairs_1.l1]) ?_
  · skip
    repeat' first
    | with_reducible exact impl_reached_with_impl_FollowPairs_1.l0_is _ _ _ _ _ _ _ _
    | with_reducible exact impl_reached_with_impl_FollowPairs_1.l1_is _ _ _ _ _ _ _ _ _ _ _
    | with_reducible exact slices_ContainsFunc_int_int_with_impl_reached_1.f_is _ _
    | with_reducible exact Is.now _
    | with_reducible refine Is.ite ?_ ?_
    | with_reducible refine Is.bind ?_ (fun _ => ?_)
theorem impl_reached_with_impl_FollowPairs_1.fv_eq (a0_0 : Int) (l0_1 : List Bool) (l0_2 : List (S78)) (a1_0 : Int) (l1_1 : List Bool) (l1_2 : List (S78)) : impl_reached_with_impl_FollowPairs_1.fv a0_0 l0_1 l0_2 a1_0 l1_1 l1_2 = impl_reached_with_impl_FollowPairs_1.l0v (([(([0, 0] : List Int))] : List (List Int))) 0 a0_0 l0_1 l0_2 a1_0 l1_1 l1_2 := by
  refine Is.lim (g := fun k => impl_reached_with_impl_FollowPairs_1.f k a0_0 l0_1 l0_2 a1_0 l1_1 l1_2) ?_
  · unfold impl_reached_with_impl_FollowPairs_1.f
    repeat' first
    | with_reducible exact impl_reached_with_impl_FollowPairs_1.l0_is _ _ _ _ _ _ _ _
    | with_reducible exact Is.now _
    | with_reducible refine Is.ite ?_ ?_
    | with_reducible refine Is.bind ?_ (fun _ => ?_)
noncomputable def impl_FollowPairs.fv (a0_0 : Int) (l0_1 : List Bool) (l0_2 : List (S78)) (a1_0 : Int) (l1_1 : List Bool) (l1_2 : List (S78)) : Option ((List (List Int))) := Lim fun k => impl_FollowPairs.f k a0_0 l0_1 l0_2 a1_0 l1_1 l1_2
theorem impl_FollowPairs.f_is (a0_0 : Int) (l0_1 : List Bool) (l0_2 : List (S78)) (a1_0 : Int) (l1_1 : List Bool) (l1_2 : List (S78)) : Is (fun k => impl_FollowPairs.f k a0_0 l0_1 l0_2 a1_0 l1_1 l1_2) (impl_FollowPairs.fv a0_0 l0_1 l0_2 a1_0 l1_1 l1_2) := ⟨fun k => impl_FollowPairs.mono a0_0 l0_1 l0_2 a1_0 l1_1 l1_2 k, rfl⟩
theorem impl_FollowPairs.fv_eq (a0_0 : Int) (l0_1 : List Bool) (l0_2 : List (S78)) (a1_0 : Int) (l1_1 : List Bool) (l1_2 : List (S78)) : impl_FollowPairs.fv a0_0 l0_1 l0_2 a1_0 l1_1 l1_2 = (impl_IsMachine.fv a0_0 l0_1 l0_2).bind fun t236 => (if t236 = true then ((impl_IsMachine.fv a1_0 l1_1 l1_2).bind fun t237 => (if t237 = true then ((impl_reached_with_impl_FollowPairs_1.fv a0_0 l0_1 l0_2 a1_0 l1_1 l1_2).bind fun t238 => (some t238)) else (some ([] : List (List Int))))) else (some ([] : List (List Int)))) := by
  refine Is.lim (g := fun k => impl_FollowPairs.f k a0_0 l0_1 l0_2 a1_0 l1_1 l1_2) ?_
  · unfold impl_FollowPairs.f
    repeat' first
    | with_reducible exact impl_IsMachine.f_is _ _ _
    | with_reducible exact impl_reached_with_impl_FollowPairs_1.f_is _ _ _ _ _ _
    | with_reducible exact Is.now _
    | with_reducible refine Is.ite ?_ ?_
    | with_reducible refine Is.bind ?_ (fun _ => ?_)
noncomputable def slices_Index_int_int.l0v (x0 : List Int) (x1 : Int) (x7 : Int) (x8 : Int) : Option (Int) := Lim fun k => slices_Index_int_int.l0 k x0 x1 x7 x8
noncomputable def slices_Index_int_int.fv (l0 : List Int) (a1 : Int) : Option (Int) := Lim fun k => slices_Index_int_int.f k l0 a1
theorem slices_Index_int_int.l0_is (x0 : List Int) (x1 : Int) (x7 : Int) (x8 : Int) : Is (fun k => slices_Index_int_int.l0 k x0 x1 x7 x8) (slices_Index_int_int.l0v x0 x1 x7 x8) := ⟨fun k => (slices_Index_int_int.mono_l k) x0 x1 x7 x8, rfl⟩
theorem slices_Index_int_int.f_is (l0 : List Int) (a1 : Int) : Is (fun k => slices_Index_int_int.f k l0 a1) (slices_Index_int_int.fv l0 a1) := ⟨fun k => slices_Index_int_int.mono l0 a1 k, rfl⟩
theorem slices_Index_int_int.l0v_eq (x0 : List Int) (x1 : Int) (x7 : Int) (x8 : Int) : slices_Index_int_int.l0v x0 x1 x7 x8 = if x8 < x7 then (if 0 ≤ x8 then (if x8 < (x0.length : Int) then (if x1 = (rd x0 x8) then (some x8) else (slices_Index_int_int.l0v x0 x1 x7 (wrap64 (x8 + 1)))) else (none)) else (none)) else (some (-1)) := by
  refine Is.step (slices_Index_int_int.l0_is x0 x1 x7 x8).mo (fun k => by rw [slices_Index_int_int.l0]) ?_
  · skip
    repeat' first
    | with_reducible exact slices_Index_int_int.l0_is _ _ _ _
    | with_reducible exact Is.now _
    | with_reducible refine Is.ite ?_ ?_
    | with_reducible refine Is.bind ?_ (fun _ => ?_)
theorem slices_Index_int_int.fv_eq (l0 : List Int) (a1 : Int) : slices_Index_int_int.fv l0 a1 = slices_Index_int_int.l0v l0 a1 (l0.length : Int) 0 := by
  refine Is.lim (g := fun k => slices_Index_int_int.f k l0 a1) ?_
  · unfold slices_Index_int_int.f
    repeat' first
    | with_reducible exact slices_Index_int_int.l0_is _ _ _ _
    | with_reducible exact Is.now _
    | with_reducible refine Is.ite ?_ ?_
    | with_reducible refine Is.bind ?_ (fun _ => ?_)
noncomputable def slices_Contains_int_int.fv (l0 : List Int) (a1 : Int) : Option (Bool) := Lim fun k => slices_Contains_int_int.f k l0 a1
theorem slices_Contains_int_int.f_is (l0 : List Int) (a1 : Int) : Is (fun k => slices_Contains_int_int.f k l0 a1) (slices_Contains_int_int.fv l0 a1) := ⟨fun k => slices_Contains_int_int.mono l0 a1 k, rfl⟩
theorem slices_Contains_int_int.fv_eq (l0 : List Int) (a1 : Int) : slices_Contains_int_int.fv l0 a1 = (slices_Index_int_int.fv l0 a1).bind fun t242 => (some (decide (t242 ≥ 0))) := by
  refine Is.lim (g := fun k => slices_Contains_int_int.f k l0 a1) ?_
  · unfold slices_Contains_int_int.f
    repeat' first
    | with_reducible exact slices_Index_int_int.f_is _ _
    | with_reducible exact Is.now _
    | with_reducible refine Is.ite ?_ ?_
    | with_reducible refine Is.bind ?_ (fun _ => ?_)
noncomputable def impl_without.l0v (x1 : List Int) (x5 : List Int) (x9 : List Int) (x10 : Int) (x11 : Int) : Option (List Int) := Lim fun k => impl_without.l0 k x1 x5 x9 x10 x11
noncomputable def impl_without.fv (l0 : List Int) (l1 : List Int) : Option (List Int) := Lim fun k => impl_without.f k l0 l1
theorem impl_without.l0_is (x1 : List Int) (x5 : List Int) (x9 : List Int) (x10 : Int) (x11 : Int) : Is (fun k => impl_without.l0 k x1 x5 x9 x10 x11) (impl_without.l0v x1 x5 x9 x10 x11) := ⟨fun k => (impl_without.mono_l k) x1 x5 x9 x10 x11, rfl⟩
theorem impl_without.f_is (l0 : List Int) (l1 : List Int) : Is (fun k => impl_without.f k l0 l1) (impl_without.fv l0 l1) := ⟨fun k => impl_without.mono l0 l1 k, rfl⟩
theorem impl_without.l0v_eq (x1 : List Int) (x5 : List Int) (x9 : List Int) (x10 : Int) (x11 : Int) : impl_without.l0v x1 x5 x9 x10 x11 = if x11 < x10 then (if 0 ≤ x11 then (if x11 < (x9.length : Int) then ((slices_Contains_int_int.fv x1 (rd x9 x11)).bind fun t247 => (if t247 = true then (impl_without.l0v x1 x5 x9 x10 (wrap64 (x11 + 1))) else (if x5.length < 17592186044416 then (impl_without.l0v x1 (x5 ++ [rd x9 x11]) x9 x10 (wrap64 (x11 + 1))) else (none)))) else (none)) else (none)) else (some x5) := by
  refine Is.step (impl_without.l0_is x1 x5 x9 x10 x11).mo (fun k => by rw [impl_without.l0]) ?_
  · skip
    repeat' first
    | with_reducible exact impl_without.l0_is _ _ _ _ _
    | with_reducible exact slices_Contains_int_int.f_is _ _
    | with_reducible exact Is.now _
    | with_reducible refine Is.ite ?_ ?_
    | with_reducible refine Is.bind ?_ (fun _ => ?_)
theorem impl_without.fv_eq (l0 : List Int) (l1 : List Int) : impl_without.fv l0 l1 = impl_without.l0v l1 (([] : List Int)) l0 (l0.length : Int) 0 := by
  refine Is.lim (g := fun k => impl_without.f k l0 l1) ?_
  · unfold impl_without.f
    repeat' first
    | with_reducible exact impl_without.l0_is _ _ _ _ _
    | with_reducible exact Is.now _
    | with_reducible refine Is.ite ?_ ?_
    | with_reducible refine Is.bind ?_ (fun _ => ?_)
end Go.Proofs.Ytldcchjbaglppaa.Print

/- Written by a program of this session (limx.py): the equations of what the printed functions come to. No condition. -/
namespace Go.Proofs.Ytldcchjbaglppaa.Print
open Go.RowKit Go.Proofs.YtldcchjbaglppaaW.PrintWords Go.Proofs.YtldcchjbaglppaaW.PrintLast Go.Proofs.Ytldcchjbaglppaa.Base
set_option linter.unusedVariables false
set_option maxRecDepth 20000
noncomputable def impl_FollowsAt.j0v (x2 : Int) (x3 : Int) (x9 : List Int) (x10 : List Int) (x11 : List Int) (x12 : List Int) (x25 : Bool) (x255000 : Int) (x255001 : List Bool) (x255002 : List (S78)) (x256000 : Int) (x256001 : List Bool) (x256002 : List (S78)) : Option (Bool) := Lim fun k => impl_FollowsAt.j0 k x2 x3 x9 x10 x11 x12 x25 x255000 x255001 x255002 x256000 x256001 x256002
noncomputable def impl_FollowsAt.j1v (x2 : Int) (x3 : Int) (x38 : Bool) (x255000 : Int) (x255001 : List Bool) (x255002 : List (S78)) (x256000 : Int) (x256001 : List Bool) (x256002 : List (S78)) : Option (Bool) := Lim fun k => impl_FollowsAt.j1 k x2 x3 x38 x255000 x255001 x255002 x256000 x256001 x256002
noncomputable def impl_FollowsAt.fv (a0_0 : Int) (l0_1 : List Bool) (l0_2 : List (S78)) (a1_0 : Int) (l1_1 : List Bool) (l1_2 : List (S78)) (a2 : Int) (a3 : Int) : Option (Bool) := Lim fun k => impl_FollowsAt.f k a0_0 l0_1 l0_2 a1_0 l1_1 l1_2 a2 a3
theorem impl_FollowsAt.j0_is (x2 : Int) (x3 : Int) (x9 : List Int) (x10 : List Int) (x11 : List Int) (x12 : List Int) (x25 : Bool) (x255000 : Int) (x255001 : List Bool) (x255002 : List (S78)) (x256000 : Int) (x256001 : List Bool) (x256002 : List (S78)) : Is (fun k => impl_FollowsAt.j0 k x2 x3 x9 x10 x11 x12 x25 x255000 x255001 x255002 x256000 x256001 x256002) (impl_FollowsAt.j0v x2 x3 x9 x10 x11 x12 x25 x255000 x255001 x255002 x256000 x256001 x256002) := ⟨fun k => (impl_FollowsAt.mono_l k).1 x2 x3 x9 x10 x11 x12 x25 x255000 x255001 x255002 x256000 x256001 x256002, rfl⟩
theorem impl_FollowsAt.j1_is (x2 : Int) (x3 : Int) (x38 : Bool) (x255000 : Int) (x255001 : List Bool) (x255002 : List (S78)) (x256000 : Int) (x256001 : List Bool) (x256002 : List (S78)) : Is (fun k => impl_FollowsAt.j1 k x2 x3 x38 x255000 x255001 x255002 x256000 x256001 x256002) (impl_FollowsAt.j1v x2 x3 x38 x255000 x255001 x255002 x256000 x256001 x256002) := ⟨fun k => (impl_FollowsAt.mono_l k).2 x2 x3 x38 x255000 x255001 x255002 x256000 x256001 x256002, rfl⟩
theorem impl_FollowsAt.f_is (a0_0 : Int) (l0_1 : List Bool) (l0_2 : List (S78)) (a1_0 : Int) (l1_1 : List Bool) (l1_2 : List (S78)) (a2 : Int) (a3 : Int) : Is (fun k => impl_FollowsAt.f k a0_0 l0_1 l0_2 a1_0 l1_1 l1_2 a2 a3) (impl_FollowsAt.fv a0_0 l0_1 l0_2 a1_0 l1_1 l1_2 a2 a3) := ⟨fun k => impl_FollowsAt.mono a0_0 l0_1 l0_2 a1_0 l1_1 l1_2 a2 a3 k, rfl⟩
theorem impl_FollowsAt.j0v_eq (x2 : Int) (x3 : Int) (x9 : List Int) (x10 : List Int) (x11 : List Int) (x12 : List Int) (x25 : Bool) (x255000 : Int) (x255001 : List Bool) (x255002 : List (S78)) (x256000 : Int) (x256001 : List Bool) (x256002 : List (S78)) : impl_FollowsAt.j0v x2 x3 x9 x10 x11 x12 x25 x255000 x255001 x255002 x256000 x256001 x256002 = if x25 = true then (some false) else (if (x11.length : Int) > 0 then (if (x9.length : Int) > 0 then (if (x12.length : Int) = 0 then (impl_FollowsAt.j1v x2 x3 (decide ((x10.length : Int) > 0)) x255000 x255001 x255002 x256000 x256001 x256002) else (impl_FollowsAt.j1v x2 x3 false x255000 x255001 x255002 x256000 x256001 x256002)) else (impl_FollowsAt.j1v x2 x3 true x255000 x255001 x255002 x256000 x256001 x256002)) else (if (x9.length : Int) > 0 then (impl_FollowsAt.j1v x2 x3 true x255000 x255001 x255002 x256000 x256001 x256002) else (if (x12.length : Int) = 0 then (impl_FollowsAt.j1v x2 x3 (decide ((x10.length : Int) > 0)) x255000 x255001 x255002 x256000 x256001 x256002) else (impl_FollowsAt.j1v x2 x3 false x255000 x255001 x255002 x256000 x256001 x256002)))) := by
  refine Is.step (impl_FollowsAt.j0_is x2 x3 x9 x10 x11 x12 x25 x255000 x255001 x255002 x256000 x256001 x256002).mo (fun k => by rw [impl_FollowsAt.j0]) ?_
  · skip
    repeat' first
    | with_reducible exact impl_FollowsAt.j1_is _ _ _ _ _ _ _ _ _
    | with_reducible exact Is.now _
    | with_reducible refine Is.ite ?_ ?_
    | with_reducible refine Is.bind ?_ (fun _ => ?_)
theorem impl_FollowsAt.j1v_eq (x2 : Int) (x3 : Int) (x38 : Bool) (x255000 : Int) (x255001 : List Bool) (x255002 : List (S78)) (x256000 : Int) (x256001 : List Bool) (x256002 : List (S78)) : impl_FollowsAt.j1v x2 x3 x38 x255000 x255001 x255002 x256000 x256001 x256002 = if x38 = true then (some false) else ((impl_isEnd.f x255000 x255001 x255002 x2).bind fun t274 => (if t274 = true then (some true) else ((impl_isEnd.f x256000 x256001 x256002 x3).bind fun t275 => (some (!t275))))) := by
  refine Is.step (impl_FollowsAt.j1_is x2 x3 x38 x255000 x255001 x255002 x256000 x256001 x256002).mo (fun k => by rw [impl_FollowsAt.j1]) ?_
  · skip
    repeat' first
    | with_reducible exact Is.now _
    | with_reducible refine Is.ite ?_ ?_
    | with_reducible refine Is.bind ?_ (fun _ => ?_)
theorem impl_FollowsAt.fv_eq (a0_0 : Int) (l0_1 : List Bool) (l0_2 : List (S78)) (a1_0 : Int) (l1_1 : List Bool) (l1_2 : List (S78)) (a2 : Int) (a3 : Int) : impl_FollowsAt.fv a0_0 l0_1 l0_2 a1_0 l1_1 l1_2 a2 a3 = (impl_MovesFrom.fv a0_0 l0_1 l0_2 a2 true).bind fun t256 => ((impl_MovesFrom.fv a0_0 l0_1 l0_2 a2 false).bind fun t259 => ((impl_MovesFrom.fv a1_0 l1_1 l1_2 a3 true).bind fun t262 => ((impl_MovesFrom.fv a1_0 l1_1 l1_2 a3 false).bind fun t265 => ((impl_without.fv t265 t259).bind fun t268 => (if (t268.length : Int) > 0 then (impl_FollowsAt.j0v a2 a3 t256 t259 t262 t265 true a0_0 l0_1 l0_2 a1_0 l1_1 l1_2) else ((impl_without.fv t256 t262).bind fun t271 => (impl_FollowsAt.j0v a2 a3 t256 t259 t262 t265 (decide ((t271.length : Int) > 0)) a0_0 l0_1 l0_2 a1_0 l1_1 l1_2))))))) := by
  refine Is.lim (g := fun k => impl_FollowsAt.f k a0_0 l0_1 l0_2 a1_0 l1_1 l1_2 a2 a3) ?_
  · unfold impl_FollowsAt.f
    repeat' first
    | with_reducible exact impl_FollowsAt.j0_is _ _ _ _ _ _ _ _ _ _ _ _ _
    | with_reducible exact impl_MovesFrom.f_is _ _ _ _ _
    | with_reducible exact impl_without.f_is _ _
    | with_reducible exact Is.now _
    | with_reducible refine Is.ite ?_ ?_
    | with_reducible refine Is.bind ?_ (fun _ => ?_)
end Go.Proofs.Ytldcchjbaglppaa.Print

/- Written by a program of this session (limx.py): the equations of what the printed functions come to. No condition. -/
namespace Go.Proofs.Ytldcchjbaglppaa.Print
open Go.RowKit Go.Proofs.YtldcchjbaglppaaW.PrintWords Go.Proofs.YtldcchjbaglppaaW.PrintLast Go.Proofs.Ytldcchjbaglppaa.Base
set_option linter.unusedVariables false
set_option maxRecDepth 20000
noncomputable def impl_Follows.j0v (x14 : Bool) (x277000 : Int) (x277001 : List Bool) (x277002 : List (S78)) (x278000 : Int) (x278001 : List Bool) (x278002 : List (S78)) : Option (Bool) := Lim fun k => impl_Follows.j0 k x14 x277000 x277001 x277002 x278000 x278001 x278002
noncomputable def impl_Follows.l0v (x17 : List (List Int)) (x18 : Int) (x19 : Int) (x277000 : Int) (x277001 : List Bool) (x277002 : List (S78)) (x278000 : Int) (x278001 : List Bool) (x278002 : List (S78)) : Option (Bool) := Lim fun k => impl_Follows.l0 k x17 x18 x19 x277000 x277001 x277002 x278000 x278001 x278002
noncomputable def impl_Follows.fv (a0_0 : Int) (l0_1 : List Bool) (l0_2 : List (S78)) (a1_0 : Int) (l1_1 : List Bool) (l1_2 : List (S78)) : Option (Bool) := Lim fun k => impl_Follows.f k a0_0 l0_1 l0_2 a1_0 l1_1 l1_2
theorem impl_Follows.j0_is (x14 : Bool) (x277000 : Int) (x277001 : List Bool) (x277002 : List (S78)) (x278000 : Int) (x278001 : List Bool) (x278002 : List (S78)) : Is (fun k => impl_Follows.j0 k x14 x277000 x277001 x277002 x278000 x278001 x278002) (impl_Follows.j0v x14 x277000 x277001 x277002 x278000 x278001 x278002) := ⟨fun k => (impl_Follows.mono_l k).1 x14 x277000 x277001 x277002 x278000 x278001 x278002, rfl⟩
theorem impl_Follows.l0_is (x17 : List (List Int)) (x18 : Int) (x19 : Int) (x277000 : Int) (x277001 : List Bool) (x277002 : List (S78)) (x278000 : Int) (x278001 : List Bool) (x278002 : List (S78)) : Is (fun k => impl_Follows.l0 k x17 x18 x19 x277000 x277001 x277002 x278000 x278001 x278002) (impl_Follows.l0v x17 x18 x19 x277000 x277001 x277002 x278000 x278001 x278002) := ⟨fun k => (impl_Follows.mono_l k).2 x17 x18 x19 x277000 x277001 x277002 x278000 x278001 x278002, rfl⟩
theorem impl_Follows.f_is (a0_0 : Int) (l0_1 : List Bool) (l0_2 : List (S78)) (a1_0 : Int) (l1_1 : List Bool) (l1_2 : List (S78)) : Is (fun k => impl_Follows.f k a0_0 l0_1 l0_2 a1_0 l1_1 l1_2) (impl_Follows.fv a0_0 l0_1 l0_2 a1_0 l1_1 l1_2) := ⟨fun k => impl_Follows.mono a0_0 l0_1 l0_2 a1_0 l1_1 l1_2 k, rfl⟩
theorem impl_Follows.j0v_eq (x14 : Bool) (x277000 : Int) (x277001 : List Bool) (x277002 : List (S78)) (x278000 : Int) (x278001 : List Bool) (x278002 : List (S78)) : impl_Follows.j0v x14 x277000 x277001 x277002 x278000 x278001 x278002 = if x14 = true then (some false) else ((impl_FollowPairs.fv x277000 x277001 x277002 x278000 x278001 x278002).bind fun t280 => (impl_Follows.l0v t280 (t280.length : Int) 0 x277000 x277001 x277002 x278000 x278001 x278002)) := by
  refine Is.step (impl_Follows.j0_is x14 x277000 x277001 x277002 x278000 x278001 x278002).mo (fun k => by rw [impl_Follows.j0]) ?_
  · skip
    repeat' first
    | with_reducible exact impl_FollowPairs.f_is _ _ _ _ _ _
    | with_reducible exact impl_Follows.l0_is _ _ _ _ _ _ _ _ _
    | with_reducible exact Is.now _
    | with_reducible refine Is.ite ?_ ?_
    | with_reducible refine Is.bind ?_ (fun _ => ?_)
theorem impl_Follows.l0v_eq (x17 : List (List Int)) (x18 : Int) (x19 : Int) (x277000 : Int) (x277001 : List Bool) (x277002 : List (S78)) (x278000 : Int) (x278001 : List Bool) (x278002 : List (S78)) : impl_Follows.l0v x17 x18 x19 x277000 x277001 x277002 x278000 x278001 x278002 = if x19 < x18 then (if 0 ≤ x19 then (if x19 < (x17.length : Int) then (if 0 < ((rd_L9 x17 x19).length : Int) then (if 1 < ((rd_L9 x17 x19).length : Int) then ((impl_FollowsAt.fv x277000 x277001 x277002 x278000 x278001 x278002 (rd (rd_L9 x17 x19) 0) (rd (rd_L9 x17 x19) 1)).bind fun t286 => (if t286 = true then (impl_Follows.l0v x17 x18 (wrap64 (x19 + 1)) x277000 x277001 x277002 x278000 x278001 x278002) else (some false))) else (none)) else (none)) else (none)) else (none)) else (some true) := by
  refine Is.step (impl_Follows.l0_is x17 x18 x19 x277000 x277001 x277002 x278000 x278001 x278002).mo (fun k => by rw [impl_Follows.l0]) ?_
  · skip
    repeat' first
    | with_reducible exact impl_Follows.l0_is _ _ _ _ _ _ _ _ _
    | with_reducible exact impl_FollowsAt.f_is _ _ _ _ _ _ _ _
    | with_reducible exact Is.now _
    | with_reducible refine Is.ite ?_ ?_
    | with_reducible refine Is.bind ?_ (fun _ => ?_)
theorem impl_Follows.fv_eq (a0_0 : Int) (l0_1 : List Bool) (l0_2 : List (S78)) (a1_0 : Int) (l1_1 : List Bool) (l1_2 : List (S78)) : impl_Follows.fv a0_0 l0_1 l0_2 a1_0 l1_1 l1_2 = (impl_IsMachine.fv a0_0 l0_1 l0_2).bind fun t278 => (if t278 = true then ((impl_IsMachine.fv a1_0 l1_1 l1_2).bind fun t279 => (impl_Follows.j0v (!t279) a0_0 l0_1 l0_2 a1_0 l1_1 l1_2)) else (impl_Follows.j0v true a0_0 l0_1 l0_2 a1_0 l1_1 l1_2)) := by
  refine Is.lim (g := fun k => impl_Follows.f k a0_0 l0_1 l0_2 a1_0 l1_1 l1_2) ?_
  · unfold impl_Follows.f
    repeat' first
    | with_reducible exact impl_Follows.j0_is _ _ _ _ _ _ _
    | with_reducible exact impl_IsMachine.f_is _ _ _
    | with_reducible exact Is.now _
    | with_reducible refine Is.ite ?_ ?_
    | with_reducible refine Is.bind ?_ (fun _ => ?_)
noncomputable def impl_BreaksAt.l0v (x0 : List (S34)) (x3 : Int) : Option (Int) := Lim fun k => impl_BreaksAt.l0 k x0 x3
noncomputable def impl_BreaksAt.fv (l0 : List (S34)) : Option (Int) := Lim fun k => impl_BreaksAt.f k l0
theorem impl_BreaksAt.l0_is (x0 : List (S34)) (x3 : Int) : Is (fun k => impl_BreaksAt.l0 k x0 x3) (impl_BreaksAt.l0v x0 x3) := ⟨fun k => (impl_BreaksAt.mono_l k) x0 x3, rfl⟩
theorem impl_BreaksAt.f_is (l0 : List (S34)) : Is (fun k => impl_BreaksAt.f k l0) (impl_BreaksAt.fv l0) := ⟨fun k => impl_BreaksAt.mono l0 k, rfl⟩
theorem impl_BreaksAt.l0v_eq (x0 : List (S34)) (x3 : Int) : impl_BreaksAt.l0v x0 x3 = if x3 < (x0.length : Int) then (if 0 ≤ x3 then (if 0 ≤ (wrap64 (x3 - 1)) then (if (wrap64 (x3 - 1)) < (x0.length : Int) then ((impl_Follows.fv ((rd_T34 x0 x3).f0) ((rd_T34 x0 x3).f1) ((rd_T34 x0 x3).f2) ((rd_T34 x0 (wrap64 (x3 - 1))).f0) ((rd_T34 x0 (wrap64 (x3 - 1))).f1) ((rd_T34 x0 (wrap64 (x3 - 1))).f2)).bind fun t289 => (if t289 = true then (impl_BreaksAt.l0v x0 (wrap64 (x3 + 1))) else (some x3))) else (none)) else (none)) else (none)) else (some (-1)) := by
  refine Is.step (impl_BreaksAt.l0_is x0 x3).mo (fun k => by rw [impl_BreaksAt.l0]) ?_
  · skip
    repeat' first
    | with_reducible exact impl_BreaksAt.l0_is _ _
    | with_reducible exact impl_Follows.f_is _ _ _ _ _ _
    | with_reducible exact Is.now _
    | with_reducible refine Is.ite ?_ ?_
    | with_reducible refine Is.bind ?_ (fun _ => ?_)
theorem impl_BreaksAt.fv_eq (l0 : List (S34)) : impl_BreaksAt.fv l0 = impl_BreaksAt.l0v l0 1 := by
  refine Is.lim (g := fun k => impl_BreaksAt.f k l0) ?_
  · unfold impl_BreaksAt.f
    repeat' first
    | with_reducible exact impl_BreaksAt.l0_is _ _
    | with_reducible exact Is.now _
    | with_reducible refine Is.ite ?_ ?_
    | with_reducible refine Is.bind ?_ (fun _ => ?_)
noncomputable def spec_MoveOf.l0v (x1 : Int) (x2 : Bool) (x3 : Int) (x9 : Int) (x291000 : Int) (x291001 : List Bool) (x291002 : List (S78)) : Option (Int) := Lim fun k => spec_MoveOf.l0 k x1 x2 x3 x9 x291000 x291001 x291002
noncomputable def spec_MoveOf.fv (a0_0 : Int) (l0_1 : List Bool) (l0_2 : List (S78)) (a1 : Int) (a2 : Bool) (a3 : Int) : Option (Int) := Lim fun k => spec_MoveOf.f k a0_0 l0_1 l0_2 a1 a2 a3
theorem spec_MoveOf.l0_is (x1 : Int) (x2 : Bool) (x3 : Int) (x9 : Int) (x291000 : Int) (x291001 : List Bool) (x291002 : List (S78)) : Is (fun k => spec_MoveOf.l0 k x1 x2 x3 x9 x291000 x291001 x291002) (spec_MoveOf.l0v x1 x2 x3 x9 x291000 x291001 x291002) := ⟨fun k => (spec_MoveOf.mono_l k) x1 x2 x3 x9 x291000 x291001 x291002, rfl⟩
theorem spec_MoveOf.f_is (a0_0 : Int) (l0_1 : List Bool) (l0_2 : List (S78)) (a1 : Int) (a2 : Bool) (a3 : Int) : Is (fun k => spec_MoveOf.f k a0_0 l0_1 l0_2 a1 a2 a3) (spec_MoveOf.fv a0_0 l0_1 l0_2 a1 a2 a3) := ⟨fun k => spec_MoveOf.mono a0_0 l0_1 l0_2 a1 a2 a3 k, rfl⟩
theorem spec_MoveOf.l0v_eq (x1 : Int) (x2 : Bool) (x3 : Int) (x9 : Int) (x291000 : Int) (x291001 : List Bool) (x291002 : List (S78)) : spec_MoveOf.l0v x1 x2 x3 x9 x291000 x291001 x291002 = if x9 < (x291002.length : Int) then (if 0 ≤ x9 then (if ((rd_T78 x291002 x9).f0) = x1 then (if (((rd_T78 x291002 x9).f1) == x2) = true then (if ((rd_T78 x291002 x9).f2) = x3 then (some x9) else (spec_MoveOf.l0v x1 x2 x3 (wrap64 (x9 + 1)) x291000 x291001 x291002)) else (spec_MoveOf.l0v x1 x2 x3 (wrap64 (x9 + 1)) x291000 x291001 x291002)) else (spec_MoveOf.l0v x1 x2 x3 (wrap64 (x9 + 1)) x291000 x291001 x291002)) else (none)) else (some (-1)) := by
  refine Is.step (spec_MoveOf.l0_is x1 x2 x3 x9 x291000 x291001 x291002).mo (fun k => by rw [spec_MoveOf.l0]) ?_
  · skip
    repeat' first
    | with_reducible exact spec_MoveOf.l0_is _ _ _ _ _ _ _
    | with_reducible exact Is.now _
    | with_reducible refine Is.ite ?_ ?_
    | with_reducible refine Is.bind ?_ (fun _ => ?_)
theorem spec_MoveOf.fv_eq (a0_0 : Int) (l0_1 : List Bool) (l0_2 : List (S78)) (a1 : Int) (a2 : Bool) (a3 : Int) : spec_MoveOf.fv a0_0 l0_1 l0_2 a1 a2 a3 = spec_MoveOf.l0v a1 a2 a3 0 a0_0 l0_1 l0_2 := by
  refine Is.lim (g := fun k => spec_MoveOf.f k a0_0 l0_1 l0_2 a1 a2 a3) ?_
  · unfold spec_MoveOf.f
    repeat' first
    | with_reducible exact spec_MoveOf.l0_is _ _ _ _ _ _ _
    | with_reducible exact Is.now _
    | with_reducible refine Is.ite ?_ ?_
    | with_reducible refine Is.bind ?_ (fun _ => ?_)
end Go.Proofs.Ytldcchjbaglppaa.Print

/- Written by a program of this session (limx.py): the equations of what the printed functions come to. No condition. -/
namespace Go.Proofs.Ytldcchjbaglppaa.Print
open Go.RowKit Go.Proofs.YtldcchjbaglppaaW.PrintWords Go.Proofs.YtldcchjbaglppaaW.PrintLast Go.Proofs.Ytldcchjbaglppaa.Base
set_option linter.unusedVariables false
set_option maxRecDepth 20000
noncomputable def spec_l4Put.l0v (x0 : List Int) (x1 : Int) (x5 : Int) : Option (List Int) := Lim fun k => spec_l4Put.l0 k x0 x1 x5
noncomputable def spec_l4Put.fv (l0 : List Int) (a1 : Int) : Option (List Int) := Lim fun k => spec_l4Put.f k l0 a1
theorem spec_l4Put.l0_is (x0 : List Int) (x1 : Int) (x5 : Int) : Is (fun k => spec_l4Put.l0 k x0 x1 x5) (spec_l4Put.l0v x0 x1 x5) := ⟨fun k => (spec_l4Put.mono_l k) x0 x1 x5, rfl⟩
theorem spec_l4Put.f_is (l0 : List Int) (a1 : Int) : Is (fun k => spec_l4Put.f k l0 a1) (spec_l4Put.fv l0 a1) := ⟨fun k => spec_l4Put.mono l0 a1 k, rfl⟩
theorem spec_l4Put.l0v_eq (x0 : List Int) (x1 : Int) (x5 : Int) : spec_l4Put.l0v x0 x1 x5 = if x5 < (x0.length : Int) then (if 0 ≤ x5 then (if (rd x0 x5) < x1 then (spec_l4Put.l0v x0 x1 (wrap64 (x5 + 1))) else (if (rd x0 x5) = x1 then ((some (([] : List Int) : List Int)).bind fun y295 => (if y295.length + x0.length < 17592186044416 then (some (y295 ++ x0)) else (none))) else ((some (([] : List Int) : List Int)).bind fun y301 => (if x5 ≤ (x0.length : Int) then (if y301.length + (x0.take (x5 : Int).toNat).length < 17592186044416 then ((some (y301 ++ (x0.take (x5 : Int).toNat) : List Int)).bind fun y305 => ((some (([x1] : List Int) : List Int)).bind fun y308 => (if y305.length + y308.length < 17592186044416 then ((some (y305 ++ y308 : List Int)).bind fun y311 => (if y311.length + (x0.drop (x5 : Int).toNat).length < 17592186044416 then (some (y311 ++ (x0.drop (x5 : Int).toNat))) else (none))) else (none)))) else (none)) else (none))))) else (none)) else ((some (([] : List Int) : List Int)).bind fun y318 => (if 0 ≤ x5 then (if x5 ≤ (x0.length : Int) then (if y318.length + (x0.take (x5 : Int).toNat).length < 17592186044416 then ((some (y318 ++ (x0.take (x5 : Int).toNat) : List Int)).bind fun y322 => ((some (([x1] : List Int) : List Int)).bind fun y325 => (if y322.length + y325.length < 17592186044416 then ((some (y322 ++ y325 : List Int)).bind fun y328 => (if y328.length + (x0.drop (x5 : Int).toNat).length < 17592186044416 then (some (y328 ++ (x0.drop (x5 : Int).toNat))) else (none))) else (none)))) else (none)) else (none)) else (none))) := by
  refine Is.step (spec_l4Put.l0_is x0 x1 x5).mo (fun k => by rw [spec_l4Put.l0]) ?_
  · skip
    repeat' first
    | with_reducible exact spec_l4Put.l0_is _ _ _
    | with_reducible exact Is.now _
    | with_reducible refine Is.ite ?_ ?_
    | with_reducible refine Is.bind ?_ (fun _ => ?_)
theorem spec_l4Put.fv_eq (l0 : List Int) (a1 : Int) : spec_l4Put.fv l0 a1 = spec_l4Put.l0v l0 a1 0 := by
  refine Is.lim (g := fun k => spec_l4Put.f k l0 a1) ?_
  · unfold spec_l4Put.f
    repeat' first
    | with_reducible exact spec_l4Put.l0_is _ _ _
    | with_reducible exact Is.now _
    | with_reducible refine Is.ite ?_ ?_
    | with_reducible refine Is.bind ?_ (fun _ => ?_)
noncomputable def spec_MovesFrom.l0v (x1 : Int) (x2 : Bool) (x7 : List Int) (x8 : Int) (x336000 : Int) (x336001 : List Bool) (x336002 : List (S78)) : Option (List Int) := Lim fun k => spec_MovesFrom.l0 k x1 x2 x7 x8 x336000 x336001 x336002
noncomputable def spec_MovesFrom.fv (a0_0 : Int) (l0_1 : List Bool) (l0_2 : List (S78)) (a1 : Int) (a2 : Bool) : Option (List Int) := Lim fun k => spec_MovesFrom.f k a0_0 l0_1 l0_2 a1 a2
theorem spec_MovesFrom.l0_is (x1 : Int) (x2 : Bool) (x7 : List Int) (x8 : Int) (x336000 : Int) (x336001 : List Bool) (x336002 : List (S78)) : Is (fun k => spec_MovesFrom.l0 k x1 x2 x7 x8 x336000 x336001 x336002) (spec_MovesFrom.l0v x1 x2 x7 x8 x336000 x336001 x336002) := ⟨fun k => (spec_MovesFrom.mono_l k) x1 x2 x7 x8 x336000 x336001 x336002, rfl⟩
theorem spec_MovesFrom.f_is (a0_0 : Int) (l0_1 : List Bool) (l0_2 : List (S78)) (a1 : Int) (a2 : Bool) : Is (fun k => spec_MovesFrom.f k a0_0 l0_1 l0_2 a1 a2) (spec_MovesFrom.fv a0_0 l0_1 l0_2 a1 a2) := ⟨fun k => spec_MovesFrom.mono a0_0 l0_1 l0_2 a1 a2 k, rfl⟩
theorem spec_MovesFrom.l0v_eq (x1 : Int) (x2 : Bool) (x7 : List Int) (x8 : Int) (x336000 : Int) (x336001 : List Bool) (x336002 : List (S78)) : spec_MovesFrom.l0v x1 x2 x7 x8 x336000 x336001 x336002 = if x8 < (x336002.length : Int) then (if 0 ≤ x8 then (if ((rd_T78 x336002 x8).f0) = x1 then (if (((rd_T78 x336002 x8).f1) == x2) = true then ((spec_l4Put.fv x7 ((rd_T78 x336002 x8).f2)).bind fun t342 => (spec_MovesFrom.l0v x1 x2 t342 (wrap64 (x8 + 1)) x336000 x336001 x336002)) else (spec_MovesFrom.l0v x1 x2 x7 (wrap64 (x8 + 1)) x336000 x336001 x336002)) else (spec_MovesFrom.l0v x1 x2 x7 (wrap64 (x8 + 1)) x336000 x336001 x336002)) else (none)) else (some x7) := by
  refine Is.step (spec_MovesFrom.l0_is x1 x2 x7 x8 x336000 x336001 x336002).mo (fun k => by rw [spec_MovesFrom.l0]) ?_
  · skip
    repeat' first
    | with_reducible exact spec_MovesFrom.l0_is _ _ _ _ _ _ _
    | with_reducible exact spec_l4Put.f_is _ _
    | with_reducible exact Is.now _
    | with_reducible refine Is.ite ?_ ?_
    | with_reducible refine Is.bind ?_ (fun _ => ?_)
theorem spec_MovesFrom.fv_eq (a0_0 : Int) (l0_1 : List Bool) (l0_2 : List (S78)) (a1 : Int) (a2 : Bool) : spec_MovesFrom.fv a0_0 l0_1 l0_2 a1 a2 = spec_MovesFrom.l0v a1 a2 (([] : List Int)) 0 a0_0 l0_1 l0_2 := by
  refine Is.lim (g := fun k => spec_MovesFrom.f k a0_0 l0_1 l0_2 a1 a2) ?_
  · unfold spec_MovesFrom.f
    repeat' first
    | with_reducible exact spec_MovesFrom.l0_is _ _ _ _ _ _ _
    | with_reducible exact Is.now _
    | with_reducible refine Is.ite ?_ ?_
    | with_reducible refine Is.bind ?_ (fun _ => ?_)
end Go.Proofs.Ytldcchjbaglppaa.Print

/- Written by a program of this session (limx.py): the equations of what the printed functions come to. No condition. -/
namespace Go.Proofs.Ytldcchjbaglppaa.Print
open Go.RowKit Go.Proofs.YtldcchjbaglppaaW.PrintWords Go.Proofs.YtldcchjbaglppaaW.PrintLast Go.Proofs.Ytldcchjbaglppaa.Base
set_option linter.unusedVariables false
set_option maxRecDepth 20000
noncomputable def spec_IsMachine.j0v (x22 : Bool) (x346000 : Int) (x346001 : List Bool) (x346002 : List (S78)) : Option (Bool) := Lim fun k => spec_IsMachine.j0 k x22 x346000 x346001 x346002
noncomputable def spec_IsMachine.l0v (x3 : Int) (x346000 : Int) (x346001 : List Bool) (x346002 : List (S78)) : Option (Bool) := Lim fun k => spec_IsMachine.l0 k x3 x346000 x346001 x346002
noncomputable def spec_IsMachine.fv (a0_0 : Int) (l0_1 : List Bool) (l0_2 : List (S78)) : Option (Bool) := Lim fun k => spec_IsMachine.f k a0_0 l0_1 l0_2
theorem spec_IsMachine.j0_is (x22 : Bool) (x346000 : Int) (x346001 : List Bool) (x346002 : List (S78)) : Is (fun k => spec_IsMachine.j0 k x22 x346000 x346001 x346002) (spec_IsMachine.j0v x22 x346000 x346001 x346002) := ⟨fun k => (spec_IsMachine.mono_l k).1 x22 x346000 x346001 x346002, rfl⟩
theorem spec_IsMachine.l0_is (x3 : Int) (x346000 : Int) (x346001 : List Bool) (x346002 : List (S78)) : Is (fun k => spec_IsMachine.l0 k x3 x346000 x346001 x346002) (spec_IsMachine.l0v x3 x346000 x346001 x346002) := ⟨fun k => (spec_IsMachine.mono_l k).2 x3 x346000 x346001 x346002, rfl⟩
theorem spec_IsMachine.f_is (a0_0 : Int) (l0_1 : List Bool) (l0_2 : List (S78)) : Is (fun k => spec_IsMachine.f k a0_0 l0_1 l0_2) (spec_IsMachine.fv a0_0 l0_1 l0_2) := ⟨fun k => spec_IsMachine.mono a0_0 l0_1 l0_2 k, rfl⟩
theorem spec_IsMachine.j0v_eq (x22 : Bool) (x346000 : Int) (x346001 : List Bool) (x346002 : List (S78)) : spec_IsMachine.j0v x22 x346000 x346001 x346002 = if x22 = true then (some false) else (spec_IsMachine.l0v 0 x346000 x346001 x346002) := by
  refine Is.step (spec_IsMachine.j0_is x22 x346000 x346001 x346002).mo (fun k => by rw [spec_IsMachine.j0]) ?_
  · skip
    repeat' first
    | with_reducible exact spec_IsMachine.l0_is _ _ _ _
    | with_reducible exact Is.now _
    | with_reducible refine Is.ite ?_ ?_
    | with_reducible refine Is.bind ?_ (fun _ => ?_)
theorem spec_IsMachine.l0v_eq (x3 : Int) (x346000 : Int) (x346001 : List Bool) (x346002 : List (S78)) : spec_IsMachine.l0v x3 x346000 x346001 x346002 = if x3 < (x346002.length : Int) then (if 0 ≤ x3 then ((spec_l1In.f ((rd_T78 x346002 x3).f0) 0 (wrap64 (x346000 - 1))).bind fun t349 => (if t349 = true then ((spec_l1In.f ((rd_T78 x346002 x3).f3) 0 (wrap64 (x346000 - 1))).bind fun t350 => (if t350 = true then ((spec_l1In.f ((rd_T78 x346002 x3).f2) 0 5).bind fun t351 => (if t351 = true then ((spec_MoveOf.fv x346000 x346001 x346002 ((rd_T78 x346002 x3).f0) ((rd_T78 x346002 x3).f1) ((rd_T78 x346002 x3).f2)).bind fun t352 => (if t352 < x3 then (some false) else ((spec_MovesFrom.fv x346000 x346001 x346002 ((rd_T78 x346002 x3).f0) (!((rd_T78 x346002 x3).f1))).bind fun t353 => (if (t353.length : Int) > 0 then (some false) else (spec_IsMachine.l0v (wrap64 (x3 + 1)) x346000 x346001 x346002))))) else (some false))) else (some false))) else (some false))) else (none)) else (some true) := by
  refine Is.step (spec_IsMachine.l0_is x3 x346000 x346001 x346002).mo (fun k => by rw [spec_IsMachine.l0]) ?_
  · skip
    repeat' first
    | with_reducible exact spec_IsMachine.l0_is _ _ _ _
    | with_reducible exact spec_MoveOf.f_is _ _ _ _ _ _
    | with_reducible exact spec_MovesFrom.f_is _ _ _ _ _
    | with_reducible exact Is.now _
    | with_reducible refine Is.ite ?_ ?_
    | with_reducible refine Is.bind ?_ (fun _ => ?_)
theorem spec_IsMachine.fv_eq (a0_0 : Int) (l0_1 : List Bool) (l0_2 : List (S78)) : spec_IsMachine.fv a0_0 l0_1 l0_2 = (spec_l1In.f a0_0 1 6).bind fun t346 => (if t346 = true then (if (l0_1.length : Int) = a0_0 then (spec_IsMachine.j0v (decide ((l0_2.length : Int) > 12)) a0_0 l0_1 l0_2) else (spec_IsMachine.j0v true a0_0 l0_1 l0_2)) else (spec_IsMachine.j0v true a0_0 l0_1 l0_2)) := by
  refine Is.lim (g := fun k => spec_IsMachine.f k a0_0 l0_1 l0_2) ?_
  · unfold spec_IsMachine.f
    repeat' first
    | with_reducible exact spec_IsMachine.j0_is _ _ _ _
    | with_reducible exact Is.now _
    | with_reducible refine Is.ite ?_ ?_
    | with_reducible refine Is.bind ?_ (fun _ => ?_)
noncomputable def spec_EqualInts.l0v (x0 : List Int) (x1 : List Int) (x5 : Int) : Option (Bool) := Lim fun k => spec_EqualInts.l0 k x0 x1 x5
noncomputable def spec_EqualInts.fv (l0 : List Int) (l1 : List Int) : Option (Bool) := Lim fun k => spec_EqualInts.f k l0 l1
theorem spec_EqualInts.l0_is (x0 : List Int) (x1 : List Int) (x5 : Int) : Is (fun k => spec_EqualInts.l0 k x0 x1 x5) (spec_EqualInts.l0v x0 x1 x5) := ⟨fun k => (spec_EqualInts.mono_l k) x0 x1 x5, rfl⟩
theorem spec_EqualInts.f_is (l0 : List Int) (l1 : List Int) : Is (fun k => spec_EqualInts.f k l0 l1) (spec_EqualInts.fv l0 l1) := ⟨fun k => spec_EqualInts.mono l0 l1 k, rfl⟩
theorem spec_EqualInts.l0v_eq (x0 : List Int) (x1 : List Int) (x5 : Int) : spec_EqualInts.l0v x0 x1 x5 = if x5 < (x0.length : Int) then (if 0 ≤ x5 then (if x5 < (x1.length : Int) then (if (rd x0 x5) = (rd x1 x5) then (spec_EqualInts.l0v x0 x1 (wrap64 (x5 + 1))) else (some false)) else (none)) else (none)) else (some true) := by
  refine Is.step (spec_EqualInts.l0_is x0 x1 x5).mo (fun k => by rw [spec_EqualInts.l0]) ?_
  · skip
    repeat' first
    | with_reducible exact spec_EqualInts.l0_is _ _ _
    | with_reducible exact Is.now _
    | with_reducible refine Is.ite ?_ ?_
    | with_reducible refine Is.bind ?_ (fun _ => ?_)
theorem spec_EqualInts.fv_eq (l0 : List Int) (l1 : List Int) : spec_EqualInts.fv l0 l1 = if (l0.length : Int) = (l1.length : Int) then (spec_EqualInts.l0v l0 l1 0) else (some false) := by
  refine Is.lim (g := fun k => spec_EqualInts.f k l0 l1) ?_
  · unfold spec_EqualInts.f
    repeat' first
    | with_reducible exact spec_EqualInts.l0_is _ _ _
    | with_reducible exact Is.now _
    | with_reducible refine Is.ite ?_ ?_
    | with_reducible refine Is.bind ?_ (fun _ => ?_)
noncomputable def spec_l14Has.l0v (x0 : List (List Int)) (x1 : List Int) (x5 : Int) : Option (Bool) := Lim fun k => spec_l14Has.l0 k x0 x1 x5
noncomputable def spec_l14Has.fv (l0 : List (List Int)) (l1 : List Int) : Option (Bool) := Lim fun k => spec_l14Has.f k l0 l1
theorem spec_l14Has.l0_is (x0 : List (List Int)) (x1 : List Int) (x5 : Int) : Is (fun k => spec_l14Has.l0 k x0 x1 x5) (spec_l14Has.l0v x0 x1 x5) := ⟨fun k => (spec_l14Has.mono_l k) x0 x1 x5, rfl⟩
theorem spec_l14Has.f_is (l0 : List (List Int)) (l1 : List Int) : Is (fun k => spec_l14Has.f k l0 l1) (spec_l14Has.fv l0 l1) := ⟨fun k => spec_l14Has.mono l0 l1 k, rfl⟩
theorem spec_l14Has.l0v_eq (x0 : List (List Int)) (x1 : List Int) (x5 : Int) : spec_l14Has.l0v x0 x1 x5 = if x5 < (x0.length : Int) then (if 0 ≤ x5 then ((spec_EqualInts.fv (rd_L9 x0 x5) x1).bind fun t359 => (if t359 = true then (some true) else (spec_l14Has.l0v x0 x1 (wrap64 (x5 + 1))))) else (none)) else (some false) := by
  refine Is.step (spec_l14Has.l0_is x0 x1 x5).mo (fun k => by rw [spec_l14Has.l0]) ?_
  · skip
    repeat' first
    | with_reducible exact spec_EqualInts.f_is _ _
    | with_reducible exact spec_l14Has.l0_is _ _ _
    | with_reducible exact Is.now _
    | with_reducible refine Is.ite ?_ ?_
    | with_reducible refine Is.bind ?_ (fun _ => ?_)
theorem spec_l14Has.fv_eq (l0 : List (List Int)) (l1 : List Int) : spec_l14Has.fv l0 l1 = spec_l14Has.l0v l0 l1 0 := by
  refine Is.lim (g := fun k => spec_l14Has.f k l0 l1) ?_
  · unfold spec_l14Has.f
    repeat' first
    | with_reducible exact spec_l14Has.l0_is _ _ _
    | with_reducible exact Is.now _
    | with_reducible refine Is.ite ?_ ?_
    | with_reducible refine Is.bind ?_ (fun _ => ?_)
end Go.Proofs.Ytldcchjbaglppaa.Print

/- Written by a program of this session (limx.py): the equations of what the printed functions come to. No condition. -/
namespace Go.Proofs.Ytldcchjbaglppaa.Print
open Go.RowKit Go.Proofs.YtldcchjbaglppaaW.PrintWords Go.Proofs.YtldcchjbaglppaaW.PrintLast Go.Proofs.Ytldcchjbaglppaa.Base
set_option linter.unusedVariables false
set_option maxRecDepth 20000
noncomputable def spec_l9Has.l0v (x0 : List Int) (x1 : Int) (x5 : Int) : Option (Bool) := Lim fun k => spec_l9Has.l0 k x0 x1 x5
noncomputable def spec_l9Has.fv (l0 : List Int) (a1 : Int) : Option (Bool) := Lim fun k => spec_l9Has.f k l0 a1
theorem spec_l9Has.l0_is (x0 : List Int) (x1 : Int) (x5 : Int) : Is (fun k => spec_l9Has.l0 k x0 x1 x5) (spec_l9Has.l0v x0 x1 x5) := ⟨fun k => (spec_l9Has.mono_l k) x0 x1 x5, rfl⟩
theorem spec_l9Has.f_is (l0 : List Int) (a1 : Int) : Is (fun k => spec_l9Has.f k l0 a1) (spec_l9Has.fv l0 a1) := ⟨fun k => spec_l9Has.mono l0 a1 k, rfl⟩
theorem spec_l9Has.l0v_eq (x0 : List Int) (x1 : Int) (x5 : Int) : spec_l9Has.l0v x0 x1 x5 = if x5 < (x0.length : Int) then (if 0 ≤ x5 then (if (rd x0 x5) = x1 then (some true) else (spec_l9Has.l0v x0 x1 (wrap64 (x5 + 1)))) else (none)) else (some false) := by
  refine Is.step (spec_l9Has.l0_is x0 x1 x5).mo (fun k => by rw [spec_l9Has.l0]) ?_
  · skip
    repeat' first
    | with_reducible exact spec_l9Has.l0_is _ _ _
    | with_reducible exact Is.now _
    | with_reducible refine Is.ite ?_ ?_
    | with_reducible refine Is.bind ?_ (fun _ => ?_)
theorem spec_l9Has.fv_eq (l0 : List Int) (a1 : Int) : spec_l9Has.fv l0 a1 = spec_l9Has.l0v l0 a1 0 := by
  refine Is.lim (g := fun k => spec_l9Has.f k l0 a1) ?_
  · unfold spec_l9Has.f
    repeat' first
    | with_reducible exact spec_l9Has.l0_is _ _ _
    | with_reducible exact Is.now _
    | with_reducible refine Is.ite ?_ ?_
    | with_reducible refine Is.bind ?_ (fun _ => ?_)
noncomputable def spec_l15Within.l0v (x0 : List Int) (x1 : List Int) (x5 : Int) : Option (Bool) := Lim fun k => spec_l15Within.l0 k x0 x1 x5
noncomputable def spec_l15Within.fv (l0 : List Int) (l1 : List Int) : Option (Bool) := Lim fun k => spec_l15Within.f k l0 l1
theorem spec_l15Within.l0_is (x0 : List Int) (x1 : List Int) (x5 : Int) : Is (fun k => spec_l15Within.l0 k x0 x1 x5) (spec_l15Within.l0v x0 x1 x5) := ⟨fun k => (spec_l15Within.mono_l k) x0 x1 x5, rfl⟩
theorem spec_l15Within.f_is (l0 : List Int) (l1 : List Int) : Is (fun k => spec_l15Within.f k l0 l1) (spec_l15Within.fv l0 l1) := ⟨fun k => spec_l15Within.mono l0 l1 k, rfl⟩
theorem spec_l15Within.l0v_eq (x0 : List Int) (x1 : List Int) (x5 : Int) : spec_l15Within.l0v x0 x1 x5 = if x5 < (x0.length : Int) then (if 0 ≤ x5 then ((spec_l9Has.fv x1 (rd x0 x5)).bind fun t398 => (if t398 = true then (spec_l15Within.l0v x0 x1 (wrap64 (x5 + 1))) else (some false))) else (none)) else (some true) := by
  refine Is.step (spec_l15Within.l0_is x0 x1 x5).mo (fun k => by rw [spec_l15Within.l0]) ?_
  · skip
    repeat' first
    | with_reducible exact spec_l15Within.l0_is _ _ _
    | with_reducible exact spec_l9Has.f_is _ _
    | with_reducible exact Is.now _
    | with_reducible refine Is.ite ?_ ?_
    | with_reducible refine Is.bind ?_ (fun _ => ?_)
theorem spec_l15Within.fv_eq (l0 : List Int) (l1 : List Int) : spec_l15Within.fv l0 l1 = spec_l15Within.l0v l0 l1 0 := by
  refine Is.lim (g := fun k => spec_l15Within.f k l0 l1) ?_
  · unfold spec_l15Within.f
    repeat' first
    | with_reducible exact spec_l15Within.l0_is _ _ _
    | with_reducible exact Is.now _
    | with_reducible refine Is.ite ?_ ?_
    | with_reducible refine Is.bind ?_ (fun _ => ?_)
noncomputable def spec_FollowsAt.j0v (x2 : Int) (x3 : Int) (x53 : Bool) (x403000 : Int) (x403001 : List Bool) (x403002 : List (S78)) (x404000 : Int) (x404001 : List Bool) (x404002 : List (S78)) : Option (Bool) := Lim fun k => spec_FollowsAt.j0 k x2 x3 x53 x403000 x403001 x403002 x404000 x404001 x404002
noncomputable def spec_FollowsAt.fv (a0_0 : Int) (l0_1 : List Bool) (l0_2 : List (S78)) (a1_0 : Int) (l1_1 : List Bool) (l1_2 : List (S78)) (a2 : Int) (a3 : Int) : Option (Bool) := Lim fun k => spec_FollowsAt.f k a0_0 l0_1 l0_2 a1_0 l1_1 l1_2 a2 a3
theorem spec_FollowsAt.j0_is (x2 : Int) (x3 : Int) (x53 : Bool) (x403000 : Int) (x403001 : List Bool) (x403002 : List (S78)) (x404000 : Int) (x404001 : List Bool) (x404002 : List (S78)) : Is (fun k => spec_FollowsAt.j0 k x2 x3 x53 x403000 x403001 x403002 x404000 x404001 x404002) (spec_FollowsAt.j0v x2 x3 x53 x403000 x403001 x403002 x404000 x404001 x404002) := ⟨fun k => (spec_FollowsAt.mono_l k) x2 x3 x53 x403000 x403001 x403002 x404000 x404001 x404002, rfl⟩
theorem spec_FollowsAt.f_is (a0_0 : Int) (l0_1 : List Bool) (l0_2 : List (S78)) (a1_0 : Int) (l1_1 : List Bool) (l1_2 : List (S78)) (a2 : Int) (a3 : Int) : Is (fun k => spec_FollowsAt.f k a0_0 l0_1 l0_2 a1_0 l1_1 l1_2 a2 a3) (spec_FollowsAt.fv a0_0 l0_1 l0_2 a1_0 l1_1 l1_2 a2 a3) := ⟨fun k => spec_FollowsAt.mono a0_0 l0_1 l0_2 a1_0 l1_1 l1_2 a2 a3 k, rfl⟩
theorem spec_FollowsAt.j0v_eq (x2 : Int) (x3 : Int) (x53 : Bool) (x403000 : Int) (x403001 : List Bool) (x403002 : List (S78)) (x404000 : Int) (x404001 : List Bool) (x404002 : List (S78)) : spec_FollowsAt.j0v x2 x3 x53 x403000 x403001 x403002 x404000 x404001 x404002 = if x53 = true then (some false) else ((spec_l14End.f x404000 x404001 x404002 x3).bind fun t418 => (if t418 = true then ((spec_l14End.f x403000 x403001 x403002 x2).bind fun t419 => (some t419)) else (some true))) := by
  refine Is.step (spec_FollowsAt.j0_is x2 x3 x53 x403000 x403001 x403002 x404000 x404001 x404002).mo (fun k => by rw [spec_FollowsAt.j0]) ?_
  · skip
    repeat' first
    | with_reducible exact Is.now _
    | with_reducible refine Is.ite ?_ ?_
    | with_reducible refine Is.bind ?_ (fun _ => ?_)
theorem spec_FollowsAt.fv_eq (a0_0 : Int) (l0_1 : List Bool) (l0_2 : List (S78)) (a1_0 : Int) (l1_1 : List Bool) (l1_2 : List (S78)) (a2 : Int) (a3 : Int) : spec_FollowsAt.fv a0_0 l0_1 l0_2 a1_0 l1_1 l1_2 a2 a3 = (spec_MovesFrom.fv a0_0 l0_1 l0_2 a2 true).bind fun t404 => ((spec_MovesFrom.fv a1_0 l1_1 l1_2 a3 true).bind fun t407 => ((spec_MovesFrom.fv a0_0 l0_1 l0_2 a2 false).bind fun t410 => ((spec_MovesFrom.fv a1_0 l1_1 l1_2 a3 false).bind fun t413 => ((spec_l15Within.fv t413 t410).bind fun t416 => (if t416 = true then ((spec_l15Within.fv t404 t407).bind fun t417 => (if t417 = true then (if (t407.length : Int) > 0 then (if (t404.length : Int) > 0 then (if (t413.length : Int) = 0 then (spec_FollowsAt.j0v a2 a3 (decide ((t410.length : Int) > 0)) a0_0 l0_1 l0_2 a1_0 l1_1 l1_2) else (spec_FollowsAt.j0v a2 a3 false a0_0 l0_1 l0_2 a1_0 l1_1 l1_2)) else (spec_FollowsAt.j0v a2 a3 true a0_0 l0_1 l0_2 a1_0 l1_1 l1_2)) else (if (t404.length : Int) > 0 then (spec_FollowsAt.j0v a2 a3 true a0_0 l0_1 l0_2 a1_0 l1_1 l1_2) else (if (t413.length : Int) = 0 then (spec_FollowsAt.j0v a2 a3 (decide ((t410.length : Int) > 0)) a0_0 l0_1 l0_2 a1_0 l1_1 l1_2) else (spec_FollowsAt.j0v a2 a3 false a0_0 l0_1 l0_2 a1_0 l1_1 l1_2)))) else (spec_FollowsAt.j0v a2 a3 true a0_0 l0_1 l0_2 a1_0 l1_1 l1_2))) else (spec_FollowsAt.j0v a2 a3 true a0_0 l0_1 l0_2 a1_0 l1_1 l1_2)))))) := by
  refine Is.lim (g := fun k => spec_FollowsAt.f k a0_0 l0_1 l0_2 a1_0 l1_1 l1_2 a2 a3) ?_
  · unfold spec_FollowsAt.f
    repeat' first
    | with_reducible exact spec_FollowsAt.j0_is _ _ _ _ _ _ _ _ _
    | with_reducible exact spec_MovesFrom.f_is _ _ _ _ _
    | with_reducible exact spec_l15Within.f_is _ _
    | with_reducible exact Is.now _
    | with_reducible refine Is.ite ?_ ?_
    | with_reducible refine Is.bind ?_ (fun _ => ?_)
end Go.Proofs.Ytldcchjbaglppaa.Print

/- Written by a program of this session (limx.py): the equations of what the printed functions come to. No condition. -/
namespace Go.Proofs.Ytldcchjbaglppaa.Print
open Go.RowKit Go.Proofs.YtldcchjbaglppaaW.PrintWords Go.Proofs.YtldcchjbaglppaaW.PrintLast Go.Proofs.Ytldcchjbaglppaa.Base
set_option linter.unusedVariables false
set_option maxRecDepth 20000
noncomputable def spec_FollowPairs.j0v (x5 : List (List Int)) (x23 : Bool) (x361000 : Int) (x361001 : List Bool) (x361002 : List (S78)) (x362000 : Int) (x362001 : List Bool) (x362002 : List (S78)) : Option ((List (List Int))) := Lim fun k => spec_FollowPairs.j0 k x5 x23 x361000 x361001 x361002 x362000 x362001 x362002
noncomputable def spec_FollowPairs.l0v (x5 : List (List Int)) (x6 : Int) (x361000 : Int) (x361001 : List Bool) (x361002 : List (S78)) (x362000 : Int) (x362001 : List Bool) (x362002 : List (S78)) : Option ((List (List Int))) := Lim fun k => spec_FollowPairs.l0 k x5 x6 x361000 x361001 x361002 x362000 x362001 x362002
noncomputable def spec_FollowPairs.l1v (x5 : List (List Int)) (x6 : Int) (x7 : Int) (x8 : Int) (x9 : Int) (x361000 : Int) (x361001 : List Bool) (x361002 : List (S78)) (x362000 : Int) (x362001 : List Bool) (x362002 : List (S78)) : Option ((List (List Int))) := Lim fun k => spec_FollowPairs.l1 k x5 x6 x7 x8 x9 x361000 x361001 x361002 x362000 x362001 x362002
noncomputable def spec_FollowPairs.j3v (x5 : List (List Int)) (x6 : Int) (x7 : Int) (x8 : Int) (x9 : Int) (x10 : List Int) (x361000 : Int) (x361001 : List Bool) (x361002 : List (S78)) (x362000 : Int) (x362001 : List Bool) (x362002 : List (S78)) : Option ((List (List Int))) := Lim fun k => spec_FollowPairs.j3 k x5 x6 x7 x8 x9 x10 x361000 x361001 x361002 x362000 x362001 x362002
noncomputable def spec_FollowPairs.l2v (x5 : List (List Int)) (x6 : Int) (x7 : Int) (x8 : Int) (x9 : Int) (x10 : List Int) (x11 : Int) (x361000 : Int) (x361001 : List Bool) (x361002 : List (S78)) (x362000 : Int) (x362001 : List Bool) (x362002 : List (S78)) : Option ((List (List Int))) := Lim fun k => spec_FollowPairs.l2 k x5 x6 x7 x8 x9 x10 x11 x361000 x361001 x361002 x362000 x362001 x362002
noncomputable def spec_FollowPairs.j5v (x5 : List (List Int)) (x6 : Int) (x7 : Int) (x8 : Int) (x9 : Int) (x10 : List Int) (x11 : Int) (x12 : Int) (x13 : Int) (x88 : Bool) (x361000 : Int) (x361001 : List Bool) (x361002 : List (S78)) (x362000 : Int) (x362001 : List Bool) (x362002 : List (S78)) : Option ((List (List Int))) := Lim fun k => spec_FollowPairs.j5 k x5 x6 x7 x8 x9 x10 x11 x12 x13 x88 x361000 x361001 x361002 x362000 x362001 x362002
noncomputable def spec_FollowPairs.fv (a0_0 : Int) (l0_1 : List Bool) (l0_2 : List (S78)) (a1_0 : Int) (l1_1 : List Bool) (l1_2 : List (S78)) : Option ((List (List Int))) := Lim fun k => spec_FollowPairs.f k a0_0 l0_1 l0_2 a1_0 l1_1 l1_2
theorem spec_FollowPairs.j0_is (x5 : List (List Int)) (x23 : Bool) (x361000 : Int) (x361001 : List Bool) (x361002 : List (S78)) (x362000 : Int) (x362001 : List Bool) (x362002 : List (S78)) : Is (fun k => spec_FollowPairs.j0 k x5 x23 x361000 x361001 x361002 x362000 x362001 x362002) (spec_FollowPairs.j0v x5 x23 x361000 x361001 x361002 x362000 x362001 x362002) := ⟨fun k => (spec_FollowPairs.mono_l k).1 x5 x23 x361000 x361001 x361002 x362000 x362001 x362002, rfl⟩
theorem spec_FollowPairs.l0_is (x5 : List (List Int)) (x6 : Int) (x361000 : Int) (x361001 : List Bool) (x361002 : List (S78)) (x362000 : Int) (x362001 : List Bool) (x362002 : List (S78)) : Is (fun k => spec_FollowPairs.l0 k x5 x6 x361000 x361001 x361002 x362000 x362001 x362002) (spec_FollowPairs.l0v x5 x6 x361000 x361001 x361002 x362000 x362001 x362002) := ⟨fun k => (spec_FollowPairs.mono_l k).2.1 x5 x6 x361000 x361001 x361002 x362000 x362001 x362002, rfl⟩
theorem spec_FollowPairs.l1_is (x5 : List (List Int)) (x6 : Int) (x7 : Int) (x8 : Int) (x9 : Int) (x361000 : Int) (x361001 : List Bool) (x361002 : List (S78)) (x362000 : Int) (x362001 : List Bool) (x362002 : List (S78)) : Is (fun k => spec_FollowPairs.l1 k x5 x6 x7 x8 x9 x361000 x361001 x361002 x362000 x362001 x362002) (spec_FollowPairs.l1v x5 x6 x7 x8 x9 x361000 x361001 x361002 x362000 x362001 x362002) := ⟨fun k => (spec_FollowPairs.mono_l k).2.2.1 x5 x6 x7 x8 x9 x361000 x361001 x361002 x362000 x362001 x362002, rfl⟩
theorem spec_FollowPairs.j3_is (x5 : List (List Int)) (x6 : Int) (x7 : Int) (x8 : Int) (x9 : Int) (x10 : List Int) (x361000 : Int) (x361001 : List Bool) (x361002 : List (S78)) (x362000 : Int) (x362001 : List Bool) (x362002 : List (S78)) : Is (fun k => spec_FollowPairs.j3 k x5 x6 x7 x8 x9 x10 x361000 x361001 x361002 x362000 x362001 x362002) (spec_FollowPairs.j3v x5 x6 x7 x8 x9 x10 x361000 x361001 x361002 x362000 x362001 x362002) := ⟨fun k => (spec_FollowPairs.mono_l k).2.2.2.1 x5 x6 x7 x8 x9 x10 x361000 x361001 x361002 x362000 x362001 x362002, rfl⟩
theorem spec_FollowPairs.l2_is (x5 : List (List Int)) (x6 : Int) (x7 : Int) (x8 : Int) (x9 : Int) (x10 : List Int) (x11 : Int) (x361000 : Int) (x361001 : List Bool) (x361002 : List (S78)) (x362000 : Int) (x362001 : List Bool) (x362002 : List (S78)) : Is (fun k => spec_FollowPairs.l2 k x5 x6 x7 x8 x9 x10 x11 x361000 x361001 x361002 x362000 x362001 x362002) (spec_FollowPairs.l2v x5 x6 x7 x8 x9 x10 x11 x361000 x361001 x361002 x362000 x362001 x362002) := ⟨fun k => (spec_FollowPairs.mono_l k).2.2.2.2.1 x5 x6 x7 x8 x9 x10 x11 x361000 x361001 x361002 x362000 x362001 x362002, rfl⟩
theorem spec_FollowPairs.j5_is (x5 : List (List Int)) (x6 : Int) (x7 : Int) (x8 : Int) (x9 : Int) (x10 : List Int) (x11 : Int) (x12 : Int) (x13 : Int) (x88 : Bool) (x361000 : Int) (x361001 : List Bool) (x361002 : List (S78)) (x362000 : Int) (x362001 : List Bool) (x362002 : List (S78)) : Is (fun k => spec_FollowPairs.j5 k x5 x6 x7 x8 x9 x10 x11 x12 x13 x88 x361000 x361001 x361002 x362000 x362001 x362002) (spec_FollowPairs.j5v x5 x6 x7 x8 x9 x10 x11 x12 x13 x88 x361000 x361001 x361002 x362000 x362001 x362002) := ⟨fun k => (spec_FollowPairs.mono_l k).2.2.2.2.2 x5 x6 x7 x8 x9 x10 x11 x12 x13 x88 x361000 x361001 x361002 x362000 x362001 x362002, rfl⟩
theorem spec_FollowPairs.f_is (a0_0 : Int) (l0_1 : List Bool) (l0_2 : List (S78)) (a1_0 : Int) (l1_1 : List Bool) (l1_2 : List (S78)) : Is (fun k => spec_FollowPairs.f k a0_0 l0_1 l0_2 a1_0 l1_1 l1_2) (spec_FollowPairs.fv a0_0 l0_1 l0_2 a1_0 l1_1 l1_2) := ⟨fun k => spec_FollowPairs.mono a0_0 l0_1 l0_2 a1_0 l1_1 l1_2 k, rfl⟩
theorem spec_FollowPairs.j0v_eq (x5 : List (List Int)) (x23 : Bool) (x361000 : Int) (x361001 : List Bool) (x361002 : List (S78)) (x362000 : Int) (x362001 : List Bool) (x362002 : List (S78)) : spec_FollowPairs.j0v x5 x23 x361000 x361001 x361002 x362000 x362001 x362002 = if x23 = true then (some x5) else (if x5.length < 5864062014805 then (spec_FollowPairs.l0v (x5 ++ [(([0, 0] : List Int))]) 0 x361000 x361001 x361002 x362000 x362001 x362002) else (none)) := by
  refine Is.step (spec_FollowPairs.j0_is x5 x23 x361000 x361001 x361002 x362000 x362001 x362002).mo (fun k => by rw [spec_FollowPairs.j0]) ?_
  · skip
    repeat' first
    | with_reducible exact spec_FollowPairs.l0_is _ _ _ _ _ _ _ _
    | with_reducible exact Is.now _
    | with_reducible refine Is.ite ?_ ?_
    | with_reducible refine Is.bind ?_ (fun _ => ?_)
theorem spec_FollowPairs.l0v_eq (x5 : List (List Int)) (x6 : Int) (x361000 : Int) (x361001 : List Bool) (x361002 : List (S78)) (x362000 : Int) (x362001 : List Bool) (x362002 : List (S78)) : spec_FollowPairs.l0v x5 x6 x361000 x361001 x361002 x362000 x362001 x362002 = if x6 < (x5.length : Int) then (if 0 ≤ x6 then (if 0 < ((rd_L9 x5 x6).length : Int) then (if 1 < ((rd_L9 x5 x6).length : Int) then (spec_FollowPairs.l1v x5 x6 (rd (rd_L9 x5 x6) 0) (rd (rd_L9 x5 x6) 1) 1 x361000 x361001 x361002 x362000 x362001 x362002) else (none)) else (none)) else (none)) else (some x5) := by
  refine Is.step (spec_FollowPairs.l0_is x5 x6 x361000 x361001 x361002 x362000 x362001 x362002).mo (fun k => by rw [spec_FollowPairs.l0]) ?_
  · skip
    repeat' first
    | with_reducible exact spec_FollowPairs.l1_is _ _ _ _ _ _ _ _ _ _ _
    | with_reducible exact Is.now _
    | with_reducible refine Is.ite ?_ ?_
    | with_reducible refine Is.bind ?_ (fun _ => ?_)
theorem spec_FollowPairs.l1v_eq (x5 : List (List Int)) (x6 : Int) (x7 : Int) (x8 : Int) (x9 : Int) (x361000 : Int) (x361001 : List Bool) (x361002 : List (S78)) (x362000 : Int) (x362001 : List Bool) (x362002 : List (S78)) : spec_FollowPairs.l1v x5 x6 x7 x8 x9 x361000 x361001 x361002 x362000 x362001 x362002 = if x9 ≥ 0 then ((spec_MovesFrom.fv x361000 x361001 x361002 x7 true).bind fun t377 => (if x9 = 0 then ((spec_MovesFrom.fv x362000 x362001 x362002 x8 false).bind fun t380 => (spec_FollowPairs.j3v x5 x6 x7 x8 x9 t380 x361000 x361001 x361002 x362000 x362001 x362002)) else (spec_FollowPairs.j3v x5 x6 x7 x8 x9 t377 x361000 x361001 x361002 x362000 x362001 x362002))) else (spec_FollowPairs.l0v x5 (wrap64 (x6 + 1)) x361000 x361001 x361002 x362000 x362001 x362002) := by
  refine Is.step (spec_FollowPairs.l1_is x5 x6 x7 x8 x9 x361000 x361001 x361002 x362000 x362001 x362002).mo (fun k => by rw [spec_FollowPairs.l1]) ?_
  · skip
    repeat' first
    | with_reducible exact spec_FollowPairs.j3_is _ _ _ _ _ _ _ _ _ _ _ _
    | with_reducible exact spec_FollowPairs.l0_is _ _ _ _ _ _ _ _
    | with_reducible exact spec_MovesFrom.f_is _ _ _ _ _
    | with_reducible exact Is.now _
    | with_reducible refine Is.ite ?_ ?_
    | with_reducible refine Is.bind ?_ (fun _ => ?_)
theorem spec_FollowPairs.j3v_eq (x5 : List (List Int)) (x6 : Int) (x7 : Int) (x8 : Int) (x9 : Int) (x10 : List Int) (x361000 : Int) (x361001 : List Bool) (x361002 : List (S78)) (x362000 : Int) (x362001 : List Bool) (x362002 : List (S78)) : spec_FollowPairs.j3v x5 x6 x7 x8 x9 x10 x361000 x361001 x361002 x362000 x362001 x362002 = spec_FollowPairs.l2v x5 x6 x7 x8 x9 x10 0 x361000 x361001 x361002 x362000 x362001 x362002 := by
  refine Is.step (spec_FollowPairs.j3_is x5 x6 x7 x8 x9 x10 x361000 x361001 x361002 x362000 x362001 x362002).mo (fun k => by rw [spec_FollowPairs.j3]) ?_
  · skip
    repeat' first
    | with_reducible exact spec_FollowPairs.l2_is _ _ _ _ _ _ _ _ _ _ _ _ _
    | with_reducible exact Is.now _
    | with_reducible refine Is.ite ?_ ?_
    | with_reducible refine Is.bind ?_ (fun _ => ?_)
theorem spec_FollowPairs.l2v_eq (x5 : List (List Int)) (x6 : Int) (x7 : Int) (x8 : Int) (x9 : Int) (x10 : List Int) (x11 : Int) (x361000 : Int) (x361001 : List Bool) (x361002 : List (S78)) (x362000 : Int) (x362001 : List Bool) (x362002 : List (S78)) : spec_FollowPairs.l2v x5 x6 x7 x8 x9 x10 x11 x361000 x361001 x361002 x362000 x362001 x362002 = if x11 < (x10.length : Int) then (if 0 ≤ x11 then ((spec_MoveOf.fv x361000 x361001 x361002 x7 (x9 == 1) (rd x10 x11)).bind fun t384 => ((spec_MoveOf.fv x362000 x362001 x362002 x8 (x9 == 1) (rd x10 x11)).bind fun t386 => (if t384 < 0 then (spec_FollowPairs.j5v x5 x6 x7 x8 x9 x10 x11 t384 t386 true x361000 x361001 x361002 x362000 x362001 x362002) else (spec_FollowPairs.j5v x5 x6 x7 x8 x9 x10 x11 t384 t386 (decide (t386 < 0)) x361000 x361001 x361002 x362000 x362001 x362002)))) else (none)) else (spec_FollowPairs.l1v x5 x6 x7 x8 (wrap64 (x9 - 1)) x361000 x361001 x361002 x362000 x362001 x362002) := by
  refine Is.step (spec_FollowPairs.l2_is x5 x6 x7 x8 x9 x10 x11 x361000 x361001 x361002 x362000 x362001 x362002).mo (fun k => by rw [spec_FollowPairs.l2]) ?_
  · skip
    repeat' first
    | with_reducible exact spec_FollowPairs.j5_is _ _ _ _ _ _ _ _ _ _ _ _ _ _ _ _
    | with_reducible exact spec_FollowPairs.l1_is _ _ _ _ _ _ _ _ _ _ _
    | with_reducible exact spec_MoveOf.f_is _ _ _ _ _ _
    | with_reducible exact Is.now _
    | with_reducible refine Is.ite ?_ ?_
    | with_reducible refine Is.bind ?_ (fun _ => ?_)
theorem spec_FollowPairs.j5v_eq (x5 : List (List Int)) (x6 : Int) (x7 : Int) (x8 : Int) (x9 : Int) (x10 : List Int) (x11 : Int) (x12 : Int) (x13 : Int) (x88 : Bool) (x361000 : Int) (x361001 : List Bool) (x361002 : List (S78)) (x362000 : Int) (x362001 : List Bool) (x362002 : List (S78)) : spec_FollowPairs.j5v x5 x6 x7 x8 x9 x10 x11 x12 x13 x88 x361000 x361001 x361002 x362000 x362001 x362002 = if x88 = true then (spec_FollowPairs.l2v x5 x6 x7 x8 x9 x10 (wrap64 (x11 + 1)) x361000 x361001 x361002 x362000 x362001 x362002) else (if 0 ≤ x12 then (if x12 < (x361002.length : Int) then (if 0 ≤ x13 then (if x13 < (x362002.length : Int) then ((some (([(rd_T78 x361002 x12).f3, (rd_T78 x362002 x13).f3] : List Int) : List Int)).bind fun y389 => ((spec_l14Has.fv x5 y389).bind fun t392 => (if t392 = true then (spec_FollowPairs.l2v x5 x6 x7 x8 x9 x10 (wrap64 (x11 + 1)) x361000 x361001 x361002 x362000 x362001 x362002) else (if x5.length < 5864062014805 then (spec_FollowPairs.l2v (x5 ++ [y389]) x6 x7 x8 x9 x10 (wrap64 (x11 + 1)) x361000 x361001 x361002 x362000 x362001 x362002) else (none))))) else (none)) else (none)) else (none)) else (none)) := by
  refine Is.step (spec_FollowPairs.j5_is x5 x6 x7 x8 x9 x10 x11 x12 x13 x88 x361000 x361001 x361002 x362000 x362001 x362002).mo (fun k => by rw [spec_FollowPairs.j5]) ?_
  · skip
    repeat' first
    | with_reducible exact spec_FollowPairs.l2_is _ _ _ _ _ _ _ _ _ _ _ _ _
    | with_reducible exact spec_l14Has.f_is _ _
    | with_reducible exact Is.now _
    | with_reducible refine Is.ite ?_ ?_
    | with_reducible refine Is.bind ?_ (fun _ => ?_)
theorem spec_FollowPairs.fv_eq (a0_0 : Int) (l0_1 : List Bool) (l0_2 : List (S78)) (a1_0 : Int) (l1_1 : List Bool) (l1_2 : List (S78)) : spec_FollowPairs.fv a0_0 l0_1 l0_2 a1_0 l1_1 l1_2 = (some (([] : List (List Int)) : List (List Int))).bind fun y362 => ((spec_IsMachine.fv a0_0 l0_1 l0_2).bind fun t365 => (if t365 = true then ((spec_IsMachine.fv a1_0 l1_1 l1_2).bind fun t366 => (spec_FollowPairs.j0v y362 (!t366) a0_0 l0_1 l0_2 a1_0 l1_1 l1_2)) else (spec_FollowPairs.j0v y362 true a0_0 l0_1 l0_2 a1_0 l1_1 l1_2))) := by
  refine Is.lim (g := fun k => spec_FollowPairs.f k a0_0 l0_1 l0_2 a1_0 l1_1 l1_2) ?_
  · unfold spec_FollowPairs.f
    repeat' first
    | with_reducible exact spec_FollowPairs.j0_is _ _ _ _ _ _ _ _
    | with_reducible exact spec_IsMachine.f_is _ _ _
    | with_reducible exact Is.now _
    | with_reducible refine Is.ite ?_ ?_
    | with_reducible refine Is.bind ?_ (fun _ => ?_)
end Go.Proofs.Ytldcchjbaglppaa.Print

/- Written by a program of this session (limx.py): the equations of what the printed functions come to. No condition. -/
namespace Go.Proofs.Ytldcchjbaglppaa.Print
open Go.RowKit Go.Proofs.YtldcchjbaglppaaW.PrintWords Go.Proofs.YtldcchjbaglppaaW.PrintLast Go.Proofs.Ytldcchjbaglppaa.Base
set_option linter.unusedVariables false
set_option maxRecDepth 20000
noncomputable def spec_Follows.j0v (x14 : Bool) (x421000 : Int) (x421001 : List Bool) (x421002 : List (S78)) (x422000 : Int) (x422001 : List Bool) (x422002 : List (S78)) : Option (Bool) := Lim fun k => spec_Follows.j0 k x14 x421000 x421001 x421002 x422000 x422001 x422002
noncomputable def spec_Follows.l0v (x5 : List (List Int)) (x6 : Int) (x421000 : Int) (x421001 : List Bool) (x421002 : List (S78)) (x422000 : Int) (x422001 : List Bool) (x422002 : List (S78)) : Option (Bool) := Lim fun k => spec_Follows.l0 k x5 x6 x421000 x421001 x421002 x422000 x422001 x422002
noncomputable def spec_Follows.fv (a0_0 : Int) (l0_1 : List Bool) (l0_2 : List (S78)) (a1_0 : Int) (l1_1 : List Bool) (l1_2 : List (S78)) : Option (Bool) := Lim fun k => spec_Follows.f k a0_0 l0_1 l0_2 a1_0 l1_1 l1_2
theorem spec_Follows.j0_is (x14 : Bool) (x421000 : Int) (x421001 : List Bool) (x421002 : List (S78)) (x422000 : Int) (x422001 : List Bool) (x422002 : List (S78)) : Is (fun k => spec_Follows.j0 k x14 x421000 x421001 x421002 x422000 x422001 x422002) (spec_Follows.j0v x14 x421000 x421001 x421002 x422000 x422001 x422002) := ⟨fun k => (spec_Follows.mono_l k).1 x14 x421000 x421001 x421002 x422000 x422001 x422002, rfl⟩
theorem spec_Follows.l0_is (x5 : List (List Int)) (x6 : Int) (x421000 : Int) (x421001 : List Bool) (x421002 : List (S78)) (x422000 : Int) (x422001 : List Bool) (x422002 : List (S78)) : Is (fun k => spec_Follows.l0 k x5 x6 x421000 x421001 x421002 x422000 x422001 x422002) (spec_Follows.l0v x5 x6 x421000 x421001 x421002 x422000 x422001 x422002) := ⟨fun k => (spec_Follows.mono_l k).2 x5 x6 x421000 x421001 x421002 x422000 x422001 x422002, rfl⟩
theorem spec_Follows.f_is (a0_0 : Int) (l0_1 : List Bool) (l0_2 : List (S78)) (a1_0 : Int) (l1_1 : List Bool) (l1_2 : List (S78)) : Is (fun k => spec_Follows.f k a0_0 l0_1 l0_2 a1_0 l1_1 l1_2) (spec_Follows.fv a0_0 l0_1 l0_2 a1_0 l1_1 l1_2) := ⟨fun k => spec_Follows.mono a0_0 l0_1 l0_2 a1_0 l1_1 l1_2 k, rfl⟩
theorem spec_Follows.j0v_eq (x14 : Bool) (x421000 : Int) (x421001 : List Bool) (x421002 : List (S78)) (x422000 : Int) (x422001 : List Bool) (x422002 : List (S78)) : spec_Follows.j0v x14 x421000 x421001 x421002 x422000 x422001 x422002 = if x14 = true then (some false) else ((spec_FollowPairs.fv x421000 x421001 x421002 x422000 x422001 x422002).bind fun t424 => (spec_Follows.l0v t424 0 x421000 x421001 x421002 x422000 x422001 x422002)) := by
  refine Is.step (spec_Follows.j0_is x14 x421000 x421001 x421002 x422000 x422001 x422002).mo (fun k => by rw [spec_Follows.j0]) ?_
  · skip
    repeat' first
    | with_reducible exact spec_FollowPairs.f_is _ _ _ _ _ _
    | with_reducible exact spec_Follows.l0_is _ _ _ _ _ _ _ _
    | with_reducible exact Is.now _
    | with_reducible refine Is.ite ?_ ?_
    | with_reducible refine Is.bind ?_ (fun _ => ?_)
theorem spec_Follows.l0v_eq (x5 : List (List Int)) (x6 : Int) (x421000 : Int) (x421001 : List Bool) (x421002 : List (S78)) (x422000 : Int) (x422001 : List Bool) (x422002 : List (S78)) : spec_Follows.l0v x5 x6 x421000 x421001 x421002 x422000 x422001 x422002 = if x6 < (x5.length : Int) then (if 0 ≤ x6 then (if 0 < ((rd_L9 x5 x6).length : Int) then (if 1 < ((rd_L9 x5 x6).length : Int) then ((spec_FollowsAt.fv x421000 x421001 x421002 x422000 x422001 x422002 (rd (rd_L9 x5 x6) 0) (rd (rd_L9 x5 x6) 1)).bind fun t431 => (if t431 = true then (spec_Follows.l0v x5 (wrap64 (x6 + 1)) x421000 x421001 x421002 x422000 x422001 x422002) else (some false))) else (none)) else (none)) else (none)) else (some true) := by
  refine Is.step (spec_Follows.l0_is x5 x6 x421000 x421001 x421002 x422000 x422001 x422002).mo (fun k => by rw [spec_Follows.l0]) ?_
  · skip
    repeat' first
    | with_reducible exact spec_Follows.l0_is _ _ _ _ _ _ _ _
    | with_reducible exact spec_FollowsAt.f_is _ _ _ _ _ _ _ _
    | with_reducible exact Is.now _
    | with_reducible refine Is.ite ?_ ?_
    | with_reducible refine Is.bind ?_ (fun _ => ?_)
theorem spec_Follows.fv_eq (a0_0 : Int) (l0_1 : List Bool) (l0_2 : List (S78)) (a1_0 : Int) (l1_1 : List Bool) (l1_2 : List (S78)) : spec_Follows.fv a0_0 l0_1 l0_2 a1_0 l1_1 l1_2 = (spec_IsMachine.fv a0_0 l0_1 l0_2).bind fun t422 => (if t422 = true then ((spec_IsMachine.fv a1_0 l1_1 l1_2).bind fun t423 => (spec_Follows.j0v (!t423) a0_0 l0_1 l0_2 a1_0 l1_1 l1_2)) else (spec_Follows.j0v true a0_0 l0_1 l0_2 a1_0 l1_1 l1_2)) := by
  refine Is.lim (g := fun k => spec_Follows.f k a0_0 l0_1 l0_2 a1_0 l1_1 l1_2) ?_
  · unfold spec_Follows.f
    repeat' first
    | with_reducible exact spec_Follows.j0_is _ _ _ _ _ _ _
    | with_reducible exact spec_IsMachine.f_is _ _ _
    | with_reducible exact Is.now _
    | with_reducible refine Is.ite ?_ ?_
    | with_reducible refine Is.bind ?_ (fun _ => ?_)
noncomputable def spec_BreaksAt.l0v (x0 : List (S34)) (x3 : Int) : Option (Int) := Lim fun k => spec_BreaksAt.l0 k x0 x3
noncomputable def spec_BreaksAt.fv (l0 : List (S34)) : Option (Int) := Lim fun k => spec_BreaksAt.f k l0
theorem spec_BreaksAt.l0_is (x0 : List (S34)) (x3 : Int) : Is (fun k => spec_BreaksAt.l0 k x0 x3) (spec_BreaksAt.l0v x0 x3) := ⟨fun k => (spec_BreaksAt.mono_l k) x0 x3, rfl⟩
theorem spec_BreaksAt.f_is (l0 : List (S34)) : Is (fun k => spec_BreaksAt.f k l0) (spec_BreaksAt.fv l0) := ⟨fun k => spec_BreaksAt.mono l0 k, rfl⟩
theorem spec_BreaksAt.l0v_eq (x0 : List (S34)) (x3 : Int) : spec_BreaksAt.l0v x0 x3 = if x3 < (x0.length : Int) then (if 0 ≤ x3 then (if 0 ≤ (wrap64 (x3 - 1)) then (if (wrap64 (x3 - 1)) < (x0.length : Int) then ((spec_Follows.fv ((rd_T34 x0 x3).f0) ((rd_T34 x0 x3).f1) ((rd_T34 x0 x3).f2) ((rd_T34 x0 (wrap64 (x3 - 1))).f0) ((rd_T34 x0 (wrap64 (x3 - 1))).f1) ((rd_T34 x0 (wrap64 (x3 - 1))).f2)).bind fun t434 => (if t434 = true then (spec_BreaksAt.l0v x0 (wrap64 (x3 + 1))) else (some x3))) else (none)) else (none)) else (none)) else (some (-1)) := by
  refine Is.step (spec_BreaksAt.l0_is x0 x3).mo (fun k => by rw [spec_BreaksAt.l0]) ?_
  · skip
    repeat' first
    | with_reducible exact spec_BreaksAt.l0_is _ _
    | with_reducible exact spec_Follows.f_is _ _ _ _ _ _
    | with_reducible exact Is.now _
    | with_reducible refine Is.ite ?_ ?_
    | with_reducible refine Is.bind ?_ (fun _ => ?_)
theorem spec_BreaksAt.fv_eq (l0 : List (S34)) : spec_BreaksAt.fv l0 = spec_BreaksAt.l0v l0 1 := by
  refine Is.lim (g := fun k => spec_BreaksAt.f k l0) ?_
  · unfold spec_BreaksAt.f
    repeat' first
    | with_reducible exact spec_BreaksAt.l0_is _ _
    | with_reducible exact Is.now _
    | with_reducible refine Is.ite ?_ ?_
    | with_reducible refine Is.bind ?_ (fun _ => ?_)
end Go.Proofs.Ytldcchjbaglppaa.Print

/- Written by a program of this session (limx.py): the equations of what the printed functions come to. No condition. -/
namespace Go.Proofs.Ytldcchjbaglppaa.Print
open Go.RowKit Go.Proofs.YtldcchjbaglppaaW.PrintWords Go.Proofs.YtldcchjbaglppaaW.PrintLast Go.Proofs.Ytldcchjbaglppaa.Base
set_option linter.unusedVariables false
set_option maxRecDepth 20000
noncomputable def spec_FarFollows.fv (l0 : List (S34)) (a1 : Int) (a2 : Int) : Option (Bool) := Lim fun k => spec_FarFollows.f k l0 a1 a2
theorem spec_FarFollows.f_is (l0 : List (S34)) (a1 : Int) (a2 : Int) : Is (fun k => spec_FarFollows.f k l0 a1 a2) (spec_FarFollows.fv l0 a1 a2) := ⟨fun k => spec_FarFollows.mono l0 a1 a2 k, rfl⟩
theorem spec_FarFollows.fv_eq (l0 : List (S34)) (a1 : Int) (a2 : Int) : spec_FarFollows.fv l0 a1 a2 = (spec_l1In.f a1 0 (wrap64 ((l0.length : Int) - 1))).bind fun t448 => (if t448 = true then ((spec_l1In.f a2 a1 (wrap64 ((l0.length : Int) - 1))).bind fun t449 => (if t449 = true then (if 0 ≤ a2 then (if a2 < (l0.length : Int) then (if 0 ≤ a1 then (if a1 < (l0.length : Int) then ((spec_Follows.fv ((rd_T34 l0 a2).f0) ((rd_T34 l0 a2).f1) ((rd_T34 l0 a2).f2) ((rd_T34 l0 a1).f0) ((rd_T34 l0 a1).f1) ((rd_T34 l0 a1).f2)).bind fun t452 => (some t452)) else (none)) else (none)) else (none)) else (none)) else (some false))) else (some false)) := by
  refine Is.lim (g := fun k => spec_FarFollows.f k l0 a1 a2) ?_
  · unfold spec_FarFollows.f
    repeat' first
    | with_reducible exact spec_Follows.f_is _ _ _ _ _ _
    | with_reducible exact Is.now _
    | with_reducible refine Is.ite ?_ ?_
    | with_reducible refine Is.bind ?_ (fun _ => ?_)
noncomputable def impl_FarFollows.fv (l0 : List (S34)) (a1 : Int) (a2 : Int) : Option (Bool) := Lim fun k => impl_FarFollows.f k l0 a1 a2
theorem impl_FarFollows.f_is (l0 : List (S34)) (a1 : Int) (a2 : Int) : Is (fun k => impl_FarFollows.f k l0 a1 a2) (impl_FarFollows.fv l0 a1 a2) := ⟨fun k => impl_FarFollows.mono l0 a1 a2 k, rfl⟩
theorem impl_FarFollows.fv_eq (l0 : List (S34)) (a1 : Int) (a2 : Int) : impl_FarFollows.fv l0 a1 a2 = (impl_InRange.f a1 0 a2).bind fun t453 => (if t453 = true then (if a2 < (l0.length : Int) then (if 0 ≤ a2 then (if 0 ≤ a1 then (if a1 < (l0.length : Int) then ((impl_Follows.fv ((rd_T34 l0 a2).f0) ((rd_T34 l0 a2).f1) ((rd_T34 l0 a2).f2) ((rd_T34 l0 a1).f0) ((rd_T34 l0 a1).f1) ((rd_T34 l0 a1).f2)).bind fun t456 => (some t456)) else (none)) else (none)) else (none)) else (some false)) else (some false)) := by
  refine Is.lim (g := fun k => impl_FarFollows.f k l0 a1 a2) ?_
  · unfold impl_FarFollows.f
    repeat' first
    | with_reducible exact impl_Follows.f_is _ _ _ _ _ _
    | with_reducible exact Is.now _
    | with_reducible refine Is.ite ?_ ?_
    | with_reducible refine Is.bind ?_ (fun _ => ?_)
end Go.Proofs.Ytldcchjbaglppaa.Print

/- Written by a program of this session (limx.py): the equations of what the printed functions come to. No condition. -/
namespace Go.Proofs.Ytldcchjbaglppaa.Print
open Go.RowKit Go.Proofs.YtldcchjbaglppaaW.PrintWords Go.Proofs.YtldcchjbaglppaaW.PrintLast Go.Proofs.Ytldcchjbaglppaa.Base
set_option linter.unusedVariables false
set_option maxRecDepth 20000
noncomputable def laws_FnExactFarFollows.fv (l0 : List (S26)) (a1 : Int) (a2 : Int) : Option (Bool) := Lim fun k => laws_FnExactFarFollows.f k l0 a1 a2
theorem laws_FnExactFarFollows.f_is (l0 : List (S26)) (a1 : Int) (a2 : Int) : Is (fun k => laws_FnExactFarFollows.f k l0 a1 a2) (laws_FnExactFarFollows.fv l0 a1 a2) := ⟨fun k => laws_FnExactFarFollows.mono l0 a1 a2 k, rfl⟩
theorem laws_FnExactFarFollows.fv_eq (l0 : List (S26)) (a1 : Int) (a2 : Int) : laws_FnExactFarFollows.fv l0 a1 a2 = (laws_szMachineS.fv l0 1048576).bind fun t457 => (if t457 < 0 then (some true) else ((laws_toMachineS.fv l0).bind fun t458 => ((spec_FarFollows.fv t458 a1 a2).bind fun t461 => ((laws_toMachineS.fv l0).bind fun t462 => ((impl_FarFollows.fv t462 a1 a2).bind fun t465 => (if (t465 != t461) = true then (some false) else ((laws_toMachineS.fv l0).bind fun t466 => ((laws_eqMachineS.fv t462 t466).bind fun t469 => (if t469 = true then (some true) else (some false)))))))))) := by
  refine Is.lim (g := fun k => laws_FnExactFarFollows.f k l0 a1 a2) ?_
  · unfold laws_FnExactFarFollows.f
    repeat' first
    | with_reducible exact impl_FarFollows.f_is _ _ _
    | with_reducible exact laws_eqMachineS.f_is _ _
    | with_reducible exact laws_szMachineS.f_is _ _
    | with_reducible exact laws_toMachineS.f_is _
    | with_reducible exact spec_FarFollows.f_is _ _ _
    | with_reducible exact Is.now _
    | with_reducible refine Is.ite ?_ ?_
    | with_reducible refine Is.bind ?_ (fun _ => ?_)
end Go.Proofs.Ytldcchjbaglppaa.Print
