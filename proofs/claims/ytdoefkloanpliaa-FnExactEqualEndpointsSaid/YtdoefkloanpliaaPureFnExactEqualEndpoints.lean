/- FnExactEqualEndpoints: whatever the two endpoints, the program's EqualEndpoints and the reference's EqualEndpoints return the same and leave the endpoints as they were. No condition. -/
import Derived.Test.YtdoefkloanpliaaWWords
import Derived.Test.YtdoefkloanpliaaPrint2
import Derived.Test.YtdoefkloanpliaaPrint1
import Derived.Test.YtdoefkloanpliaaPrint3
import Derived.Test.YtdoefkloanpliaaPrint10
import Derived.Test.YtdoefkloanpliaaPrint11
import Derived.Test.YtdoefkloanpliaaPrint12
import Derived.Test.YtdoefkloanpliaaPrint8
import Derived.Test.YtdoefkloanpliaaPrint6
import Derived.Test.YtdoefkloanpliaaPrint7
import Derived.Test.YtdoefkloanpliaaPrint13
import Derived.Test.YtdoefkloanpliaaPrint14
import Derived.Test.YtdoefkloanpliaaPrint33
/- What a function with rounds comes to when it has rounds enough, as an option: its equations hold without rounds. No condition. -/
namespace Go.Proofs.Ytdoefkloanpliaa.Base
open Go.RowKit Go.Proofs.YtdoefkloanpliaaW.PrintWords

/-- More rounds tell the same. -/
def Mo {α : Type} (g : Nat → Option α) : Prop := ∀ k, LeO (g k) (g (k + 1))
theorem mo_le {α : Type} {g : Nat → Option α} (h : Mo g) {k k' : Nat} (hk : k ≤ k') {r : α} (hr : g k = some r) : g k' = some r := at_rounds h hk hr
open Classical in
/-- What it comes to at last: nothing, or one answer. -/
noncomputable def Lim {α : Type} (g : Nat → Option α) : Option α := if h : ∃ r, ∃ k, g k = some r then some (Classical.choose h) else none
theorem lim_some {α : Type} {g : Nat → Option α} (h : Mo g) {k : Nat} {r : α} (hr : g k = some r) : Lim g = some r := by
  have hx : ∃ r, ∃ k, g k = some r := ⟨r, k, hr⟩
  unfold Lim
  rw [dif_pos hx]
  obtain ⟨k', hk'⟩ := Classical.choose_spec hx
  have h1 := mo_le h (Nat.le_max_left k k') hr
  have h2 := mo_le h (Nat.le_max_right k k') hk'
  rw [h1] at h2
  exact h2.symm
theorem of_lim {α : Type} {g : Nat → Option α} {r : α} (h : Lim g = some r) : ∃ k, g k = some r := by
  unfold Lim at h
  split at h
  · rename_i hx
    obtain rfl := Option.some.inj h
    exact Classical.choose_spec hx
  · cases h
theorem lim_none {α : Type} {g : Nat → Option α} (h : Lim g = none) (k : Nat) : g k = none := by
  cases hk : g k with
  | none => rfl
  | some r =>
    unfold Lim at h
    rw [dif_pos ⟨r, k, hk⟩] at h
    cases h
theorem none_lim {α : Type} {g : Nat → Option α} (h : ∀ k, g k = none) : Lim g = none := by
  unfold Lim
  rw [dif_neg]
  rintro ⟨r, k, hk⟩
  rw [h k] at hk
  cases hk
structure Is {α : Type} (g : Nat → Option α) (v : Option α) : Prop where
  mo : Mo g
  lim : Lim g = v
theorem Is.now {α : Type} (v : Option α) : Is (fun _ => v) v := by
  refine ⟨fun _ => LeO.refl _, ?_⟩
  cases v with
  | none => exact none_lim fun _ => rfl
  | some r => exact lim_some (g := fun _ => some r) (fun _ => LeO.refl _) (k := 0) rfl
theorem Is.ite {α : Type} {c : Prop} [Decidable c] {g h : Nat → Option α} {a b : Option α} (hg : Is g a) (hh : Is h b) : Is (fun k => if c then g k else h k) (if c then a else b) := by
  by_cases hc : c
  · simp only [if_pos hc]
    exact hg
  · simp only [if_neg hc]
    exact hh
theorem Is.bind {α β : Type} {g : Nat → Option α} {f : Nat → α → Option β} {a : Option α} {b : α → Option β} (hg : Is g a) (hf : ∀ x, Is (fun k => f k x) (b x)) : Is (fun k => (g k).bind (f k)) (a.bind b) := by
  have hm : Mo (fun k => (g k).bind (f k)) := fun k => LeO.bind (hg.mo k) (fun x => (hf x).mo k)
  refine ⟨hm, ?_⟩
  cases ha : a with
  | none =>
    refine none_lim fun k => ?_
    rw [lim_none (hg.lim.trans ha) k]
    rfl
  | some x =>
    obtain ⟨k, hk⟩ := of_lim (hg.lim.trans ha)
    show _ = b x
    cases hb : b x with
    | none =>
      refine none_lim fun k' => ?_
      cases hx : (g k').bind (f k') with
      | none => rfl
      | some r =>
        have h1 := mo_le hm (Nat.le_max_left k' k) hx
        have h2 := mo_le hg.mo (Nat.le_max_right k' k) hk
        simp only [h2, Option.bind_some] at h1
        rw [lim_none ((hf x).lim.trans hb)] at h1
        cases h1
    | some r =>
      obtain ⟨k', hk'⟩ := of_lim ((hf x).lim.trans hb)
      refine lim_some hm (k := max k k') ?_
      simp only [mo_le hg.mo (Nat.le_max_left k k') hk, Option.bind_some]
      exact mo_le (hf x).mo (Nat.le_max_right k k') hk'
theorem Is.step {α : Type} {g b : Nat → Option α} {v : Option α} (hg : Mo g) (h : ∀ k, g (k + 1) = b k) (hb : Is b v) : Lim g = v := by
  rw [← hb.lim]
  cases hx : Lim g with
  | none =>
    symm
    refine none_lim fun k => ?_
    rw [← h k]
    exact lim_none hx _
  | some r =>
    obtain ⟨k, hk⟩ := of_lim hx
    symm
    refine lim_some hb.mo (k := k) ?_
    rw [← h k]
    exact mo_le hg (Nat.le_succ k) hk
theorem ends {α : Type} {g : Nat → Option α} {r : α} (h : Lim g = some r) : ∃ k, g k = some r := of_lim h
end Go.Proofs.Ytdoefkloanpliaa.Base

/- Lists read by a whole number's index, and whole numbers that fit. No condition. -/
set_option linter.unusedSimpArgs false
set_option linter.unusedVariables false
namespace Go.Proofs.Ytdoefkloanpliaa.Plain
open Go.RowKit Go.Proofs.YtdoefkloanpliaaW.PrintWords

theorem w64 {x : Int} (h0 : -9223372036854775808 ≤ x) (h1 : x ≤ 9223372036854775807) : wrap64 x = x := by
  unfold wrap64
  omega
theorem rd_mid (pre suf : List Int) (x : Int) : rd (pre ++ x :: suf) (pre.length : Int) = x := by simp [rd]
theorem lt_mid {α : Type} (pre suf : List α) (x : α) : (pre.length : Int) < ((pre ++ x :: suf).length : Int) := by
  simp
  omega
theorem nlt_end {α : Type} (pre : List α) : ¬ (pre.length : Int) < ((pre ++ []).length : Int) := by simp
theorem up_mid {α : Type} (pre : List α) (x : α) {n : Nat} (h : pre.length < n) (hn : n ≤ 1000000000000) : wrap64 ((pre.length : Int) + 1) = ((pre ++ [x]).length : Int) := by
  rw [w64 (by omega) (by omega)]
  simp
theorem set_mid {α : Type} (pre suf : List α) (x y : α) : (pre ++ x :: suf).set (pre.length : Int).toNat y = (pre ++ [y]) ++ suf := by
  rw [Int.toNat_natCast, List.set_append_right _ _ (Nat.le_refl _), Nat.sub_self]
  simp
theorem mid_snoc {α : Type} (pre suf : List α) (x : α) : pre ++ x :: suf = (pre ++ [x]) ++ suf := by simp
theorem beq_ints (a b : List Int) : (a == b) = decide (a = b) := by
  by_cases h : a = b <;> simp [h]
end Go.Proofs.Ytdoefkloanpliaa.Plain

/- Written by a program of this session (limx.py): the equations of what the printed functions come to. No condition. -/
namespace Go.Proofs.Ytdoefkloanpliaa.Print
open Go.RowKit Go.Proofs.YtdoefkloanpliaaW.PrintWords Go.Proofs.YtdoefkloanpliaaW.PrintLast Go.Proofs.Ytdoefkloanpliaa.Base
set_option linter.unusedVariables false
set_option maxRecDepth 20000
noncomputable def laws_szIntSS.l0v (x0 : List (List Int)) (x1 : Int) (x5 : Int) : Option (Int) := Lim fun k => laws_szIntSS.l0 k x0 x1 x5
noncomputable def laws_szIntSS.fv (l0 : List (List Int)) (a1 : Int) : Option (Int) := Lim fun k => laws_szIntSS.f k l0 a1
theorem laws_szIntSS.l0_is (x0 : List (List Int)) (x1 : Int) (x5 : Int) : Is (fun k => laws_szIntSS.l0 k x0 x1 x5) (laws_szIntSS.l0v x0 x1 x5) := ⟨fun k => (laws_szIntSS.mono_l k) x0 x1 x5, rfl⟩
theorem laws_szIntSS.f_is (l0 : List (List Int)) (a1 : Int) : Is (fun k => laws_szIntSS.f k l0 a1) (laws_szIntSS.fv l0 a1) := ⟨fun k => laws_szIntSS.mono l0 a1 k, rfl⟩
theorem laws_szIntSS.l0v_eq (x0 : List (List Int)) (x1 : Int) (x5 : Int) : laws_szIntSS.l0v x0 x1 x5 = if x5 < (x0.length : Int) then (if 0 ≤ x5 then ((laws_szIntS.f (rd_L1 x0 x5) x1).bind fun t102 => (if t102 < 0 then (some (-1)) else (laws_szIntSS.l0v x0 t102 (wrap64 (x5 + 1))))) else (none)) else (some x1) := by
  refine Is.step (laws_szIntSS.l0_is x0 x1 x5).mo (fun k => by rw [laws_szIntSS.l0]) ?_
  · skip
    repeat' first
    | with_reducible exact laws_szIntSS.l0_is _ _ _
    | with_reducible exact Is.now _
    | with_reducible refine Is.ite ?_ ?_
    | with_reducible refine Is.bind ?_ (fun _ => ?_)
theorem laws_szIntSS.fv_eq (l0 : List (List Int)) (a1 : Int) : laws_szIntSS.fv l0 a1 = if (wrap64 (a1 - (l0.length : Int))) < 0 then (some (-1)) else (laws_szIntSS.l0v l0 (wrap64 (a1 - (l0.length : Int))) 0) := by
  refine Is.lim (g := fun k => laws_szIntSS.f k l0 a1) ?_
  · unfold laws_szIntSS.f
    repeat' first
    | with_reducible exact laws_szIntSS.l0_is _ _ _
    | with_reducible exact Is.now _
    | with_reducible refine Is.ite ?_ ?_
    | with_reducible refine Is.bind ?_ (fun _ => ?_)
noncomputable def spec_AreVersions.l0v (x0 : List Int) (x3 : Int) : Option (Bool) := Lim fun k => spec_AreVersions.l0 k x0 x3
noncomputable def spec_AreVersions.fv (l0 : List Int) : Option (Bool) := Lim fun k => spec_AreVersions.f k l0
theorem spec_AreVersions.l0_is (x0 : List Int) (x3 : Int) : Is (fun k => spec_AreVersions.l0 k x0 x3) (spec_AreVersions.l0v x0 x3) := ⟨fun k => (spec_AreVersions.mono_l k) x0 x3, rfl⟩
theorem spec_AreVersions.f_is (l0 : List Int) : Is (fun k => spec_AreVersions.f k l0) (spec_AreVersions.fv l0) := ⟨fun k => spec_AreVersions.mono l0 k, rfl⟩
theorem spec_AreVersions.l0v_eq (x0 : List Int) (x3 : Int) : spec_AreVersions.l0v x0 x3 = if x3 < (x0.length : Int) then (if 0 ≤ x3 then ((spec_l1In.f (rd x0 x3) 1 9).bind fun t104 => (if t104 = true then (if x3 > 0 then (if 0 ≤ (wrap64 (x3 - 1)) then (if (wrap64 (x3 - 1)) < (x0.length : Int) then (if (rd x0 (wrap64 (x3 - 1))) ≥ (rd x0 x3) then (some false) else (spec_AreVersions.l0v x0 (wrap64 (x3 + 1)))) else (none)) else (none)) else (spec_AreVersions.l0v x0 (wrap64 (x3 + 1)))) else (some false))) else (none)) else (some (decide ((x0.length : Int) > 0))) := by
  refine Is.step (spec_AreVersions.l0_is x0 x3).mo (fun k => by rw [spec_AreVersions.l0]) ?_
  · skip
    repeat' first
    | with_reducible exact spec_AreVersions.l0_is _ _
    | with_reducible exact Is.now _
    | with_reducible refine Is.ite ?_ ?_
    | with_reducible refine Is.bind ?_ (fun _ => ?_)
theorem spec_AreVersions.fv_eq (l0 : List Int) : spec_AreVersions.fv l0 = spec_AreVersions.l0v l0 0 := by
  refine Is.lim (g := fun k => spec_AreVersions.f k l0) ?_
  · unfold spec_AreVersions.f
    repeat' first
    | with_reducible exact spec_AreVersions.l0_is _ _
    | with_reducible exact Is.now _
    | with_reducible refine Is.ite ?_ ?_
    | with_reducible refine Is.bind ?_ (fun _ => ?_)
noncomputable def spec_l9Has.l0v (x0 : List Int) (x1 : Int) (x5 : Int) : Option (Bool) := Lim fun k => spec_l9Has.l0 k x0 x1 x5
noncomputable def spec_l9Has.fv (l0 : List Int) (a1 : Int) : Option (Bool) := Lim fun k => spec_l9Has.f k l0 a1
theorem spec_l9Has.l0_is (x0 : List Int) (x1 : Int) (x5 : Int) : Is (fun k => spec_l9Has.l0 k x0 x1 x5) (spec_l9Has.l0v x0 x1 x5) := ⟨fun k => (spec_l9Has.mono_l k) x0 x1 x5, rfl⟩
theorem spec_l9Has.f_is (l0 : List Int) (a1 : Int) : Is (fun k => spec_l9Has.f k l0 a1) (spec_l9Has.fv l0 a1) := ⟨fun k => spec_l9Has.mono l0 a1 k, rfl⟩
theorem spec_l9Has.l0v_eq (x0 : List Int) (x1 : Int) (x5 : Int) : spec_l9Has.l0v x0 x1 x5 = if x5 < (x0.length : Int) then (if 0 ≤ x5 then (if (rd x0 x5) = x1 then (some true) else (spec_l9Has.l0v x0 x1 (wrap64 (x5 + 1)))) else (none)) else (some false) := by
  refine Is.step (spec_l9Has.l0_is x0 x1 x5).mo (fun k => by rw [spec_l9Has.l0]) ?_
  · skip
    repeat' first
    | with_reducible exact spec_l9Has.l0_is _ _ _
    | with_reducible exact Is.now _
    | with_reducible refine Is.ite ?_ ?_
    | with_reducible refine Is.bind ?_ (fun _ => ?_)
theorem spec_l9Has.fv_eq (l0 : List Int) (a1 : Int) : spec_l9Has.fv l0 a1 = spec_l9Has.l0v l0 a1 0 := by
  refine Is.lim (g := fun k => spec_l9Has.f k l0 a1) ?_
  · unfold spec_l9Has.f
    repeat' first
    | with_reducible exact spec_l9Has.l0_is _ _ _
    | with_reducible exact Is.now _
    | with_reducible refine Is.ite ?_ ?_
    | with_reducible refine Is.bind ?_ (fun _ => ?_)
noncomputable def spec_CommonOf.l0v (x0 : List Int) (x1 : List Int) (x5 : List Int) (x6 : Int) : Option (List Int) := Lim fun k => spec_CommonOf.l0 k x0 x1 x5 x6
noncomputable def spec_CommonOf.fv (l0 : List Int) (l1 : List Int) : Option (List Int) := Lim fun k => spec_CommonOf.f k l0 l1
theorem spec_CommonOf.l0_is (x0 : List Int) (x1 : List Int) (x5 : List Int) (x6 : Int) : Is (fun k => spec_CommonOf.l0 k x0 x1 x5 x6) (spec_CommonOf.l0v x0 x1 x5 x6) := ⟨fun k => (spec_CommonOf.mono_l k) x0 x1 x5 x6, rfl⟩
theorem spec_CommonOf.f_is (l0 : List Int) (l1 : List Int) : Is (fun k => spec_CommonOf.f k l0 l1) (spec_CommonOf.fv l0 l1) := ⟨fun k => spec_CommonOf.mono l0 l1 k, rfl⟩
theorem spec_CommonOf.l0v_eq (x0 : List Int) (x1 : List Int) (x5 : List Int) (x6 : Int) : spec_CommonOf.l0v x0 x1 x5 x6 = if x6 < (x0.length : Int) then (if 0 ≤ x6 then ((spec_l9Has.fv x1 (rd x0 x6)).bind fun t112 => (if t112 = true then (if x5.length < 17592186044416 then (spec_CommonOf.l0v x0 x1 (x5 ++ [rd x0 x6]) (wrap64 (x6 + 1))) else (none)) else (spec_CommonOf.l0v x0 x1 x5 (wrap64 (x6 + 1))))) else (none)) else (some x5) := by
  refine Is.step (spec_CommonOf.l0_is x0 x1 x5 x6).mo (fun k => by rw [spec_CommonOf.l0]) ?_
  · skip
    repeat' first
    | with_reducible exact spec_CommonOf.l0_is _ _ _ _
    | with_reducible exact spec_l9Has.f_is _ _
    | with_reducible exact Is.now _
    | with_reducible refine Is.ite ?_ ?_
    | with_reducible refine Is.bind ?_ (fun _ => ?_)
theorem spec_CommonOf.fv_eq (l0 : List Int) (l1 : List Int) : spec_CommonOf.fv l0 l1 = spec_CommonOf.l0v l0 l1 (([] : List Int)) 0 := by
  refine Is.lim (g := fun k => spec_CommonOf.f k l0 l1) ?_
  · unfold spec_CommonOf.f
    repeat' first
    | with_reducible exact spec_CommonOf.l0_is _ _ _ _
    | with_reducible exact Is.now _
    | with_reducible refine Is.ite ?_ ?_
    | with_reducible refine Is.bind ?_ (fun _ => ?_)
noncomputable def spec_BestCommon.fv (l0 : List Int) (l1 : List Int) : Option (Int) := Lim fun k => spec_BestCommon.f k l0 l1
theorem spec_BestCommon.f_is (l0 : List Int) (l1 : List Int) : Is (fun k => spec_BestCommon.f k l0 l1) (spec_BestCommon.fv l0 l1) := ⟨fun k => spec_BestCommon.mono l0 l1 k, rfl⟩
theorem spec_BestCommon.fv_eq (l0 : List Int) (l1 : List Int) : spec_BestCommon.fv l0 l1 = (spec_CommonOf.fv l0 l1).bind fun t117 => ((spec_AreVersions.fv l0).bind fun t120 => (if t120 = true then ((spec_AreVersions.fv l1).bind fun t121 => (if t121 = true then (if (t117.length : Int) = 0 then (some 0) else (if 0 ≤ (wrap64 ((t117.length : Int) - 1)) then (if (wrap64 ((t117.length : Int) - 1)) < (t117.length : Int) then (some (rd t117 (wrap64 ((t117.length : Int) - 1)))) else (none)) else (none))) else (some 0))) else (some 0))) := by
  refine Is.lim (g := fun k => spec_BestCommon.f k l0 l1) ?_
  · unfold spec_BestCommon.f
    repeat' first
    | with_reducible exact spec_AreVersions.f_is _
    | with_reducible exact spec_CommonOf.f_is _ _
    | with_reducible exact Is.now _
    | with_reducible refine Is.ite ?_ ?_
    | with_reducible refine Is.bind ?_ (fun _ => ?_)
end Go.Proofs.Ytdoefkloanpliaa.Print

/- Written by a program of this session (limx.py): the equations of what the printed functions come to. No condition. -/
namespace Go.Proofs.Ytdoefkloanpliaa.Print
open Go.RowKit Go.Proofs.YtdoefkloanpliaaW.PrintWords Go.Proofs.YtdoefkloanpliaaW.PrintLast Go.Proofs.Ytdoefkloanpliaa.Base
set_option linter.unusedVariables false
set_option maxRecDepth 20000
noncomputable def spec_UseOf.l0v (x0 : List Int) (x1 : List (List Int)) (x2 : Int) (x7 : Int) (x8 : Int) : Option (Int) := Lim fun k => spec_UseOf.l0 k x0 x1 x2 x7 x8
noncomputable def spec_UseOf.j1v (x0 : List Int) (x1 : List (List Int)) (x2 : Int) (x7 : Int) (x8 : Int) (x16 : Bool) : Option (Int) := Lim fun k => spec_UseOf.j1 k x0 x1 x2 x7 x8 x16
noncomputable def spec_UseOf.fv (l0 : List Int) (l1 : List (List Int)) (a2 : Int) : Option (Int) := Lim fun k => spec_UseOf.f k l0 l1 a2
theorem spec_UseOf.l0_is (x0 : List Int) (x1 : List (List Int)) (x2 : Int) (x7 : Int) (x8 : Int) : Is (fun k => spec_UseOf.l0 k x0 x1 x2 x7 x8) (spec_UseOf.l0v x0 x1 x2 x7 x8) := ⟨fun k => (spec_UseOf.mono_l k).1 x0 x1 x2 x7 x8, rfl⟩
theorem spec_UseOf.j1_is (x0 : List Int) (x1 : List (List Int)) (x2 : Int) (x7 : Int) (x8 : Int) (x16 : Bool) : Is (fun k => spec_UseOf.j1 k x0 x1 x2 x7 x8 x16) (spec_UseOf.j1v x0 x1 x2 x7 x8 x16) := ⟨fun k => (spec_UseOf.mono_l k).2 x0 x1 x2 x7 x8 x16, rfl⟩
theorem spec_UseOf.f_is (l0 : List Int) (l1 : List (List Int)) (a2 : Int) : Is (fun k => spec_UseOf.f k l0 l1 a2) (spec_UseOf.fv l0 l1 a2) := ⟨fun k => spec_UseOf.mono l0 l1 a2 k, rfl⟩
theorem spec_UseOf.l0v_eq (x0 : List Int) (x1 : List (List Int)) (x2 : Int) (x7 : Int) (x8 : Int) : spec_UseOf.l0v x0 x1 x2 x7 x8 = if x8 < (x1.length : Int) then (spec_UseOf.j1v x0 x1 x2 x7 x8 (decide (x2 ≥ 1))) else (spec_UseOf.j1v x0 x1 x2 x7 x8 false) := by
  refine Is.step (spec_UseOf.l0_is x0 x1 x2 x7 x8).mo (fun k => by rw [spec_UseOf.l0]) ?_
  · skip
    repeat' first
    | with_reducible exact spec_UseOf.j1_is _ _ _ _ _ _
    | with_reducible exact Is.now _
    | with_reducible refine Is.ite ?_ ?_
    | with_reducible refine Is.bind ?_ (fun _ => ?_)
theorem spec_UseOf.j1v_eq (x0 : List Int) (x1 : List (List Int)) (x2 : Int) (x7 : Int) (x8 : Int) (x16 : Bool) : spec_UseOf.j1v x0 x1 x2 x7 x8 x16 = if x16 = true then (if 0 ≤ x8 then (if x8 < (x1.length : Int) then ((spec_BestCommon.fv x0 (rd_L1 x1 x8)).bind fun t124 => (if t124 = x2 then (spec_UseOf.l0v x0 x1 x2 (wrap64 (x7 + 1)) (wrap64 (x8 + 1))) else (spec_UseOf.l0v x0 x1 x2 x7 (wrap64 (x8 + 1))))) else (none)) else (none)) else (some x7) := by
  refine Is.step (spec_UseOf.j1_is x0 x1 x2 x7 x8 x16).mo (fun k => by rw [spec_UseOf.j1]) ?_
  · skip
    repeat' first
    | with_reducible exact spec_BestCommon.f_is _ _
    | with_reducible exact spec_UseOf.l0_is _ _ _ _ _
    | with_reducible exact Is.now _
    | with_reducible refine Is.ite ?_ ?_
    | with_reducible refine Is.bind ?_ (fun _ => ?_)
theorem spec_UseOf.fv_eq (l0 : List Int) (l1 : List (List Int)) (a2 : Int) : spec_UseOf.fv l0 l1 a2 = spec_UseOf.l0v l0 l1 a2 0 0 := by
  refine Is.lim (g := fun k => spec_UseOf.f k l0 l1 a2) ?_
  · unfold spec_UseOf.f
    repeat' first
    | with_reducible exact spec_UseOf.l0_is _ _ _ _ _
    | with_reducible exact Is.now _
    | with_reducible refine Is.ite ?_ ?_
    | with_reducible refine Is.bind ?_ (fun _ => ?_)
noncomputable def laws_toIntS.l0v (x0 : List Int) (x3 : List Int) (x4 : Int) : Option (List Int) := Lim fun k => laws_toIntS.l0 k x0 x3 x4
noncomputable def laws_toIntS.fv (l0 : List Int) : Option (List Int) := Lim fun k => laws_toIntS.f k l0
theorem laws_toIntS.l0_is (x0 : List Int) (x3 : List Int) (x4 : Int) : Is (fun k => laws_toIntS.l0 k x0 x3 x4) (laws_toIntS.l0v x0 x3 x4) := ⟨fun k => (laws_toIntS.mono_l k) x0 x3 x4, rfl⟩
theorem laws_toIntS.f_is (l0 : List Int) : Is (fun k => laws_toIntS.f k l0) (laws_toIntS.fv l0) := ⟨fun k => laws_toIntS.mono l0 k, rfl⟩
theorem laws_toIntS.l0v_eq (x0 : List Int) (x3 : List Int) (x4 : Int) : laws_toIntS.l0v x0 x3 x4 = if x4 < (x0.length : Int) then (if 0 ≤ x4 then (if x4 < (x3.length : Int) then (laws_toIntS.l0v x0 (x3.set (x4 : Int).toNat (rd x0 x4)) (wrap64 (x4 + 1))) else (none)) else (none)) else (some x3) := by
  refine Is.step (laws_toIntS.l0_is x0 x3 x4).mo (fun k => by rw [laws_toIntS.l0]) ?_
  · skip
    repeat' first
    | with_reducible exact laws_toIntS.l0_is _ _ _
    | with_reducible exact Is.now _
    | with_reducible refine Is.ite ?_ ?_
    | with_reducible refine Is.bind ?_ (fun _ => ?_)
theorem laws_toIntS.fv_eq (l0 : List Int) : laws_toIntS.fv l0 = if 0 ≤ (l0.length : Int) then (if ((l0.length : Int) : Int).toNat ≤ 35184372088832 then (laws_toIntS.l0v l0 (List.replicate ((l0.length : Int) : Int).toNat 0) 0) else (none)) else (none) := by
  refine Is.lim (g := fun k => laws_toIntS.f k l0) ?_
  · unfold laws_toIntS.f
    repeat' first
    | with_reducible exact laws_toIntS.l0_is _ _ _
    | with_reducible exact Is.now _
    | with_reducible refine Is.ite ?_ ?_
    | with_reducible refine Is.bind ?_ (fun _ => ?_)
noncomputable def laws_toIntSS.l0v (x0 : List (List Int)) (x3 : List (List Int)) (x4 : Int) : Option ((List (List Int))) := Lim fun k => laws_toIntSS.l0 k x0 x3 x4
noncomputable def laws_toIntSS.fv (l0 : List (List Int)) : Option ((List (List Int))) := Lim fun k => laws_toIntSS.f k l0
theorem laws_toIntSS.l0_is (x0 : List (List Int)) (x3 : List (List Int)) (x4 : Int) : Is (fun k => laws_toIntSS.l0 k x0 x3 x4) (laws_toIntSS.l0v x0 x3 x4) := ⟨fun k => (laws_toIntSS.mono_l k) x0 x3 x4, rfl⟩
theorem laws_toIntSS.f_is (l0 : List (List Int)) : Is (fun k => laws_toIntSS.f k l0) (laws_toIntSS.fv l0) := ⟨fun k => laws_toIntSS.mono l0 k, rfl⟩
theorem laws_toIntSS.l0v_eq (x0 : List (List Int)) (x3 : List (List Int)) (x4 : Int) : laws_toIntSS.l0v x0 x3 x4 = if x4 < (x0.length : Int) then (if 0 ≤ x4 then ((laws_toIntS.fv (rd_L1 x0 x4)).bind fun t134 => (if x4 < (x3.length : Int) then (laws_toIntSS.l0v x0 (x3.set (x4 : Int).toNat t134) (wrap64 (x4 + 1))) else (none))) else (none)) else (some x3) := by
  refine Is.step (laws_toIntSS.l0_is x0 x3 x4).mo (fun k => by rw [laws_toIntSS.l0]) ?_
  · skip
    repeat' first
    | with_reducible exact laws_toIntS.f_is _
    | with_reducible exact laws_toIntSS.l0_is _ _ _
    | with_reducible exact Is.now _
    | with_reducible refine Is.ite ?_ ?_
    | with_reducible refine Is.bind ?_ (fun _ => ?_)
theorem laws_toIntSS.fv_eq (l0 : List (List Int)) : laws_toIntSS.fv l0 = if 0 ≤ (l0.length : Int) then (if ((l0.length : Int) : Int).toNat ≤ 11728124029610 then (laws_toIntSS.l0v l0 (List.replicate ((l0.length : Int) : Int).toNat []) 0) else (none)) else (none) := by
  refine Is.lim (g := fun k => laws_toIntSS.f k l0) ?_
  · unfold laws_toIntSS.f
    repeat' first
    | with_reducible exact laws_toIntSS.l0_is _ _ _
    | with_reducible exact Is.now _
    | with_reducible refine Is.ite ?_ ?_
    | with_reducible refine Is.bind ?_ (fun _ => ?_)
noncomputable def impl_AreVersions.l0v (x0 : List Int) (x5 : List Int) (x6 : Int) (x7 : Int) : Option (Bool) := Lim fun k => impl_AreVersions.l0 k x0 x5 x6 x7
noncomputable def impl_AreVersions.fv (l0 : List Int) : Option (Bool) := Lim fun k => impl_AreVersions.f k l0
theorem impl_AreVersions.l0_is (x0 : List Int) (x5 : List Int) (x6 : Int) (x7 : Int) : Is (fun k => impl_AreVersions.l0 k x0 x5 x6 x7) (impl_AreVersions.l0v x0 x5 x6 x7) := ⟨fun k => (impl_AreVersions.mono_l k) x0 x5 x6 x7, rfl⟩
theorem impl_AreVersions.f_is (l0 : List Int) : Is (fun k => impl_AreVersions.f k l0) (impl_AreVersions.fv l0) := ⟨fun k => impl_AreVersions.mono l0 k, rfl⟩
theorem impl_AreVersions.l0v_eq (x0 : List Int) (x5 : List Int) (x6 : Int) (x7 : Int) : impl_AreVersions.l0v x0 x5 x6 x7 = if x7 < x6 then (if 0 ≤ x7 then (if x7 < (x5.length : Int) then ((impl_InRange.f (rd x5 x7) 1 9).bind fun t139 => (if t139 = true then (if x7 > 0 then (if 0 ≤ (wrap64 (x7 - 1)) then (if (wrap64 (x7 - 1)) < (x0.length : Int) then (if (rd x0 (wrap64 (x7 - 1))) ≥ (rd x5 x7) then (some false) else (impl_AreVersions.l0v x0 x5 x6 (wrap64 (x7 + 1)))) else (none)) else (none)) else (impl_AreVersions.l0v x0 x5 x6 (wrap64 (x7 + 1)))) else (some false))) else (none)) else (none)) else (some (decide ((x0.length : Int) > 0))) := by
  refine Is.step (impl_AreVersions.l0_is x0 x5 x6 x7).mo (fun k => by rw [impl_AreVersions.l0]) ?_
  · skip
    repeat' first
    | with_reducible exact impl_AreVersions.l0_is _ _ _ _
    | with_reducible exact Is.now _
    | with_reducible refine Is.ite ?_ ?_
    | with_reducible refine Is.bind ?_ (fun _ => ?_)
theorem impl_AreVersions.fv_eq (l0 : List Int) : impl_AreVersions.fv l0 = impl_AreVersions.l0v l0 l0 (l0.length : Int) 0 := by
  refine Is.lim (g := fun k => impl_AreVersions.f k l0) ?_
  · unfold impl_AreVersions.f
    repeat' first
    | with_reducible exact impl_AreVersions.l0_is _ _ _ _
    | with_reducible exact Is.now _
    | with_reducible refine Is.ite ?_ ?_
    | with_reducible refine Is.bind ?_ (fun _ => ?_)
noncomputable def slices_Index_int_int.l0v (x0 : List Int) (x1 : Int) (x7 : Int) (x8 : Int) : Option (Int) := Lim fun k => slices_Index_int_int.l0 k x0 x1 x7 x8
noncomputable def slices_Index_int_int.fv (l0 : List Int) (a1 : Int) : Option (Int) := Lim fun k => slices_Index_int_int.f k l0 a1
theorem slices_Index_int_int.l0_is (x0 : List Int) (x1 : Int) (x7 : Int) (x8 : Int) : Is (fun k => slices_Index_int_int.l0 k x0 x1 x7 x8) (slices_Index_int_int.l0v x0 x1 x7 x8) := ⟨fun k => (slices_Index_int_int.mono_l k) x0 x1 x7 x8, rfl⟩
theorem slices_Index_int_int.f_is (l0 : List Int) (a1 : Int) : Is (fun k => slices_Index_int_int.f k l0 a1) (slices_Index_int_int.fv l0 a1) := ⟨fun k => slices_Index_int_int.mono l0 a1 k, rfl⟩
theorem slices_Index_int_int.l0v_eq (x0 : List Int) (x1 : Int) (x7 : Int) (x8 : Int) : slices_Index_int_int.l0v x0 x1 x7 x8 = if x8 < x7 then (if 0 ≤ x8 then (if x8 < (x0.length : Int) then (if x1 = (rd x0 x8) then (some x8) else (slices_Index_int_int.l0v x0 x1 x7 (wrap64 (x8 + 1)))) else (none)) else (none)) else (some (-1)) := by
  refine Is.step (slices_Index_int_int.l0_is x0 x1 x7 x8).mo (fun k => by rw [slices_Index_int_int.l0]) ?_
  · skip
    repeat' first
    | with_reducible exact slices_Index_int_int.l0_is _ _ _ _
    | with_reducible exact Is.now _
    | with_reducible refine Is.ite ?_ ?_
    | with_reducible refine Is.bind ?_ (fun _ => ?_)
theorem slices_Index_int_int.fv_eq (l0 : List Int) (a1 : Int) : slices_Index_int_int.fv l0 a1 = slices_Index_int_int.l0v l0 a1 (l0.length : Int) 0 := by
  refine Is.lim (g := fun k => slices_Index_int_int.f k l0 a1) ?_
  · unfold slices_Index_int_int.f
    repeat' first
    | with_reducible exact slices_Index_int_int.l0_is _ _ _ _
    | with_reducible exact Is.now _
    | with_reducible refine Is.ite ?_ ?_
    | with_reducible refine Is.bind ?_ (fun _ => ?_)
noncomputable def slices_Contains_int_int.fv (l0 : List Int) (a1 : Int) : Option (Bool) := Lim fun k => slices_Contains_int_int.f k l0 a1
theorem slices_Contains_int_int.f_is (l0 : List Int) (a1 : Int) : Is (fun k => slices_Contains_int_int.f k l0 a1) (slices_Contains_int_int.fv l0 a1) := ⟨fun k => slices_Contains_int_int.mono l0 a1 k, rfl⟩
theorem slices_Contains_int_int.fv_eq (l0 : List Int) (a1 : Int) : slices_Contains_int_int.fv l0 a1 = (slices_Index_int_int.fv l0 a1).bind fun t142 => (some (decide (t142 ≥ 0))) := by
  refine Is.lim (g := fun k => slices_Contains_int_int.f k l0 a1) ?_
  · unfold slices_Contains_int_int.f
    repeat' first
    | with_reducible exact slices_Index_int_int.f_is _ _
    | with_reducible exact Is.now _
    | with_reducible refine Is.ite ?_ ?_
    | with_reducible refine Is.bind ?_ (fun _ => ?_)
end Go.Proofs.Ytdoefkloanpliaa.Print

/- Written by a program of this session (limx.py): the equations of what the printed functions come to. No condition. -/
namespace Go.Proofs.Ytdoefkloanpliaa.Print
open Go.RowKit Go.Proofs.YtdoefkloanpliaaW.PrintWords Go.Proofs.YtdoefkloanpliaaW.PrintLast Go.Proofs.Ytdoefkloanpliaa.Base
set_option linter.unusedVariables false
set_option maxRecDepth 20000
noncomputable def impl_CommonOf.l0v (x1 : List Int) (x5 : List Int) (x9 : List Int) (x10 : Int) (x11 : Int) : Option (List Int) := Lim fun k => impl_CommonOf.l0 k x1 x5 x9 x10 x11
noncomputable def impl_CommonOf.fv (l0 : List Int) (l1 : List Int) : Option (List Int) := Lim fun k => impl_CommonOf.f k l0 l1
theorem impl_CommonOf.l0_is (x1 : List Int) (x5 : List Int) (x9 : List Int) (x10 : Int) (x11 : Int) : Is (fun k => impl_CommonOf.l0 k x1 x5 x9 x10 x11) (impl_CommonOf.l0v x1 x5 x9 x10 x11) := ⟨fun k => (impl_CommonOf.mono_l k) x1 x5 x9 x10 x11, rfl⟩
theorem impl_CommonOf.f_is (l0 : List Int) (l1 : List Int) : Is (fun k => impl_CommonOf.f k l0 l1) (impl_CommonOf.fv l0 l1) := ⟨fun k => impl_CommonOf.mono l0 l1 k, rfl⟩
theorem impl_CommonOf.l0v_eq (x1 : List Int) (x5 : List Int) (x9 : List Int) (x10 : Int) (x11 : Int) : impl_CommonOf.l0v x1 x5 x9 x10 x11 = if x11 < x10 then (if 0 ≤ x11 then (if x11 < (x9.length : Int) then ((slices_Contains_int_int.fv x1 (rd x9 x11)).bind fun t147 => (if t147 = true then (if x5.length < 17592186044416 then (impl_CommonOf.l0v x1 (x5 ++ [rd x9 x11]) x9 x10 (wrap64 (x11 + 1))) else (none)) else (impl_CommonOf.l0v x1 x5 x9 x10 (wrap64 (x11 + 1))))) else (none)) else (none)) else (some x5) := by
  refine Is.step (impl_CommonOf.l0_is x1 x5 x9 x10 x11).mo (fun k => by rw [impl_CommonOf.l0]) ?_
  · skip
    repeat' first
    | with_reducible exact impl_CommonOf.l0_is _ _ _ _ _
    | with_reducible exact slices_Contains_int_int.f_is _ _
    | with_reducible exact Is.now _
    | with_reducible refine Is.ite ?_ ?_
    | with_reducible refine Is.bind ?_ (fun _ => ?_)
theorem impl_CommonOf.fv_eq (l0 : List Int) (l1 : List Int) : impl_CommonOf.fv l0 l1 = impl_CommonOf.l0v l1 (([] : List Int)) l0 (l0.length : Int) 0 := by
  refine Is.lim (g := fun k => impl_CommonOf.f k l0 l1) ?_
  · unfold impl_CommonOf.f
    repeat' first
    | with_reducible exact impl_CommonOf.l0_is _ _ _ _ _
    | with_reducible exact Is.now _
    | with_reducible refine Is.ite ?_ ?_
    | with_reducible refine Is.bind ?_ (fun _ => ?_)
noncomputable def impl_BestCommon.j0v (x0 : List Int) (x1 : List Int) (x15 : Bool) : Option (Int) := Lim fun k => impl_BestCommon.j0 k x0 x1 x15
noncomputable def impl_BestCommon.l0v (x5 : Int) (x18 : List Int) (x19 : Int) (x20 : Int) : Option (Int) := Lim fun k => impl_BestCommon.l0 k x5 x18 x19 x20
noncomputable def impl_BestCommon.fv (l0 : List Int) (l1 : List Int) : Option (Int) := Lim fun k => impl_BestCommon.f k l0 l1
theorem impl_BestCommon.j0_is (x0 : List Int) (x1 : List Int) (x15 : Bool) : Is (fun k => impl_BestCommon.j0 k x0 x1 x15) (impl_BestCommon.j0v x0 x1 x15) := ⟨fun k => (impl_BestCommon.mono_l k).1 x0 x1 x15, rfl⟩
theorem impl_BestCommon.l0_is (x5 : Int) (x18 : List Int) (x19 : Int) (x20 : Int) : Is (fun k => impl_BestCommon.l0 k x5 x18 x19 x20) (impl_BestCommon.l0v x5 x18 x19 x20) := ⟨fun k => (impl_BestCommon.mono_l k).2 x5 x18 x19 x20, rfl⟩
theorem impl_BestCommon.f_is (l0 : List Int) (l1 : List Int) : Is (fun k => impl_BestCommon.f k l0 l1) (impl_BestCommon.fv l0 l1) := ⟨fun k => impl_BestCommon.mono l0 l1 k, rfl⟩
theorem impl_BestCommon.j0v_eq (x0 : List Int) (x1 : List Int) (x15 : Bool) : impl_BestCommon.j0v x0 x1 x15 = if x15 = true then (some 0) else ((impl_CommonOf.fv x0 x1).bind fun t153 => (impl_BestCommon.l0v 0 t153 (t153.length : Int) 0)) := by
  refine Is.step (impl_BestCommon.j0_is x0 x1 x15).mo (fun k => by rw [impl_BestCommon.j0]) ?_
  · skip
    repeat' first
    | with_reducible exact impl_BestCommon.l0_is _ _ _ _
    | with_reducible exact impl_CommonOf.f_is _ _
    | with_reducible exact Is.now _
    | with_reducible refine Is.ite ?_ ?_
    | with_reducible refine Is.bind ?_ (fun _ => ?_)
theorem impl_BestCommon.l0v_eq (x5 : Int) (x18 : List Int) (x19 : Int) (x20 : Int) : impl_BestCommon.l0v x5 x18 x19 x20 = if x20 < x19 then (if 0 ≤ x20 then (if x20 < (x18.length : Int) then (impl_BestCommon.l0v (mx x5 (rd x18 x20)) x18 x19 (wrap64 (x20 + 1))) else (none)) else (none)) else (some x5) := by
  refine Is.step (impl_BestCommon.l0_is x5 x18 x19 x20).mo (fun k => by rw [impl_BestCommon.l0]) ?_
  · skip
    repeat' first
    | with_reducible exact impl_BestCommon.l0_is _ _ _ _
    | with_reducible exact Is.now _
    | with_reducible refine Is.ite ?_ ?_
    | with_reducible refine Is.bind ?_ (fun _ => ?_)
theorem impl_BestCommon.fv_eq (l0 : List Int) (l1 : List Int) : impl_BestCommon.fv l0 l1 = (impl_AreVersions.fv l0).bind fun t151 => (if t151 = true then ((impl_AreVersions.fv l1).bind fun t152 => (impl_BestCommon.j0v l0 l1 (!t152))) else (impl_BestCommon.j0v l0 l1 true)) := by
  refine Is.lim (g := fun k => impl_BestCommon.f k l0 l1) ?_
  · unfold impl_BestCommon.f
    repeat' first
    | with_reducible exact impl_AreVersions.f_is _
    | with_reducible exact impl_BestCommon.j0_is _ _ _
    | with_reducible exact Is.now _
    | with_reducible refine Is.ite ?_ ?_
    | with_reducible refine Is.bind ?_ (fun _ => ?_)
noncomputable def impl_UseOf.l0v (x0 : List Int) (x2 : Int) (x7 : Int) (x12 : List (List Int)) (x13 : Int) (x14 : Int) : Option (Int) := Lim fun k => impl_UseOf.l0 k x0 x2 x7 x12 x13 x14
noncomputable def impl_UseOf.fv (l0 : List Int) (l1 : List (List Int)) (a2 : Int) : Option (Int) := Lim fun k => impl_UseOf.f k l0 l1 a2
theorem impl_UseOf.l0_is (x0 : List Int) (x2 : Int) (x7 : Int) (x12 : List (List Int)) (x13 : Int) (x14 : Int) : Is (fun k => impl_UseOf.l0 k x0 x2 x7 x12 x13 x14) (impl_UseOf.l0v x0 x2 x7 x12 x13 x14) := ⟨fun k => (impl_UseOf.mono_l k) x0 x2 x7 x12 x13 x14, rfl⟩
theorem impl_UseOf.f_is (l0 : List Int) (l1 : List (List Int)) (a2 : Int) : Is (fun k => impl_UseOf.f k l0 l1 a2) (impl_UseOf.fv l0 l1 a2) := ⟨fun k => impl_UseOf.mono l0 l1 a2 k, rfl⟩
theorem impl_UseOf.l0v_eq (x0 : List Int) (x2 : Int) (x7 : Int) (x12 : List (List Int)) (x13 : Int) (x14 : Int) : impl_UseOf.l0v x0 x2 x7 x12 x13 x14 = if x14 < x13 then (if 0 ≤ x14 then (if x14 < (x12.length : Int) then ((impl_BestCommon.fv x0 (rd_L1 x12 x14)).bind fun t158 => (if t158 = x2 then (impl_UseOf.l0v x0 x2 (wrap64 (x7 + 1)) x12 x13 (wrap64 (x14 + 1))) else (impl_UseOf.l0v x0 x2 x7 x12 x13 (wrap64 (x14 + 1))))) else (none)) else (none)) else (some x7) := by
  refine Is.step (impl_UseOf.l0_is x0 x2 x7 x12 x13 x14).mo (fun k => by rw [impl_UseOf.l0]) ?_
  · skip
    repeat' first
    | with_reducible exact impl_BestCommon.f_is _ _
    | with_reducible exact impl_UseOf.l0_is _ _ _ _ _ _
    | with_reducible exact Is.now _
    | with_reducible refine Is.ite ?_ ?_
    | with_reducible refine Is.bind ?_ (fun _ => ?_)
theorem impl_UseOf.fv_eq (l0 : List Int) (l1 : List (List Int)) (a2 : Int) : impl_UseOf.fv l0 l1 a2 = if a2 < 1 then (some 0) else (impl_UseOf.l0v l0 a2 0 l1 (l1.length : Int) 0) := by
  refine Is.lim (g := fun k => impl_UseOf.f k l0 l1 a2) ?_
  · unfold impl_UseOf.f
    repeat' first
    | with_reducible exact impl_UseOf.l0_is _ _ _ _ _ _
    | with_reducible exact Is.now _
    | with_reducible refine Is.ite ?_ ?_
    | with_reducible refine Is.bind ?_ (fun _ => ?_)
noncomputable def laws_eqIntS.l0v (x0 : List Int) (x1 : List Int) (x5 : Int) : Option (Bool) := Lim fun k => laws_eqIntS.l0 k x0 x1 x5
noncomputable def laws_eqIntS.fv (l0 : List Int) (l1 : List Int) : Option (Bool) := Lim fun k => laws_eqIntS.f k l0 l1
theorem laws_eqIntS.l0_is (x0 : List Int) (x1 : List Int) (x5 : Int) : Is (fun k => laws_eqIntS.l0 k x0 x1 x5) (laws_eqIntS.l0v x0 x1 x5) := ⟨fun k => (laws_eqIntS.mono_l k) x0 x1 x5, rfl⟩
theorem laws_eqIntS.f_is (l0 : List Int) (l1 : List Int) : Is (fun k => laws_eqIntS.f k l0 l1) (laws_eqIntS.fv l0 l1) := ⟨fun k => laws_eqIntS.mono l0 l1 k, rfl⟩
theorem laws_eqIntS.l0v_eq (x0 : List Int) (x1 : List Int) (x5 : Int) : laws_eqIntS.l0v x0 x1 x5 = if x5 < (x0.length : Int) then (if 0 ≤ x5 then (if x5 < (x1.length : Int) then (if (rd x0 x5) = (rd x1 x5) then (laws_eqIntS.l0v x0 x1 (wrap64 (x5 + 1))) else (some false)) else (none)) else (none)) else (some true) := by
  refine Is.step (laws_eqIntS.l0_is x0 x1 x5).mo (fun k => by rw [laws_eqIntS.l0]) ?_
  · skip
    repeat' first
    | with_reducible exact laws_eqIntS.l0_is _ _ _
    | with_reducible exact Is.now _
    | with_reducible refine Is.ite ?_ ?_
    | with_reducible refine Is.bind ?_ (fun _ => ?_)
theorem laws_eqIntS.fv_eq (l0 : List Int) (l1 : List Int) : laws_eqIntS.fv l0 l1 = if (l0.length : Int) = (l1.length : Int) then (laws_eqIntS.l0v l0 l1 0) else (some false) := by
  refine Is.lim (g := fun k => laws_eqIntS.f k l0 l1) ?_
  · unfold laws_eqIntS.f
    repeat' first
    | with_reducible exact laws_eqIntS.l0_is _ _ _
    | with_reducible exact Is.now _
    | with_reducible refine Is.ite ?_ ?_
    | with_reducible refine Is.bind ?_ (fun _ => ?_)
noncomputable def laws_eqIntSS.l0v (x0 : List (List Int)) (x1 : List (List Int)) (x5 : Int) : Option (Bool) := Lim fun k => laws_eqIntSS.l0 k x0 x1 x5
noncomputable def laws_eqIntSS.fv (l0 : List (List Int)) (l1 : List (List Int)) : Option (Bool) := Lim fun k => laws_eqIntSS.f k l0 l1
theorem laws_eqIntSS.l0_is (x0 : List (List Int)) (x1 : List (List Int)) (x5 : Int) : Is (fun k => laws_eqIntSS.l0 k x0 x1 x5) (laws_eqIntSS.l0v x0 x1 x5) := ⟨fun k => (laws_eqIntSS.mono_l k) x0 x1 x5, rfl⟩
theorem laws_eqIntSS.f_is (l0 : List (List Int)) (l1 : List (List Int)) : Is (fun k => laws_eqIntSS.f k l0 l1) (laws_eqIntSS.fv l0 l1) := ⟨fun k => laws_eqIntSS.mono l0 l1 k, rfl⟩
theorem laws_eqIntSS.l0v_eq (x0 : List (List Int)) (x1 : List (List Int)) (x5 : Int) : laws_eqIntSS.l0v x0 x1 x5 = if x5 < (x0.length : Int) then (if 0 ≤ x5 then (if x5 < (x1.length : Int) then ((laws_eqIntS.fv (rd_L1 x0 x5) (rd_L1 x1 x5)).bind fun t163 => (if t163 = true then (laws_eqIntSS.l0v x0 x1 (wrap64 (x5 + 1))) else (some false))) else (none)) else (none)) else (some true) := by
  refine Is.step (laws_eqIntSS.l0_is x0 x1 x5).mo (fun k => by rw [laws_eqIntSS.l0]) ?_
  · skip
    repeat' first
    | with_reducible exact laws_eqIntS.f_is _ _
    | with_reducible exact laws_eqIntSS.l0_is _ _ _
    | with_reducible exact Is.now _
    | with_reducible refine Is.ite ?_ ?_
    | with_reducible refine Is.bind ?_ (fun _ => ?_)
theorem laws_eqIntSS.fv_eq (l0 : List (List Int)) (l1 : List (List Int)) : laws_eqIntSS.fv l0 l1 = if (l0.length : Int) = (l1.length : Int) then (laws_eqIntSS.l0v l0 l1 0) else (some false) := by
  refine Is.lim (g := fun k => laws_eqIntSS.f k l0 l1) ?_
  · unfold laws_eqIntSS.f
    repeat' first
    | with_reducible exact laws_eqIntSS.l0_is _ _ _
    | with_reducible exact Is.now _
    | with_reducible refine Is.ite ?_ ?_
    | with_reducible refine Is.bind ?_ (fun _ => ?_)
end Go.Proofs.Ytdoefkloanpliaa.Print

/- What the law's own helpers on slices of whole numbers come to: a copy, equality, marks. Condition: the slice has at most 2 to the 40 numbers. -/
set_option linter.unusedSimpArgs false
set_option linter.unusedVariables false
namespace Go.Proofs.Ytdoefkloanpliaa.Plain
open Go.RowKit Go.Proofs.YtdoefkloanpliaaW.PrintWords Go.Proofs.Ytdoefkloanpliaa.Base Go.Proofs.Ytdoefkloanpliaa.Print

theorem toIntS_l0 (suf : List Int) : ∀ (pre rest : List Int), rest.length = suf.length → (pre ++ suf).length ≤ 1000000000000 → laws_toIntS.l0v (pre ++ suf) (pre ++ rest) (pre.length : Int) = some (pre ++ suf) := by
  induction suf with
  | nil =>
    intro pre rest hr _
    rw [laws_toIntS.l0v_eq, if_neg (nlt_end pre)]
    simp at hr
    rw [hr]
  | cons x suf ih =>
    intro pre rest hr hl
    cases rest with
    | nil => simp at hr
    | cons y rest =>
      have hn : pre.length < (pre ++ x :: suf).length := by simp
      rw [laws_toIntS.l0v_eq, if_pos (lt_mid pre suf x), if_pos (by omega), if_pos (lt_mid pre rest y), rd_mid, set_mid, up_mid pre x hn hl]
      rw [mid_snoc pre suf x] at hl ⊢
      have h1 := ih (pre ++ [x]) rest (by simpa using hr) hl
      simp only [List.length_append, List.length_cons, List.length_nil] at h1 ⊢
      exact h1

theorem toIntS_v (l : List Int) (hl : l.length ≤ 1000000000000) : laws_toIntS.fv l = some l := by
  rw [laws_toIntS.fv_eq, if_pos (by omega), if_pos (by omega)]
  have h := toIntS_l0 l [] (List.replicate ((l.length : Int) : Int).toNat 0) (by simp) (by simpa using hl)
  simpa using h

theorem eqIntS_l0 (sa : List Int) : ∀ (pre sb : List Int), sb.length = sa.length → (pre ++ sa).length ≤ 1000000000000 → laws_eqIntS.l0v (pre ++ sa) (pre ++ sb) (pre.length : Int) = some (decide (sa = sb)) := by
  induction sa with
  | nil =>
    intro pre sb hr _
    rw [laws_eqIntS.l0v_eq, if_neg (nlt_end pre)]
    simp at hr
    simp [hr]
  | cons x sa ih =>
    intro pre sb hr hl
    cases sb with
    | nil => simp at hr
    | cons y sb =>
      have hn : pre.length < (pre ++ x :: sa).length := by simp
      rw [laws_eqIntS.l0v_eq, if_pos (lt_mid pre sa x), if_pos (by omega), if_pos (lt_mid pre sb y), rd_mid, rd_mid, up_mid pre x hn hl]
      by_cases hxy : x = y
      · subst hxy
        rw [if_pos rfl]
        rw [mid_snoc pre sa x] at hl ⊢
        rw [mid_snoc pre sb x]
        rw [ih (pre ++ [x]) sb (by simpa using hr) hl]
        simp
      · rw [if_neg hxy]
        simp [hxy]

theorem eqIntS_v (a b : List Int) (hl : a.length ≤ 1000000000000) : laws_eqIntS.fv a b = some (decide (a = b)) := by
  rw [laws_eqIntS.fv_eq]
  by_cases h : a.length = b.length
  · rw [if_pos (by omega)]
    have h1 := eqIntS_l0 a [] b h.symm (by simpa using hl)
    simpa using h1
  · rw [if_neg (by omega)]
    have : a ≠ b := fun e => h (by rw [e])
    simp [this]
end Go.Proofs.Ytdoefkloanpliaa.Plain

/- What is left of a size, row by row. Condition: at most 2 to the 20 is left. -/
set_option linter.unusedSimpArgs false
set_option linter.unusedVariables false
namespace Go.Proofs.Ytdoefkloanpliaa.Plain
open Go.RowKit Go.Proofs.YtdoefkloanpliaaW.PrintWords Go.Proofs.Ytdoefkloanpliaa.Base Go.Proofs.Ytdoefkloanpliaa.Print

theorem szIntS_f (l : List Int) (n : Int) (h0 : 0 ≤ n) (h : n ≤ 1048576) (hl : l.length ≤ 1000000000000000000) : laws_szIntS.f l n = some (if n < l.length then -1 else n - l.length) := by
  unfold laws_szIntS.f
  rw [w64 (by omega) (by omega)]
  by_cases hc : n < l.length
  · rw [if_pos (by omega), if_pos hc]
  · rw [if_neg (by omega), if_neg hc]
/-- What is left of n behind the rows, each with a size of its own; -1 where they are too large. -/
def sizes {α : Type} (f : α → Nat) : List α → Int → Int
  | [], n => n
  | x :: l, n => if n < (f x : Int) then -1 else sizes f l (n - (f x : Int))
/-- The same, with one for each row. -/
def sizeOf1 {α : Type} (f : α → Nat) (l : List α) (n : Int) : Int := if n < (l.length : Int) then -1 else sizes f l (n - (l.length : Int))
theorem sizes_le {α : Type} (f : α → Nat) (l : List α) : ∀ n : Int, 0 ≤ sizes f l n → sizes f l n ≤ n ∧ ∀ x ∈ l, (f x : Int) ≤ n := by
  induction l with
  | nil =>
    intro n h
    exact ⟨Int.le_refl _, fun x hx => by cases hx⟩
  | cons y l ih =>
    intro n h
    simp only [sizes] at h ⊢
    by_cases hc : n < (f y : Int)
    · rw [if_pos hc] at h
      omega
    · rw [if_neg hc] at h ⊢
      obtain ⟨h1, h2⟩ := ih _ h
      refine ⟨by omega, fun x hx => ?_⟩
      cases hx with
      | head => omega
      | tail _ hx =>
        have := h2 x hx
        omega
theorem sizeOf1_le {α : Type} (f : α → Nat) (l : List α) (n : Int) (h : 0 ≤ sizeOf1 f l n) : sizeOf1 f l n ≤ n ∧ (l.length : Int) ≤ n ∧ ∀ x ∈ l, (f x : Int) ≤ n := by
  unfold sizeOf1 at h ⊢
  by_cases hc : n < (l.length : Int)
  · rw [if_pos hc] at h
    omega
  · rw [if_neg hc] at h ⊢
    obtain ⟨h1, h2⟩ := sizes_le f l _ h
    exact ⟨by omega, by omega, fun x hx => by
      have := h2 x hx
      omega⟩
theorem sizes_neg {α : Type} (f : α → Nat) (l : List α) : ∀ n : Int, 0 ≤ n → sizes f l n < 0 → sizes f l n = -1 := by
  induction l with
  | nil =>
    intro n h0 h
    simp only [sizes] at h
    omega
  | cons y l ih =>
    intro n h0 h
    simp only [sizes] at h ⊢
    by_cases hc : n < (f y : Int)
    · rw [if_pos hc]
    · rw [if_neg hc] at h ⊢
      exact ih _ (by omega) h
end Go.Proofs.Ytdoefkloanpliaa.Plain

/- Written by a program of this session (limx.py): the equations of what the printed functions come to. No condition. -/
namespace Go.Proofs.Ytdoefkloanpliaa.Print
open Go.RowKit Go.Proofs.YtdoefkloanpliaaW.PrintWords Go.Proofs.YtdoefkloanpliaaW.PrintLast Go.Proofs.Ytdoefkloanpliaa.Base
set_option linter.unusedVariables false
set_option maxRecDepth 20000
noncomputable def laws_szBoxS.l0v (x0 : List (S64)) (x1 : Int) (x5 : Int) : Option (Int) := Lim fun k => laws_szBoxS.l0 k x0 x1 x5
noncomputable def laws_szBoxS.fv (l0 : List (S64)) (a1 : Int) : Option (Int) := Lim fun k => laws_szBoxS.f k l0 a1
theorem laws_szBoxS.l0_is (x0 : List (S64)) (x1 : Int) (x5 : Int) : Is (fun k => laws_szBoxS.l0 k x0 x1 x5) (laws_szBoxS.l0v x0 x1 x5) := ⟨fun k => (laws_szBoxS.mono_l k) x0 x1 x5, rfl⟩
theorem laws_szBoxS.f_is (l0 : List (S64)) (a1 : Int) : Is (fun k => laws_szBoxS.f k l0 a1) (laws_szBoxS.fv l0 a1) := ⟨fun k => laws_szBoxS.mono l0 a1 k, rfl⟩
theorem laws_szBoxS.l0v_eq (x0 : List (S64)) (x1 : Int) (x5 : Int) : laws_szBoxS.l0v x0 x1 x5 = if x5 < (x0.length : Int) then (if 0 ≤ x5 then ((laws_szBox.f ((rd_T64 x0 x5).f0) ((rd_T64 x0 x5).f1) ((rd_T64 x0 x5).f2) ((rd_T64 x0 x5).f3) x1).bind fun t597 => (if t597 < 0 then (some (-1)) else (laws_szBoxS.l0v x0 t597 (wrap64 (x5 + 1))))) else (none)) else (some x1) := by
  refine Is.step (laws_szBoxS.l0_is x0 x1 x5).mo (fun k => by rw [laws_szBoxS.l0]) ?_
  · skip
    repeat' first
    | with_reducible exact laws_szBoxS.l0_is _ _ _
    | with_reducible exact Is.now _
    | with_reducible refine Is.ite ?_ ?_
    | with_reducible refine Is.bind ?_ (fun _ => ?_)
theorem laws_szBoxS.fv_eq (l0 : List (S64)) (a1 : Int) : laws_szBoxS.fv l0 a1 = if (wrap64 (a1 - (l0.length : Int))) < 0 then (some (-1)) else (laws_szBoxS.l0v l0 (wrap64 (a1 - (l0.length : Int))) 0) := by
  refine Is.lim (g := fun k => laws_szBoxS.f k l0 a1) ?_
  · unfold laws_szBoxS.f
    repeat' first
    | with_reducible exact laws_szBoxS.l0_is _ _ _
    | with_reducible exact Is.now _
    | with_reducible refine Is.ite ?_ ?_
    | with_reducible refine Is.bind ?_ (fun _ => ?_)
noncomputable def laws_szEndpoint.fv (l0_0 : List Int) (l0_1 : List Int) (l0_2 : List (S64)) (a0_3 : Int) (a1 : Int) : Option (Int) := Lim fun k => laws_szEndpoint.f k l0_0 l0_1 l0_2 a0_3 a1
theorem laws_szEndpoint.f_is (l0_0 : List Int) (l0_1 : List Int) (l0_2 : List (S64)) (a0_3 : Int) (a1 : Int) : Is (fun k => laws_szEndpoint.f k l0_0 l0_1 l0_2 a0_3 a1) (laws_szEndpoint.fv l0_0 l0_1 l0_2 a0_3 a1) := ⟨fun k => laws_szEndpoint.mono l0_0 l0_1 l0_2 a0_3 a1 k, rfl⟩
theorem laws_szEndpoint.fv_eq (l0_0 : List Int) (l0_1 : List Int) (l0_2 : List (S64)) (a0_3 : Int) (a1 : Int) : laws_szEndpoint.fv l0_0 l0_1 l0_2 a0_3 a1 = (laws_szIntS.f l0_0 a1).bind fun t599 => (if t599 < 0 then (some (-1)) else ((laws_szIntS.f l0_1 t599).bind fun t600 => (if t600 < 0 then (some (-1)) else ((laws_szBoxS.fv l0_2 t600).bind fun t601 => (if t601 < 0 then (some (-1)) else (some t601)))))) := by
  refine Is.lim (g := fun k => laws_szEndpoint.f k l0_0 l0_1 l0_2 a0_3 a1) ?_
  · unfold laws_szEndpoint.f
    repeat' first
    | with_reducible exact laws_szBoxS.f_is _ _
    | with_reducible exact Is.now _
    | with_reducible refine Is.ite ?_ ?_
    | with_reducible refine Is.bind ?_ (fun _ => ?_)
noncomputable def spec_EqualInts.l0v (x0 : List Int) (x1 : List Int) (x5 : Int) : Option (Bool) := Lim fun k => spec_EqualInts.l0 k x0 x1 x5
noncomputable def spec_EqualInts.fv (l0 : List Int) (l1 : List Int) : Option (Bool) := Lim fun k => spec_EqualInts.f k l0 l1
theorem spec_EqualInts.l0_is (x0 : List Int) (x1 : List Int) (x5 : Int) : Is (fun k => spec_EqualInts.l0 k x0 x1 x5) (spec_EqualInts.l0v x0 x1 x5) := ⟨fun k => (spec_EqualInts.mono_l k) x0 x1 x5, rfl⟩
theorem spec_EqualInts.f_is (l0 : List Int) (l1 : List Int) : Is (fun k => spec_EqualInts.f k l0 l1) (spec_EqualInts.fv l0 l1) := ⟨fun k => spec_EqualInts.mono l0 l1 k, rfl⟩
theorem spec_EqualInts.l0v_eq (x0 : List Int) (x1 : List Int) (x5 : Int) : spec_EqualInts.l0v x0 x1 x5 = if x5 < (x0.length : Int) then (if 0 ≤ x5 then (if x5 < (x1.length : Int) then (if (rd x0 x5) = (rd x1 x5) then (spec_EqualInts.l0v x0 x1 (wrap64 (x5 + 1))) else (some false)) else (none)) else (none)) else (some true) := by
  refine Is.step (spec_EqualInts.l0_is x0 x1 x5).mo (fun k => by rw [spec_EqualInts.l0]) ?_
  · skip
    repeat' first
    | with_reducible exact spec_EqualInts.l0_is _ _ _
    | with_reducible exact Is.now _
    | with_reducible refine Is.ite ?_ ?_
    | with_reducible refine Is.bind ?_ (fun _ => ?_)
theorem spec_EqualInts.fv_eq (l0 : List Int) (l1 : List Int) : spec_EqualInts.fv l0 l1 = if (l0.length : Int) = (l1.length : Int) then (spec_EqualInts.l0v l0 l1 0) else (some false) := by
  refine Is.lim (g := fun k => spec_EqualInts.f k l0 l1) ?_
  · unfold spec_EqualInts.f
    repeat' first
    | with_reducible exact spec_EqualInts.l0_is _ _ _
    | with_reducible exact Is.now _
    | with_reducible refine Is.ite ?_ ?_
    | with_reducible refine Is.bind ?_ (fun _ => ?_)
noncomputable def spec_EqualBoxes.fv (a0_0 : Int) (l0_1 : List Int) (l0_2 : List Int) (a0_3 : Bool) (a1_0 : Int) (l1_1 : List Int) (l1_2 : List Int) (a1_3 : Bool) : Option (Bool) := Lim fun k => spec_EqualBoxes.f k a0_0 l0_1 l0_2 a0_3 a1_0 l1_1 l1_2 a1_3
theorem spec_EqualBoxes.f_is (a0_0 : Int) (l0_1 : List Int) (l0_2 : List Int) (a0_3 : Bool) (a1_0 : Int) (l1_1 : List Int) (l1_2 : List Int) (a1_3 : Bool) : Is (fun k => spec_EqualBoxes.f k a0_0 l0_1 l0_2 a0_3 a1_0 l1_1 l1_2 a1_3) (spec_EqualBoxes.fv a0_0 l0_1 l0_2 a0_3 a1_0 l1_1 l1_2 a1_3) := ⟨fun k => spec_EqualBoxes.mono a0_0 l0_1 l0_2 a0_3 a1_0 l1_1 l1_2 a1_3 k, rfl⟩
theorem spec_EqualBoxes.fv_eq (a0_0 : Int) (l0_1 : List Int) (l0_2 : List Int) (a0_3 : Bool) (a1_0 : Int) (l1_1 : List Int) (l1_2 : List Int) (a1_3 : Bool) : spec_EqualBoxes.fv a0_0 l0_1 l0_2 a0_3 a1_0 l1_1 l1_2 a1_3 = if a0_0 = a1_0 then (if (a0_3 == a1_3) = true then ((spec_EqualInts.fv l0_1 l1_1).bind fun t606 => (if t606 = true then ((spec_EqualInts.fv l0_2 l1_2).bind fun t607 => (some t607)) else (some false))) else (some false)) else (some false) := by
  refine Is.lim (g := fun k => spec_EqualBoxes.f k a0_0 l0_1 l0_2 a0_3 a1_0 l1_1 l1_2 a1_3) ?_
  · unfold spec_EqualBoxes.f
    repeat' first
    | with_reducible exact spec_EqualInts.f_is _ _
    | with_reducible exact Is.now _
    | with_reducible refine Is.ite ?_ ?_
    | with_reducible refine Is.bind ?_ (fun _ => ?_)
end Go.Proofs.Ytdoefkloanpliaa.Print

/- Written by a program of this session (limx.py): the equations of what the printed functions come to. No condition. -/
namespace Go.Proofs.Ytdoefkloanpliaa.Print
open Go.RowKit Go.Proofs.YtdoefkloanpliaaW.PrintWords Go.Proofs.YtdoefkloanpliaaW.PrintLast Go.Proofs.Ytdoefkloanpliaa.Base
set_option linter.unusedVariables false
set_option maxRecDepth 20000
noncomputable def spec_l1New.l0v (x0 : List Int) (x3 : Int) (x4 : Int) : Option (List Int × Int × Int) := Lim fun k => spec_l1New.l0 k x0 x3 x4
noncomputable def spec_l1New.fv (l0 : List Int) : Option (List Int × Int × Int) := Lim fun k => spec_l1New.f k l0
theorem spec_l1New.l0_is (x0 : List Int) (x3 : Int) (x4 : Int) : Is (fun k => spec_l1New.l0 k x0 x3 x4) (spec_l1New.l0v x0 x3 x4) := ⟨fun k => (spec_l1New.mono_l k) x0 x3 x4, rfl⟩
theorem spec_l1New.f_is (l0 : List Int) : Is (fun k => spec_l1New.f k l0) (spec_l1New.fv l0) := ⟨fun k => spec_l1New.mono l0 k, rfl⟩
theorem spec_l1New.l0v_eq (x0 : List Int) (x3 : Int) (x4 : Int) : spec_l1New.l0v x0 x3 x4 = if x4 < (x0.length : Int) then (if x4 < 4000 then (if 0 ≤ x4 then (spec_l1New.l0v x0 (Go.bits .and .i64 (wrap64 ((wrap64 ((wrap64 (x3 * 137)) + (wrap64 (rd x0 x4)))) + 11)) 1073741823) (wrap64 (x4 + 1))) else (none)) else (some (x0, 0, x3))) else (some (x0, 0, x3)) := by
  refine Is.step (spec_l1New.l0_is x0 x3 x4).mo (fun k => by rw [spec_l1New.l0]) ?_
  · skip
    repeat' first
    | with_reducible exact spec_l1New.l0_is _ _ _
    | with_reducible exact Is.now _
    | with_reducible refine Is.ite ?_ ?_
    | with_reducible refine Is.bind ?_ (fun _ => ?_)
theorem spec_l1New.fv_eq (l0 : List Int) : spec_l1New.fv l0 = spec_l1New.l0v l0 (wrap64 (193017 + (l0.length : Int))) 0 := by
  refine Is.lim (g := fun k => spec_l1New.f k l0) ?_
  · unfold spec_l1New.f
    repeat' first
    | with_reducible exact spec_l1New.l0_is _ _ _
    | with_reducible exact Is.now _
    | with_reducible refine Is.ite ?_ ?_
    | with_reducible refine Is.bind ?_ (fun _ => ?_)
end Go.Proofs.Ytdoefkloanpliaa.Print

/- Written by a program of this session (limx.py): the equations of what the printed functions come to. No condition. -/
namespace Go.Proofs.Ytdoefkloanpliaa.Print
open Go.RowKit Go.Proofs.YtdoefkloanpliaaW.PrintWords Go.Proofs.YtdoefkloanpliaaW.PrintLast Go.Proofs.Ytdoefkloanpliaa.Base
set_option linter.unusedVariables false
set_option maxRecDepth 20000
noncomputable def spec_l4Put.l0v (x0 : List Int) (x1 : Int) (x5 : Int) : Option (List Int) := Lim fun k => spec_l4Put.l0 k x0 x1 x5
noncomputable def spec_l4Put.fv (l0 : List Int) (a1 : Int) : Option (List Int) := Lim fun k => spec_l4Put.f k l0 a1
theorem spec_l4Put.l0_is (x0 : List Int) (x1 : Int) (x5 : Int) : Is (fun k => spec_l4Put.l0 k x0 x1 x5) (spec_l4Put.l0v x0 x1 x5) := ⟨fun k => (spec_l4Put.mono_l k) x0 x1 x5, rfl⟩
theorem spec_l4Put.f_is (l0 : List Int) (a1 : Int) : Is (fun k => spec_l4Put.f k l0 a1) (spec_l4Put.fv l0 a1) := ⟨fun k => spec_l4Put.mono l0 a1 k, rfl⟩
theorem spec_l4Put.l0v_eq (x0 : List Int) (x1 : Int) (x5 : Int) : spec_l4Put.l0v x0 x1 x5 = if x5 < (x0.length : Int) then (if 0 ≤ x5 then (if (rd x0 x5) < x1 then (spec_l4Put.l0v x0 x1 (wrap64 (x5 + 1))) else (if (rd x0 x5) = x1 then ((some (([] : List Int) : List Int)).bind fun y336 => (if y336.length + x0.length < 17592186044416 then (some (y336 ++ x0)) else (none))) else ((some (([] : List Int) : List Int)).bind fun y342 => (if x5 ≤ (x0.length : Int) then (if y342.length + (x0.take (x5 : Int).toNat).length < 17592186044416 then ((some (y342 ++ (x0.take (x5 : Int).toNat) : List Int)).bind fun y346 => ((some (([x1] : List Int) : List Int)).bind fun y349 => (if y346.length + y349.length < 17592186044416 then ((some (y346 ++ y349 : List Int)).bind fun y352 => (if y352.length + (x0.drop (x5 : Int).toNat).length < 17592186044416 then (some (y352 ++ (x0.drop (x5 : Int).toNat))) else (none))) else (none)))) else (none)) else (none))))) else (none)) else ((some (([] : List Int) : List Int)).bind fun y359 => (if 0 ≤ x5 then (if x5 ≤ (x0.length : Int) then (if y359.length + (x0.take (x5 : Int).toNat).length < 17592186044416 then ((some (y359 ++ (x0.take (x5 : Int).toNat) : List Int)).bind fun y363 => ((some (([x1] : List Int) : List Int)).bind fun y366 => (if y363.length + y366.length < 17592186044416 then ((some (y363 ++ y366 : List Int)).bind fun y369 => (if y369.length + (x0.drop (x5 : Int).toNat).length < 17592186044416 then (some (y369 ++ (x0.drop (x5 : Int).toNat))) else (none))) else (none)))) else (none)) else (none)) else (none))) := by
  refine Is.step (spec_l4Put.l0_is x0 x1 x5).mo (fun k => by rw [spec_l4Put.l0]) ?_
  · skip
    repeat' first
    | with_reducible exact spec_l4Put.l0_is _ _ _
    | with_reducible exact Is.now _
    | with_reducible refine Is.ite ?_ ?_
    | with_reducible refine Is.bind ?_ (fun _ => ?_)
theorem spec_l4Put.fv_eq (l0 : List Int) (a1 : Int) : spec_l4Put.fv l0 a1 = spec_l4Put.l0v l0 a1 0 := by
  refine Is.lim (g := fun k => spec_l4Put.f k l0 a1) ?_
  · unfold spec_l4Put.f
    repeat' first
    | with_reducible exact spec_l4Put.l0_is _ _ _
    | with_reducible exact Is.now _
    | with_reducible refine Is.ite ?_ ?_
    | with_reducible refine Is.bind ?_ (fun _ => ?_)
end Go.Proofs.Ytdoefkloanpliaa.Print

/- Written by a program of this session (limx.py): the equations of what the printed functions come to. No condition. -/
namespace Go.Proofs.Ytdoefkloanpliaa.Print
open Go.RowKit Go.Proofs.YtdoefkloanpliaaW.PrintWords Go.Proofs.YtdoefkloanpliaaW.PrintLast Go.Proofs.Ytdoefkloanpliaa.Base
set_option linter.unusedVariables false
set_option maxRecDepth 20000
noncomputable def spec_l12Draw.l0v (x3 : List Int) (x4 : Int) (x1000 : List Int) (x1001 : Int) (x1002 : Int) : Option (List Int × Int × Int) := Lim fun k => spec_l12Draw.l0 k x3 x4 x1000 x1001 x1002
noncomputable def spec_l12Draw.fv (s0_0 : List Int) (s0_1 : Int) (s0_2 : Int) : Option (List Int × Int × Int) := Lim fun k => spec_l12Draw.f k s0_0 s0_1 s0_2
theorem spec_l12Draw.l0_is (x3 : List Int) (x4 : Int) (x1000 : List Int) (x1001 : Int) (x1002 : Int) : Is (fun k => spec_l12Draw.l0 k x3 x4 x1000 x1001 x1002) (spec_l12Draw.l0v x3 x4 x1000 x1001 x1002) := ⟨fun k => (spec_l12Draw.mono_l k) x3 x4 x1000 x1001 x1002, rfl⟩
theorem spec_l12Draw.f_is (s0_0 : List Int) (s0_1 : Int) (s0_2 : Int) : Is (fun k => spec_l12Draw.f k s0_0 s0_1 s0_2) (spec_l12Draw.fv s0_0 s0_1 s0_2) := ⟨fun k => spec_l12Draw.mono s0_0 s0_1 s0_2 k, rfl⟩
theorem spec_l12Draw.l0v_eq (x3 : List Int) (x4 : Int) (x1000 : List Int) (x1001 : Int) (x1002 : Int) : spec_l12Draw.l0v x3 x4 x1000 x1001 x1002 = if x4 > 0 then ((spec_l1Below.f x1000 x1001 x1002 6).bind fun bt385 => ((spec_l4Put.fv x3 (wrap64 (1 + bt385.1))).bind fun t388 => (spec_l12Draw.l0v t388 (wrap64 (x4 - 1)) x1000 bt385.2.1 bt385.2.2))) else (some (x3, x1001, x1002)) := by
  refine Is.step (spec_l12Draw.l0_is x3 x4 x1000 x1001 x1002).mo (fun k => by rw [spec_l12Draw.l0]) ?_
  · skip
    repeat' first
    | with_reducible exact spec_l12Draw.l0_is _ _ _ _ _
    | with_reducible exact spec_l4Put.f_is _ _
    | with_reducible exact Is.now _
    | with_reducible refine Is.ite ?_ ?_
    | with_reducible refine Is.bind ?_ (fun _ => ?_)
theorem spec_l12Draw.fv_eq (s0_0 : List Int) (s0_1 : Int) (s0_2 : Int) : spec_l12Draw.fv s0_0 s0_1 s0_2 = (spec_l1Below.f s0_0 s0_1 s0_2 4).bind fun bt376 => ((spec_l1Below.f s0_0 bt376.2.1 bt376.2.2 4).bind fun bt382 => (spec_l12Draw.l0v (([wrap64 (1 + bt376.1)] : List Int)) bt382.1 s0_0 bt382.2.1 bt382.2.2)) := by
  refine Is.lim (g := fun k => spec_l12Draw.f k s0_0 s0_1 s0_2) ?_
  · unfold spec_l12Draw.f
    repeat' first
    | with_reducible exact spec_l12Draw.l0_is _ _ _ _ _
    | with_reducible exact Is.now _
    | with_reducible refine Is.ite ?_ ?_
    | with_reducible refine Is.bind ?_ (fun _ => ?_)
noncomputable def spec_l12Any.fv (s0_0 : List Int) (s0_1 : Int) (s0_2 : Int) : Option (List Int × Int × Int) := Lim fun k => spec_l12Any.f k s0_0 s0_1 s0_2
theorem spec_l12Any.f_is (s0_0 : List Int) (s0_1 : Int) (s0_2 : Int) : Is (fun k => spec_l12Any.f k s0_0 s0_1 s0_2) (spec_l12Any.fv s0_0 s0_1 s0_2) := ⟨fun k => spec_l12Any.mono s0_0 s0_1 s0_2 k, rfl⟩
theorem spec_l12Any.fv_eq (s0_0 : List Int) (s0_1 : Int) (s0_2 : Int) : spec_l12Any.fv s0_0 s0_1 s0_2 = (spec_l12Draw.fv s0_0 s0_1 s0_2).bind fun bt391 => ((spec_l1Below.f s0_0 bt391.2.1 bt391.2.2 9).bind fun bt396 => (if bt396.1 = 0 then ((spec_l1Int.f s0_0 bt396.2.1 bt396.2.2 (([0, (-1), 9, 10] : List Int))).bind fun bt402 => (if 0 < (bt391.1.length : Int) then (some ((bt391.1.set (0 : Int).toNat bt402.1), bt402.2.1, bt402.2.2)) else (none))) else (if bt396.1 = 1 then (if 0 < (bt391.1.length : Int) then (if bt391.1.length < 17592186044416 then (some ((bt391.1 ++ [rd bt391.1 0]), bt396.2.1, bt396.2.2)) else (none)) else (none)) else (if bt396.1 = 2 then (some ((([] : List Int)), bt396.2.1, bt396.2.2)) else (some (bt391.1, bt396.2.1, bt396.2.2)))))) := by
  refine Is.lim (g := fun k => spec_l12Any.f k s0_0 s0_1 s0_2) ?_
  · unfold spec_l12Any.f
    repeat' first
    | with_reducible exact spec_l12Draw.f_is _ _ _
    | with_reducible exact Is.now _
    | with_reducible refine Is.ite ?_ ?_
    | with_reducible refine Is.bind ?_ (fun _ => ?_)
noncomputable def spec_l28Any.j0v (x4 : List Int) (x1000 : List Int) (x1001 : Int) (x1002 : Int) : Option (List Int × (List (List Int)) × Int × Int) := Lim fun k => spec_l28Any.j0 k x4 x1000 x1001 x1002
noncomputable def spec_l28Any.l0v (x4 : List Int) (x5 : List (List Int)) (x6 : Int) (x1000 : List Int) (x1001 : Int) (x1002 : Int) : Option (List Int × (List (List Int)) × Int × Int) := Lim fun k => spec_l28Any.l0 k x4 x5 x6 x1000 x1001 x1002
noncomputable def spec_l28Any.fv (s0_0 : List Int) (s0_1 : Int) (s0_2 : Int) : Option (List Int × (List (List Int)) × Int × Int) := Lim fun k => spec_l28Any.f k s0_0 s0_1 s0_2
theorem spec_l28Any.j0_is (x4 : List Int) (x1000 : List Int) (x1001 : Int) (x1002 : Int) : Is (fun k => spec_l28Any.j0 k x4 x1000 x1001 x1002) (spec_l28Any.j0v x4 x1000 x1001 x1002) := ⟨fun k => (spec_l28Any.mono_l k).1 x4 x1000 x1001 x1002, rfl⟩
theorem spec_l28Any.l0_is (x4 : List Int) (x5 : List (List Int)) (x6 : Int) (x1000 : List Int) (x1001 : Int) (x1002 : Int) : Is (fun k => spec_l28Any.l0 k x4 x5 x6 x1000 x1001 x1002) (spec_l28Any.l0v x4 x5 x6 x1000 x1001 x1002) := ⟨fun k => (spec_l28Any.mono_l k).2 x4 x5 x6 x1000 x1001 x1002, rfl⟩
theorem spec_l28Any.f_is (s0_0 : List Int) (s0_1 : Int) (s0_2 : Int) : Is (fun k => spec_l28Any.f k s0_0 s0_1 s0_2) (spec_l28Any.fv s0_0 s0_1 s0_2) := ⟨fun k => spec_l28Any.mono s0_0 s0_1 s0_2 k, rfl⟩
theorem spec_l28Any.j0v_eq (x4 : List Int) (x1000 : List Int) (x1001 : Int) (x1002 : Int) : spec_l28Any.j0v x4 x1000 x1001 x1002 = (spec_l1Below.f x1000 x1001 x1002 6).bind fun bt432 => (spec_l28Any.l0v x4 (([] : List (List Int))) bt432.1 x1000 bt432.2.1 bt432.2.2) := by
  refine Is.step (spec_l28Any.j0_is x4 x1000 x1001 x1002).mo (fun k => by rw [spec_l28Any.j0]) ?_
  · skip
    repeat' first
    | with_reducible exact spec_l28Any.l0_is _ _ _ _ _ _
    | with_reducible exact Is.now _
    | with_reducible refine Is.ite ?_ ?_
    | with_reducible refine Is.bind ?_ (fun _ => ?_)
theorem spec_l28Any.l0v_eq (x4 : List Int) (x5 : List (List Int)) (x6 : Int) (x1000 : List Int) (x1001 : Int) (x1002 : Int) : spec_l28Any.l0v x4 x5 x6 x1000 x1001 x1002 = if x6 > 0 then ((spec_l12Draw.fv x1000 x1001 x1002).bind fun bt435 => (if x5.length < 5864062014805 then (spec_l28Any.l0v x4 (x5 ++ [bt435.1]) (wrap64 (x6 - 1)) x1000 bt435.2.1 bt435.2.2) else (none))) else (if (x5.length : Int) > 0 then ((spec_l1Once.f x1000 x1001 x1002 9).bind fun bt443 => (if bt443.1 = true then ((spec_l12Any.fv x1000 bt443.2.1 bt443.2.2).bind fun bt446 => (if 0 < (x5.length : Int) then (some (x4, (x5.set (0 : Int).toNat bt446.1), bt446.2.1, bt446.2.2)) else (none))) else (some (x4, x5, bt443.2.1, bt443.2.2)))) else (some (x4, x5, x1001, x1002))) := by
  refine Is.step (spec_l28Any.l0_is x4 x5 x6 x1000 x1001 x1002).mo (fun k => by rw [spec_l28Any.l0]) ?_
  · skip
    repeat' first
    | with_reducible exact spec_l12Any.f_is _ _ _
    | with_reducible exact spec_l12Draw.f_is _ _ _
    | with_reducible exact spec_l28Any.l0_is _ _ _ _ _ _
    | with_reducible exact Is.now _
    | with_reducible refine Is.ite ?_ ?_
    | with_reducible refine Is.bind ?_ (fun _ => ?_)
theorem spec_l28Any.fv_eq (s0_0 : List Int) (s0_1 : Int) (s0_2 : Int) : spec_l28Any.fv s0_0 s0_1 s0_2 = (spec_l12Draw.fv s0_0 s0_1 s0_2).bind fun bt416 => ((spec_l1Once.f s0_0 bt416.2.1 bt416.2.2 9).bind fun bt421 => (if bt421.1 = true then ((spec_l12Any.fv s0_0 bt421.2.1 bt421.2.2).bind fun bt424 => (spec_l28Any.j0v bt424.1 s0_0 bt424.2.1 bt424.2.2)) else (spec_l28Any.j0v bt416.1 s0_0 bt421.2.1 bt421.2.2))) := by
  refine Is.lim (g := fun k => spec_l28Any.f k s0_0 s0_1 s0_2) ?_
  · unfold spec_l28Any.f
    repeat' first
    | with_reducible exact spec_l12Any.f_is _ _ _
    | with_reducible exact spec_l12Draw.f_is _ _ _
    | with_reducible exact spec_l28Any.j0_is _ _ _ _
    | with_reducible exact Is.now _
    | with_reducible refine Is.ite ?_ ?_
    | with_reducible refine Is.bind ?_ (fun _ => ?_)
noncomputable def spec_DrawUseOf.fv (l0 : List Int) : Option (List Int × (List (List Int)) × Int) := Lim fun k => spec_DrawUseOf.f k l0
theorem spec_DrawUseOf.f_is (l0 : List Int) : Is (fun k => spec_DrawUseOf.f k l0) (spec_DrawUseOf.fv l0) := ⟨fun k => spec_DrawUseOf.mono l0 k, rfl⟩
theorem spec_DrawUseOf.fv_eq (l0 : List Int) : spec_DrawUseOf.fv l0 = (spec_l1New.fv l0).bind fun bt452 => ((spec_l28Any.fv bt452.1 bt452.2.1 bt452.2.2).bind fun bt456 => ((spec_l1Below.f bt452.1 bt456.2.2.1 bt456.2.2.2 8).bind fun bt464 => (some (bt456.1, bt456.2.1, wrap64 (bt464.1 - 1))))) := by
  refine Is.lim (g := fun k => spec_DrawUseOf.f k l0) ?_
  · unfold spec_DrawUseOf.f
    repeat' first
    | with_reducible exact spec_l1New.f_is _
    | with_reducible exact spec_l28Any.f_is _ _ _
    | with_reducible exact Is.now _
    | with_reducible refine Is.ite ?_ ?_
    | with_reducible refine Is.bind ?_ (fun _ => ?_)
noncomputable def spec_DrawMayRetire.fv (l0 : List Int) : Option (List Int × (List (List Int)) × Int × Int) := Lim fun k => spec_DrawMayRetire.f k l0
theorem spec_DrawMayRetire.f_is (l0 : List Int) : Is (fun k => spec_DrawMayRetire.f k l0) (spec_DrawMayRetire.fv l0) := ⟨fun k => spec_DrawMayRetire.mono l0 k, rfl⟩
theorem spec_DrawMayRetire.fv_eq (l0 : List Int) : spec_DrawMayRetire.fv l0 = (spec_DrawUseOf.fv l0).bind fun bt467 => ((spec_l1New.fv l0).bind fun bt474 => ((spec_l1Int.f bt474.1 bt474.2.1 bt474.2.2 (([0, 200, 500, 1000, 1000, 1001, (-1)] : List Int))).bind fun bt481 => (some (bt467.1, bt467.2.1, bt467.2.2, bt481.1)))) := by
  refine Is.lim (g := fun k => spec_DrawMayRetire.f k l0) ?_
  · unfold spec_DrawMayRetire.f
    repeat' first
    | with_reducible exact spec_DrawUseOf.f_is _
    | with_reducible exact spec_l1New.f_is _
    | with_reducible exact Is.now _
    | with_reducible refine Is.ite ?_ ?_
    | with_reducible refine Is.bind ?_ (fun _ => ?_)
noncomputable def spec_DrawRetireVersion.fv (l0 : List Int) : Option (List Int × (List (List Int)) × Int × Int) := Lim fun k => spec_DrawRetireVersion.f k l0
theorem spec_DrawRetireVersion.f_is (l0 : List Int) : Is (fun k => spec_DrawRetireVersion.f k l0) (spec_DrawRetireVersion.fv l0) := ⟨fun k => spec_DrawRetireVersion.mono l0 k, rfl⟩
theorem spec_DrawRetireVersion.fv_eq (l0 : List Int) : spec_DrawRetireVersion.fv l0 = (spec_DrawMayRetire.fv l0).bind fun bt484 => (some (bt484.1, bt484.2.1, bt484.2.2.1, bt484.2.2.2)) := by
  refine Is.lim (g := fun k => spec_DrawRetireVersion.f k l0) ?_
  · unfold spec_DrawRetireVersion.f
    repeat' first
    | with_reducible exact spec_DrawMayRetire.f_is _
    | with_reducible exact Is.now _
    | with_reducible refine Is.ite ?_ ?_
    | with_reducible refine Is.bind ?_ (fun _ => ?_)
noncomputable def slices_Equal_int_int.l0v (x0 : List Int) (x1 : List Int) (x12 : Int) (x13 : Int) : Option (Bool) := Lim fun k => slices_Equal_int_int.l0 k x0 x1 x12 x13
noncomputable def slices_Equal_int_int.fv (l0 : List Int) (l1 : List Int) : Option (Bool) := Lim fun k => slices_Equal_int_int.f k l0 l1
theorem slices_Equal_int_int.l0_is (x0 : List Int) (x1 : List Int) (x12 : Int) (x13 : Int) : Is (fun k => slices_Equal_int_int.l0 k x0 x1 x12 x13) (slices_Equal_int_int.l0v x0 x1 x12 x13) := ⟨fun k => (slices_Equal_int_int.mono_l k) x0 x1 x12 x13, rfl⟩
theorem slices_Equal_int_int.f_is (l0 : List Int) (l1 : List Int) : Is (fun k => slices_Equal_int_int.f k l0 l1) (slices_Equal_int_int.fv l0 l1) := ⟨fun k => slices_Equal_int_int.mono l0 l1 k, rfl⟩
theorem slices_Equal_int_int.l0v_eq (x0 : List Int) (x1 : List Int) (x12 : Int) (x13 : Int) : slices_Equal_int_int.l0v x0 x1 x12 x13 = if x13 < x12 then (if 0 ≤ x13 then (if x13 < (x0.length : Int) then (if x13 < (x1.length : Int) then (if (rd x0 x13) = (rd x1 x13) then (slices_Equal_int_int.l0v x0 x1 x12 (wrap64 (x13 + 1))) else (some false)) else (none)) else (none)) else (none)) else (some true) := by
  refine Is.step (slices_Equal_int_int.l0_is x0 x1 x12 x13).mo (fun k => by rw [slices_Equal_int_int.l0]) ?_
  · skip
    repeat' first
    | with_reducible exact slices_Equal_int_int.l0_is _ _ _ _
    | with_reducible exact Is.now _
    | with_reducible refine Is.ite ?_ ?_
    | with_reducible refine Is.bind ?_ (fun _ => ?_)
theorem slices_Equal_int_int.fv_eq (l0 : List Int) (l1 : List Int) : slices_Equal_int_int.fv l0 l1 = if (l0.length : Int) = (l1.length : Int) then (slices_Equal_int_int.l0v l0 l1 (l0.length : Int) 0) else (some false) := by
  refine Is.lim (g := fun k => slices_Equal_int_int.f k l0 l1) ?_
  · unfold slices_Equal_int_int.f
    repeat' first
    | with_reducible exact slices_Equal_int_int.l0_is _ _ _ _
    | with_reducible exact Is.now _
    | with_reducible refine Is.ite ?_ ?_
    | with_reducible refine Is.bind ?_ (fun _ => ?_)
noncomputable def impl_EqualInts.fv (l0 : List Int) (l1 : List Int) : Option (Bool) := Lim fun k => impl_EqualInts.f k l0 l1
theorem impl_EqualInts.f_is (l0 : List Int) (l1 : List Int) : Is (fun k => impl_EqualInts.f k l0 l1) (impl_EqualInts.fv l0 l1) := ⟨fun k => impl_EqualInts.mono l0 l1 k, rfl⟩
theorem impl_EqualInts.fv_eq (l0 : List Int) (l1 : List Int) : impl_EqualInts.fv l0 l1 = (slices_Equal_int_int.fv l0 l1).bind fun t494 => (some t494) := by
  refine Is.lim (g := fun k => impl_EqualInts.f k l0 l1) ?_
  · unfold impl_EqualInts.f
    repeat' first
    | with_reducible exact slices_Equal_int_int.f_is _ _
    | with_reducible exact Is.now _
    | with_reducible refine Is.ite ?_ ?_
    | with_reducible refine Is.bind ?_ (fun _ => ?_)
end Go.Proofs.Ytdoefkloanpliaa.Print

/- Written by a program of this session (limx.py): the equations of what the printed functions come to. No condition. -/
namespace Go.Proofs.Ytdoefkloanpliaa.Print
open Go.RowKit Go.Proofs.YtdoefkloanpliaaW.PrintWords Go.Proofs.YtdoefkloanpliaaW.PrintLast Go.Proofs.Ytdoefkloanpliaa.Base
set_option linter.unusedVariables false
set_option maxRecDepth 20000
noncomputable def spec_EqualEndpoints.j0v (x19 : Bool) (x609000 : List Int) (x609001 : List Int) (x609002 : List (S67)) (x609003 : Int) (x610000 : List Int) (x610001 : List Int) (x610002 : List (S67)) (x610003 : Int) : Option (Bool) := Lim fun k => spec_EqualEndpoints.j0 k x19 x609000 x609001 x609002 x609003 x610000 x610001 x610002 x610003
noncomputable def spec_EqualEndpoints.l0v (x5 : Int) (x609000 : List Int) (x609001 : List Int) (x609002 : List (S67)) (x609003 : Int) (x610000 : List Int) (x610001 : List Int) (x610002 : List (S67)) (x610003 : Int) : Option (Bool) := Lim fun k => spec_EqualEndpoints.l0 k x5 x609000 x609001 x609002 x609003 x610000 x610001 x610002 x610003
noncomputable def spec_EqualEndpoints.fv (l0_0 : List Int) (l0_1 : List Int) (l0_2 : List (S67)) (a0_3 : Int) (l1_0 : List Int) (l1_1 : List Int) (l1_2 : List (S67)) (a1_3 : Int) : Option (Bool) := Lim fun k => spec_EqualEndpoints.f k l0_0 l0_1 l0_2 a0_3 l1_0 l1_1 l1_2 a1_3
theorem spec_EqualEndpoints.j0_is (x19 : Bool) (x609000 : List Int) (x609001 : List Int) (x609002 : List (S67)) (x609003 : Int) (x610000 : List Int) (x610001 : List Int) (x610002 : List (S67)) (x610003 : Int) : Is (fun k => spec_EqualEndpoints.j0 k x19 x609000 x609001 x609002 x609003 x610000 x610001 x610002 x610003) (spec_EqualEndpoints.j0v x19 x609000 x609001 x609002 x609003 x610000 x610001 x610002 x610003) := ⟨fun k => (spec_EqualEndpoints.mono_l k).1 x19 x609000 x609001 x609002 x609003 x610000 x610001 x610002 x610003, rfl⟩
theorem spec_EqualEndpoints.l0_is (x5 : Int) (x609000 : List Int) (x609001 : List Int) (x609002 : List (S67)) (x609003 : Int) (x610000 : List Int) (x610001 : List Int) (x610002 : List (S67)) (x610003 : Int) : Is (fun k => spec_EqualEndpoints.l0 k x5 x609000 x609001 x609002 x609003 x610000 x610001 x610002 x610003) (spec_EqualEndpoints.l0v x5 x609000 x609001 x609002 x609003 x610000 x610001 x610002 x610003) := ⟨fun k => (spec_EqualEndpoints.mono_l k).2 x5 x609000 x609001 x609002 x609003 x610000 x610001 x610002 x610003, rfl⟩
theorem spec_EqualEndpoints.f_is (l0_0 : List Int) (l0_1 : List Int) (l0_2 : List (S67)) (a0_3 : Int) (l1_0 : List Int) (l1_1 : List Int) (l1_2 : List (S67)) (a1_3 : Int) : Is (fun k => spec_EqualEndpoints.f k l0_0 l0_1 l0_2 a0_3 l1_0 l1_1 l1_2 a1_3) (spec_EqualEndpoints.fv l0_0 l0_1 l0_2 a0_3 l1_0 l1_1 l1_2 a1_3) := ⟨fun k => spec_EqualEndpoints.mono l0_0 l0_1 l0_2 a0_3 l1_0 l1_1 l1_2 a1_3 k, rfl⟩
theorem spec_EqualEndpoints.j0v_eq (x19 : Bool) (x609000 : List Int) (x609001 : List Int) (x609002 : List (S67)) (x609003 : Int) (x610000 : List Int) (x610001 : List Int) (x610002 : List (S67)) (x610003 : Int) : spec_EqualEndpoints.j0v x19 x609000 x609001 x609002 x609003 x610000 x610001 x610002 x610003 = if x19 = true then (some false) else (spec_EqualEndpoints.l0v 0 x609000 x609001 x609002 x609003 x610000 x610001 x610002 x610003) := by
  refine Is.step (spec_EqualEndpoints.j0_is x19 x609000 x609001 x609002 x609003 x610000 x610001 x610002 x610003).mo (fun k => by rw [spec_EqualEndpoints.j0]) ?_
  · skip
    repeat' first
    | with_reducible exact spec_EqualEndpoints.l0_is _ _ _ _ _ _ _ _ _
    | with_reducible exact Is.now _
    | with_reducible refine Is.ite ?_ ?_
    | with_reducible refine Is.bind ?_ (fun _ => ?_)
theorem spec_EqualEndpoints.l0v_eq (x5 : Int) (x609000 : List Int) (x609001 : List Int) (x609002 : List (S67)) (x609003 : Int) (x610000 : List Int) (x610001 : List Int) (x610002 : List (S67)) (x610003 : Int) : spec_EqualEndpoints.l0v x5 x609000 x609001 x609002 x609003 x610000 x610001 x610002 x610003 = if x5 < (x609002.length : Int) then (if 0 ≤ x5 then (if x5 < (x610002.length : Int) then ((spec_EqualBoxes.fv ((rd_T67 x609002 x5).f0) ((rd_T67 x609002 x5).f1) ((rd_T67 x609002 x5).f2) ((rd_T67 x609002 x5).f3) ((rd_T67 x610002 x5).f0) ((rd_T67 x610002 x5).f1) ((rd_T67 x610002 x5).f2) ((rd_T67 x610002 x5).f3)).bind fun t612 => (if t612 = true then (spec_EqualEndpoints.l0v (wrap64 (x5 + 1)) x609000 x609001 x609002 x609003 x610000 x610001 x610002 x610003) else (some false))) else (none)) else (none)) else ((spec_EqualInts.fv x609000 x610000).bind fun t613 => (if t613 = true then ((spec_EqualInts.fv x609001 x610001).bind fun t614 => (some t614)) else (some false))) := by
  refine Is.step (spec_EqualEndpoints.l0_is x5 x609000 x609001 x609002 x609003 x610000 x610001 x610002 x610003).mo (fun k => by rw [spec_EqualEndpoints.l0]) ?_
  · skip
    repeat' first
    | with_reducible exact spec_EqualBoxes.f_is _ _ _ _ _ _ _ _
    | with_reducible exact spec_EqualEndpoints.l0_is _ _ _ _ _ _ _ _ _
    | with_reducible exact spec_EqualInts.f_is _ _
    | with_reducible exact Is.now _
    | with_reducible refine Is.ite ?_ ?_
    | with_reducible refine Is.bind ?_ (fun _ => ?_)
theorem spec_EqualEndpoints.fv_eq (l0_0 : List Int) (l0_1 : List Int) (l0_2 : List (S67)) (a0_3 : Int) (l1_0 : List Int) (l1_1 : List Int) (l1_2 : List (S67)) (a1_3 : Int) : spec_EqualEndpoints.fv l0_0 l0_1 l0_2 a0_3 l1_0 l1_1 l1_2 a1_3 = if (l0_2.length : Int) = (l1_2.length : Int) then (spec_EqualEndpoints.j0v (a0_3 != a1_3) l0_0 l0_1 l0_2 a0_3 l1_0 l1_1 l1_2 a1_3) else (spec_EqualEndpoints.j0v true l0_0 l0_1 l0_2 a0_3 l1_0 l1_1 l1_2 a1_3) := by
  refine Is.lim (g := fun k => spec_EqualEndpoints.f k l0_0 l0_1 l0_2 a0_3 l1_0 l1_1 l1_2 a1_3) ?_
  · unfold spec_EqualEndpoints.f
    repeat' first
    | with_reducible exact spec_EqualEndpoints.j0_is _ _ _ _ _ _ _ _ _
    | with_reducible exact Is.now _
    | with_reducible refine Is.ite ?_ ?_
    | with_reducible refine Is.bind ?_ (fun _ => ?_)
noncomputable def laws_toBox.fv (a0_0 : Int) (l0_1 : List Int) (l0_2 : List Int) (a0_3 : Bool) : Option (Int × List Int × List Int × Bool) := Lim fun k => laws_toBox.f k a0_0 l0_1 l0_2 a0_3
theorem laws_toBox.f_is (a0_0 : Int) (l0_1 : List Int) (l0_2 : List Int) (a0_3 : Bool) : Is (fun k => laws_toBox.f k a0_0 l0_1 l0_2 a0_3) (laws_toBox.fv a0_0 l0_1 l0_2 a0_3) := ⟨fun k => laws_toBox.mono a0_0 l0_1 l0_2 a0_3 k, rfl⟩
theorem laws_toBox.fv_eq (a0_0 : Int) (l0_1 : List Int) (l0_2 : List Int) (a0_3 : Bool) : laws_toBox.fv a0_0 l0_1 l0_2 a0_3 = (laws_toIntS.fv l0_1).bind fun t618 => ((laws_toIntS.fv l0_2).bind fun t621 => (some (a0_0, t618, t621, a0_3))) := by
  refine Is.lim (g := fun k => laws_toBox.f k a0_0 l0_1 l0_2 a0_3) ?_
  · unfold laws_toBox.f
    repeat' first
    | with_reducible exact laws_toIntS.f_is _
    | with_reducible exact Is.now _
    | with_reducible refine Is.ite ?_ ?_
    | with_reducible refine Is.bind ?_ (fun _ => ?_)
noncomputable def laws_toBoxS.l0v (x0 : List (S64)) (x3 : List (S67)) (x4 : Int) : Option ((List (S67))) := Lim fun k => laws_toBoxS.l0 k x0 x3 x4
noncomputable def laws_toBoxS.fv (l0 : List (S64)) : Option ((List (S67))) := Lim fun k => laws_toBoxS.f k l0
theorem laws_toBoxS.l0_is (x0 : List (S64)) (x3 : List (S67)) (x4 : Int) : Is (fun k => laws_toBoxS.l0 k x0 x3 x4) (laws_toBoxS.l0v x0 x3 x4) := ⟨fun k => (laws_toBoxS.mono_l k) x0 x3 x4, rfl⟩
theorem laws_toBoxS.f_is (l0 : List (S64)) : Is (fun k => laws_toBoxS.f k l0) (laws_toBoxS.fv l0) := ⟨fun k => laws_toBoxS.mono l0 k, rfl⟩
theorem laws_toBoxS.l0v_eq (x0 : List (S64)) (x3 : List (S67)) (x4 : Int) : laws_toBoxS.l0v x0 x3 x4 = if x4 < (x0.length : Int) then (if 0 ≤ x4 then ((laws_toBox.fv ((rd_T64 x0 x4).f0) ((rd_T64 x0 x4).f1) ((rd_T64 x0 x4).f2) ((rd_T64 x0 x4).f3)).bind fun bt628 => (if x4 < (x3.length : Int) then (laws_toBoxS.l0v x0 (x3.set (x4 : Int).toNat (⟨bt628.1, bt628.2.1, bt628.2.2.1, bt628.2.2.2⟩ : S67)) (wrap64 (x4 + 1))) else (none))) else (none)) else (some x3) := by
  refine Is.step (laws_toBoxS.l0_is x0 x3 x4).mo (fun k => by rw [laws_toBoxS.l0]) ?_
  · skip
    repeat' first
    | with_reducible exact laws_toBox.f_is _ _ _ _
    | with_reducible exact laws_toBoxS.l0_is _ _ _
    | with_reducible exact Is.now _
    | with_reducible refine Is.ite ?_ ?_
    | with_reducible refine Is.bind ?_ (fun _ => ?_)
theorem laws_toBoxS.fv_eq (l0 : List (S64)) : laws_toBoxS.fv l0 = if 0 ≤ (l0.length : Int) then (if ((l0.length : Int) : Int).toNat ≤ 4398046511104 then (laws_toBoxS.l0v l0 (List.replicate ((l0.length : Int) : Int).toNat z67) 0) else (none)) else (none) := by
  refine Is.lim (g := fun k => laws_toBoxS.f k l0) ?_
  · unfold laws_toBoxS.f
    repeat' first
    | with_reducible exact laws_toBoxS.l0_is _ _ _
    | with_reducible exact Is.now _
    | with_reducible refine Is.ite ?_ ?_
    | with_reducible refine Is.bind ?_ (fun _ => ?_)
noncomputable def laws_toEndpoint.fv (l0_0 : List Int) (l0_1 : List Int) (l0_2 : List (S64)) (a0_3 : Int) : Option (List Int × List Int × (List (S67)) × Int) := Lim fun k => laws_toEndpoint.f k l0_0 l0_1 l0_2 a0_3
theorem laws_toEndpoint.f_is (l0_0 : List Int) (l0_1 : List Int) (l0_2 : List (S64)) (a0_3 : Int) : Is (fun k => laws_toEndpoint.f k l0_0 l0_1 l0_2 a0_3) (laws_toEndpoint.fv l0_0 l0_1 l0_2 a0_3) := ⟨fun k => laws_toEndpoint.mono l0_0 l0_1 l0_2 a0_3 k, rfl⟩
theorem laws_toEndpoint.fv_eq (l0_0 : List Int) (l0_1 : List Int) (l0_2 : List (S64)) (a0_3 : Int) : laws_toEndpoint.fv l0_0 l0_1 l0_2 a0_3 = (laws_toIntS.fv l0_0).bind fun t640 => ((laws_toIntS.fv l0_1).bind fun t643 => ((laws_toBoxS.fv l0_2).bind fun t646 => (some (t640, t643, t646, a0_3)))) := by
  refine Is.lim (g := fun k => laws_toEndpoint.f k l0_0 l0_1 l0_2 a0_3) ?_
  · unfold laws_toEndpoint.f
    repeat' first
    | with_reducible exact laws_toBoxS.f_is _
    | with_reducible exact laws_toIntS.f_is _
    | with_reducible exact Is.now _
    | with_reducible refine Is.ite ?_ ?_
    | with_reducible refine Is.bind ?_ (fun _ => ?_)
noncomputable def impl_EqualBoxes.fv (a0_0 : Int) (l0_1 : List Int) (l0_2 : List Int) (a0_3 : Bool) (a1_0 : Int) (l1_1 : List Int) (l1_2 : List Int) (a1_3 : Bool) : Option (Bool) := Lim fun k => impl_EqualBoxes.f k a0_0 l0_1 l0_2 a0_3 a1_0 l1_1 l1_2 a1_3
theorem impl_EqualBoxes.f_is (a0_0 : Int) (l0_1 : List Int) (l0_2 : List Int) (a0_3 : Bool) (a1_0 : Int) (l1_1 : List Int) (l1_2 : List Int) (a1_3 : Bool) : Is (fun k => impl_EqualBoxes.f k a0_0 l0_1 l0_2 a0_3 a1_0 l1_1 l1_2 a1_3) (impl_EqualBoxes.fv a0_0 l0_1 l0_2 a0_3 a1_0 l1_1 l1_2 a1_3) := ⟨fun k => impl_EqualBoxes.mono a0_0 l0_1 l0_2 a0_3 a1_0 l1_1 l1_2 a1_3 k, rfl⟩
theorem impl_EqualBoxes.fv_eq (a0_0 : Int) (l0_1 : List Int) (l0_2 : List Int) (a0_3 : Bool) (a1_0 : Int) (l1_1 : List Int) (l1_2 : List Int) (a1_3 : Bool) : impl_EqualBoxes.fv a0_0 l0_1 l0_2 a0_3 a1_0 l1_1 l1_2 a1_3 = if a0_0 = a1_0 then ((slices_Equal_int_int.fv l0_1 l1_1).bind fun t651 => (if t651 = true then ((slices_Equal_int_int.fv l0_2 l1_2).bind fun t652 => (if t652 = true then (some (a0_3 == a1_3)) else (some false))) else (some false))) else (some false) := by
  refine Is.lim (g := fun k => impl_EqualBoxes.f k a0_0 l0_1 l0_2 a0_3 a1_0 l1_1 l1_2 a1_3) ?_
  · unfold impl_EqualBoxes.f
    repeat' first
    | with_reducible exact slices_Equal_int_int.f_is _ _
    | with_reducible exact Is.now _
    | with_reducible refine Is.ite ?_ ?_
    | with_reducible refine Is.bind ?_ (fun _ => ?_)
end Go.Proofs.Ytdoefkloanpliaa.Print

/- Written by a program of this session (limx.py): the equations of what the printed functions come to. No condition. -/
namespace Go.Proofs.Ytdoefkloanpliaa.Print
open Go.RowKit Go.Proofs.YtdoefkloanpliaaW.PrintWords Go.Proofs.YtdoefkloanpliaaW.PrintLast Go.Proofs.Ytdoefkloanpliaa.Base
set_option linter.unusedVariables false
set_option maxRecDepth 20000
noncomputable def slices_EqualFunc_impl_Box_impl_Box_impl_Box_impl_Box_with_impl_EqualBoxes.l0v (x1 : List (S67)) (x15 : List (S67)) (x16 : Int) (x17 : Int) : Option (Bool) := Lim fun k => slices_EqualFunc_impl_Box_impl_Box_impl_Box_impl_Box_with_impl_EqualBoxes.l0 k x1 x15 x16 x17
noncomputable def slices_EqualFunc_impl_Box_impl_Box_impl_Box_impl_Box_with_impl_EqualBoxes.fv (l0 : List (S67)) (l1 : List (S67)) : Option (Bool) := Lim fun k => slices_EqualFunc_impl_Box_impl_Box_impl_Box_impl_Box_with_impl_EqualBoxes.f k l0 l1
theorem slices_EqualFunc_impl_Box_impl_Box_impl_Box_impl_Box_with_impl_EqualBoxes.l0_is (x1 : List (S67)) (x15 : List (S67)) (x16 : Int) (x17 : Int) : Is (fun k => slices_EqualFunc_impl_Box_impl_Box_impl_Box_impl_Box_with_impl_EqualBoxes.l0 k x1 x15 x16 x17) (slices_EqualFunc_impl_Box_impl_Box_impl_Box_impl_Box_with_impl_EqualBoxes.l0v x1 x15 x16 x17) := ⟨fun k => (slices_EqualFunc_impl_Box_impl_Box_impl_Box_impl_Box_with_impl_EqualBoxes.mono_l k) x1 x15 x16 x17, rfl⟩
theorem slices_EqualFunc_impl_Box_impl_Box_impl_Box_impl_Box_with_impl_EqualBoxes.f_is (l0 : List (S67)) (l1 : List (S67)) : Is (fun k => slices_EqualFunc_impl_Box_impl_Box_impl_Box_impl_Box_with_impl_EqualBoxes.f k l0 l1) (slices_EqualFunc_impl_Box_impl_Box_impl_Box_impl_Box_with_impl_EqualBoxes.fv l0 l1) := ⟨fun k => slices_EqualFunc_impl_Box_impl_Box_impl_Box_impl_Box_with_impl_EqualBoxes.mono l0 l1 k, rfl⟩
theorem slices_EqualFunc_impl_Box_impl_Box_impl_Box_impl_Box_with_impl_EqualBoxes.l0v_eq (x1 : List (S67)) (x15 : List (S67)) (x16 : Int) (x17 : Int) : slices_EqualFunc_impl_Box_impl_Box_impl_Box_impl_Box_with_impl_EqualBoxes.l0v x1 x15 x16 x17 = if x17 < x16 then (if 0 ≤ x17 then (if x17 < (x15.length : Int) then (if x17 < (x1.length : Int) then ((impl_EqualBoxes.fv ((rd_T67 x15 x17).f0) ((rd_T67 x15 x17).f1) ((rd_T67 x15 x17).f2) ((rd_T67 x15 x17).f3) ((rd_T67 x1 x17).f0) ((rd_T67 x1 x17).f1) ((rd_T67 x1 x17).f2) ((rd_T67 x1 x17).f3)).bind fun t657 => (if t657 = true then (slices_EqualFunc_impl_Box_impl_Box_impl_Box_impl_Box_with_impl_EqualBoxes.l0v x1 x15 x16 (wrap64 (x17 + 1))) else (some false))) else (none)) else (none)) else (none)) else (some true) := by
  refine Is.step (slices_EqualFunc_impl_Box_impl_Box_impl_Box_impl_Box_with_impl_EqualBoxes.l0_is x1 x15 x16 x17).mo (fun k => by rw [slices_EqualFunc_impl_Box_impl_Box_impl_Box_impl_Box_with_impl_EqualBoxes.l0]) ?_
  · skip
    repeat' first
    | with_reducible exact impl_EqualBoxes.f_is _ _ _ _ _ _ _ _
    | with_reducible exact slices_EqualFunc_impl_Box_impl_Box_impl_Box_impl_Box_with_impl_EqualBoxes.l0_is _ _ _ _
    | with_reducible exact Is.now _
    | with_reducible refine Is.ite ?_ ?_
    | with_reducible refine Is.bind ?_ (fun _ => ?_)
theorem slices_EqualFunc_impl_Box_impl_Box_impl_Box_impl_Box_with_impl_EqualBoxes.fv_eq (l0 : List (S67)) (l1 : List (S67)) : slices_EqualFunc_impl_Box_impl_Box_impl_Box_impl_Box_with_impl_EqualBoxes.fv l0 l1 = if (l0.length : Int) = (l1.length : Int) then (slices_EqualFunc_impl_Box_impl_Box_impl_Box_impl_Box_with_impl_EqualBoxes.l0v l1 l0 (l0.length : Int) 0) else (some false) := by
  refine Is.lim (g := fun k => slices_EqualFunc_impl_Box_impl_Box_impl_Box_impl_Box_with_impl_EqualBoxes.f k l0 l1) ?_
  · unfold slices_EqualFunc_impl_Box_impl_Box_impl_Box_impl_Box_with_impl_EqualBoxes.f
    repeat' first
    | with_reducible exact slices_EqualFunc_impl_Box_impl_Box_impl_Box_impl_Box_with_impl_EqualBoxes.l0_is _ _ _ _
    | with_reducible exact Is.now _
    | with_reducible refine Is.ite ?_ ?_
    | with_reducible refine Is.bind ?_ (fun _ => ?_)
noncomputable def impl_EqualEndpoints.fv (l0_0 : List Int) (l0_1 : List Int) (l0_2 : List (S67)) (a0_3 : Int) (l1_0 : List Int) (l1_1 : List Int) (l1_2 : List (S67)) (a1_3 : Int) : Option (Bool) := Lim fun k => impl_EqualEndpoints.f k l0_0 l0_1 l0_2 a0_3 l1_0 l1_1 l1_2 a1_3
theorem impl_EqualEndpoints.f_is (l0_0 : List Int) (l0_1 : List Int) (l0_2 : List (S67)) (a0_3 : Int) (l1_0 : List Int) (l1_1 : List Int) (l1_2 : List (S67)) (a1_3 : Int) : Is (fun k => impl_EqualEndpoints.f k l0_0 l0_1 l0_2 a0_3 l1_0 l1_1 l1_2 a1_3) (impl_EqualEndpoints.fv l0_0 l0_1 l0_2 a0_3 l1_0 l1_1 l1_2 a1_3) := ⟨fun k => impl_EqualEndpoints.mono l0_0 l0_1 l0_2 a0_3 l1_0 l1_1 l1_2 a1_3 k, rfl⟩
theorem impl_EqualEndpoints.fv_eq (l0_0 : List Int) (l0_1 : List Int) (l0_2 : List (S67)) (a0_3 : Int) (l1_0 : List Int) (l1_1 : List Int) (l1_2 : List (S67)) (a1_3 : Int) : impl_EqualEndpoints.fv l0_0 l0_1 l0_2 a0_3 l1_0 l1_1 l1_2 a1_3 = (slices_Equal_int_int.fv l0_0 l1_0).bind fun t660 => (if t660 = true then ((slices_Equal_int_int.fv l0_1 l1_1).bind fun t661 => (if t661 = true then ((slices_EqualFunc_impl_Box_impl_Box_impl_Box_impl_Box_with_impl_EqualBoxes.fv l0_2 l1_2).bind fun t662 => (if t662 = true then (some (a0_3 == a1_3)) else (some false))) else (some false))) else (some false)) := by
  refine Is.lim (g := fun k => impl_EqualEndpoints.f k l0_0 l0_1 l0_2 a0_3 l1_0 l1_1 l1_2 a1_3) ?_
  · unfold impl_EqualEndpoints.f
    repeat' first
    | with_reducible exact slices_EqualFunc_impl_Box_impl_Box_impl_Box_impl_Box_with_impl_EqualBoxes.f_is _ _
    | with_reducible exact slices_Equal_int_int.f_is _ _
    | with_reducible exact Is.now _
    | with_reducible refine Is.ite ?_ ?_
    | with_reducible refine Is.bind ?_ (fun _ => ?_)
noncomputable def laws_eqBox.fv (a0_0 : Int) (l0_1 : List Int) (l0_2 : List Int) (a0_3 : Bool) (a1_0 : Int) (l1_1 : List Int) (l1_2 : List Int) (a1_3 : Bool) : Option (Bool) := Lim fun k => laws_eqBox.f k a0_0 l0_1 l0_2 a0_3 a1_0 l1_1 l1_2 a1_3
theorem laws_eqBox.f_is (a0_0 : Int) (l0_1 : List Int) (l0_2 : List Int) (a0_3 : Bool) (a1_0 : Int) (l1_1 : List Int) (l1_2 : List Int) (a1_3 : Bool) : Is (fun k => laws_eqBox.f k a0_0 l0_1 l0_2 a0_3 a1_0 l1_1 l1_2 a1_3) (laws_eqBox.fv a0_0 l0_1 l0_2 a0_3 a1_0 l1_1 l1_2 a1_3) := ⟨fun k => laws_eqBox.mono a0_0 l0_1 l0_2 a0_3 a1_0 l1_1 l1_2 a1_3 k, rfl⟩
theorem laws_eqBox.fv_eq (a0_0 : Int) (l0_1 : List Int) (l0_2 : List Int) (a0_3 : Bool) (a1_0 : Int) (l1_1 : List Int) (l1_2 : List Int) (a1_3 : Bool) : laws_eqBox.fv a0_0 l0_1 l0_2 a0_3 a1_0 l1_1 l1_2 a1_3 = if a0_0 = a1_0 then ((laws_eqIntS.fv l0_1 l1_1).bind fun t665 => (if t665 = true then ((laws_eqIntS.fv l0_2 l1_2).bind fun t666 => (if t666 = true then (if (a0_3 != a1_3) = true then (some false) else (some true)) else (some false))) else (some false))) else (some false) := by
  refine Is.lim (g := fun k => laws_eqBox.f k a0_0 l0_1 l0_2 a0_3 a1_0 l1_1 l1_2 a1_3) ?_
  · unfold laws_eqBox.f
    repeat' first
    | with_reducible exact laws_eqIntS.f_is _ _
    | with_reducible exact Is.now _
    | with_reducible refine Is.ite ?_ ?_
    | with_reducible refine Is.bind ?_ (fun _ => ?_)
noncomputable def laws_eqBoxS.l0v (x0 : List (S67)) (x1 : List (S67)) (x5 : Int) : Option (Bool) := Lim fun k => laws_eqBoxS.l0 k x0 x1 x5
noncomputable def laws_eqBoxS.fv (l0 : List (S67)) (l1 : List (S67)) : Option (Bool) := Lim fun k => laws_eqBoxS.f k l0 l1
theorem laws_eqBoxS.l0_is (x0 : List (S67)) (x1 : List (S67)) (x5 : Int) : Is (fun k => laws_eqBoxS.l0 k x0 x1 x5) (laws_eqBoxS.l0v x0 x1 x5) := ⟨fun k => (laws_eqBoxS.mono_l k) x0 x1 x5, rfl⟩
theorem laws_eqBoxS.f_is (l0 : List (S67)) (l1 : List (S67)) : Is (fun k => laws_eqBoxS.f k l0 l1) (laws_eqBoxS.fv l0 l1) := ⟨fun k => laws_eqBoxS.mono l0 l1 k, rfl⟩
theorem laws_eqBoxS.l0v_eq (x0 : List (S67)) (x1 : List (S67)) (x5 : Int) : laws_eqBoxS.l0v x0 x1 x5 = if x5 < (x0.length : Int) then (if 0 ≤ x5 then (if x5 < (x1.length : Int) then ((laws_eqBox.fv ((rd_T67 x0 x5).f0) ((rd_T67 x0 x5).f1) ((rd_T67 x0 x5).f2) ((rd_T67 x0 x5).f3) ((rd_T67 x1 x5).f0) ((rd_T67 x1 x5).f1) ((rd_T67 x1 x5).f2) ((rd_T67 x1 x5).f3)).bind fun t669 => (if t669 = true then (laws_eqBoxS.l0v x0 x1 (wrap64 (x5 + 1))) else (some false))) else (none)) else (none)) else (some true) := by
  refine Is.step (laws_eqBoxS.l0_is x0 x1 x5).mo (fun k => by rw [laws_eqBoxS.l0]) ?_
  · skip
    repeat' first
    | with_reducible exact laws_eqBox.f_is _ _ _ _ _ _ _ _
    | with_reducible exact laws_eqBoxS.l0_is _ _ _
    | with_reducible exact Is.now _
    | with_reducible refine Is.ite ?_ ?_
    | with_reducible refine Is.bind ?_ (fun _ => ?_)
theorem laws_eqBoxS.fv_eq (l0 : List (S67)) (l1 : List (S67)) : laws_eqBoxS.fv l0 l1 = if (l0.length : Int) = (l1.length : Int) then (laws_eqBoxS.l0v l0 l1 0) else (some false) := by
  refine Is.lim (g := fun k => laws_eqBoxS.f k l0 l1) ?_
  · unfold laws_eqBoxS.f
    repeat' first
    | with_reducible exact laws_eqBoxS.l0_is _ _ _
    | with_reducible exact Is.now _
    | with_reducible refine Is.ite ?_ ?_
    | with_reducible refine Is.bind ?_ (fun _ => ?_)
end Go.Proofs.Ytdoefkloanpliaa.Print

/- Boxes: their sizes, copies and equality, as the law's helpers tell them. Condition: at most 10 to the 12 of each. -/
set_option linter.unusedSimpArgs false
set_option linter.unusedVariables false
namespace Go.Proofs.Ytdoefkloanpliaa.Plain
open Go.RowKit Go.Proofs.YtdoefkloanpliaaW.PrintWords Go.Proofs.Ytdoefkloanpliaa.Base Go.Proofs.Ytdoefkloanpliaa.Print

theorem rdBox_mid (pre suf : List S67) (x : S67) : rd_T67 (pre ++ x :: suf) (pre.length : Int) = x := by simp [rd_T67]
theorem rdBoxL_mid (pre suf : List S64) (x : S64) : rd_T64 (pre ++ x :: suf) (pre.length : Int) = x := by simp [rd_T64]
/-- The law's box as the program's. -/
def toB (b : S64) : S67 := ⟨b.f0, b.f1, b.f2, b.f3⟩
def szB (b : S64) : Nat := b.f1.length + b.f2.length
/-- Its rows are not too long. -/
def okB (b : S67) : Prop := b.f1.length ≤ 1000000000000 ∧ b.f2.length ≤ 1000000000000
theorem szBox_f (a : Int) (l m : List Int) (f : Bool) (n : Int) (h0 : 0 ≤ n) (h : n ≤ 1048576) (hl : l.length ≤ 1000000000000000000) (hm : m.length ≤ 1000000000000000000) : laws_szBox.f a l m f n = some (if n < ((l.length + m.length : Nat) : Int) then -1 else n - ((l.length + m.length : Nat) : Int)) := by
  unfold laws_szBox.f
  rw [szIntS_f l n h0 h hl]
  simp only [Option.bind_some]
  by_cases hc : n < (l.length : Int)
  · rw [if_pos hc, if_pos (by omega), if_pos (by omega)]
  · rw [if_neg hc, if_neg (by omega), szIntS_f m _ (by omega) (by omega) hm]
    simp only [Option.bind_some]
    by_cases hd : n - (l.length : Int) < (m.length : Int)
    · rw [if_pos hd, if_pos (by omega), if_pos (by omega)]
    · rw [if_neg hd, if_neg (by omega), if_neg (by omega)]
      congr 1
      omega
theorem szBoxS_l0 (suf : List S64) : ∀ (pre : List S64) (n : Int), (pre ++ suf).length ≤ 1000000000000 → 0 ≤ n → n ≤ 1048576 → (∀ x ∈ suf, x.f1.length ≤ 1000000000000000000 ∧ x.f2.length ≤ 1000000000000000000) →
    laws_szBoxS.l0v (pre ++ suf) n (pre.length : Int) = some (sizes szB suf n) := by
  induction suf with
  | nil =>
    intro pre n _ _ _ _
    rw [laws_szBoxS.l0v_eq, if_neg (nlt_end pre)]
    rfl
  | cons x suf ih =>
    intro pre n hl h0 h1 hs
    have hn : pre.length < (pre ++ x :: suf).length := by simp
    have hx := hs x List.mem_cons_self
    rw [laws_szBoxS.l0v_eq, if_pos (lt_mid pre suf x), if_pos (by omega), rdBoxL_mid, szBox_f _ _ _ _ n h0 h1 hx.1 hx.2]
    simp only [Option.bind_some, sizes]
    have e : ((x.f1.length + x.f2.length : Nat) : Int) = (szB x : Int) := rfl
    rw [e]
    by_cases hc : n < (szB x : Int)
    · rw [if_pos hc, if_pos (by omega), if_pos hc]
    · rw [if_neg hc, if_neg (by omega), if_neg hc, up_mid pre x hn hl]
      rw [mid_snoc pre suf x] at hl ⊢
      exact ih (pre ++ [x]) _ hl (by omega) (by omega) (fun y hy => hs y (List.mem_cons_of_mem _ hy))
theorem szBoxS_v (l : List S64) (n : Int) (h0 : 0 ≤ n) (h1 : n ≤ 1048576) (hl : l.length ≤ 100000000000000000) (hs : ∀ x ∈ l, x.f1.length ≤ 1000000000000000000 ∧ x.f2.length ≤ 1000000000000000000) :
    laws_szBoxS.fv l n = some (sizeOf1 szB l n) := by
  rw [laws_szBoxS.fv_eq, w64 (by omega) (by omega)]
  unfold sizeOf1
  by_cases hc : n < (l.length : Int)
  · rw [if_pos (by omega), if_pos hc]
  · rw [if_neg (by omega), if_neg hc]
    have h := szBoxS_l0 l [] (n - (l.length : Int)) (by simp; omega) (by omega) (by omega) hs
    simpa using h
theorem toBox_v (a : Int) (l m : List Int) (f : Bool) (hl : l.length ≤ 1000000000000) (hm : m.length ≤ 1000000000000) : laws_toBox.fv a l m f = some (a, l, m, f) := by
  rw [laws_toBox.fv_eq, toIntS_v l hl, toIntS_v m hm]
  rfl
theorem toBoxS_l0 (suf : List S64) : ∀ (pre : List S64) (q rest : List S67), q.length = pre.length → rest.length = suf.length → (pre ++ suf).length ≤ 1000000000000 → (∀ x ∈ suf, okB (toB x)) → laws_toBoxS.l0v (pre ++ suf) (q ++ rest) (pre.length : Int) = some (q ++ suf.map toB) := by
  induction suf with
  | nil =>
    intro pre q rest _ hr _ _
    rw [laws_toBoxS.l0v_eq, if_neg (nlt_end pre)]
    simp at hr
    simp [hr]
  | cons x suf ih =>
    intro pre q rest hq hr hl hs
    cases rest with
    | nil => simp at hr
    | cons y rest =>
      have hn : pre.length < (pre ++ x :: suf).length := by simp
      have hx : x.f1.length ≤ 1000000000000 ∧ x.f2.length ≤ 1000000000000 := hs x List.mem_cons_self
      rw [laws_toBoxS.l0v_eq, if_pos (lt_mid pre suf x), if_pos (by omega), rdBoxL_mid, toBox_v _ _ _ _ hx.1 hx.2]
      simp only [Option.bind_some]
      rw [up_mid pre x hn hl, ← hq, if_pos (lt_mid q rest y), set_mid]
      rw [mid_snoc pre suf x] at hl ⊢
      rw [show (⟨x.f0, x.f1, x.f2, x.f3⟩ : S67) = toB x from rfl, ih (pre ++ [x]) (q ++ [toB x]) rest (by simp [hq]) (by simpa using hr) hl (fun y hy => hs y (List.mem_cons_of_mem _ hy))]
      simp
theorem toBoxS_v (l : List S64) (hl : l.length ≤ 1000000000000) (hs : ∀ x ∈ l, okB (toB x)) : laws_toBoxS.fv l = some (l.map toB) := by
  rw [laws_toBoxS.fv_eq, if_pos (by omega), if_pos (by omega)]
  have h := toBoxS_l0 l [] [] (List.replicate ((l.length : Int) : Int).toNat z67) rfl (by simp) (by simpa using hl) hs
  simpa using h
theorem eqBox_v (b : S67) (h : okB b) : laws_eqBox.fv b.f0 b.f1 b.f2 b.f3 b.f0 b.f1 b.f2 b.f3 = some true := by
  rw [laws_eqBox.fv_eq, if_pos rfl, eqIntS_v _ _ h.1, eqIntS_v _ _ h.2]
  simp
theorem eqBoxS_l0 (sa : List S67) : ∀ (pre : List S67), (pre ++ sa).length ≤ 1000000000000 → (∀ x ∈ sa, okB x) → laws_eqBoxS.l0v (pre ++ sa) (pre ++ sa) (pre.length : Int) = some true := by
  induction sa with
  | nil =>
    intro pre _ _
    rw [laws_eqBoxS.l0v_eq, if_neg (nlt_end pre)]
  | cons x sa ih =>
    intro pre hl hs
    have hn : pre.length < (pre ++ x :: sa).length := by simp
    rw [laws_eqBoxS.l0v_eq, if_pos (lt_mid pre sa x), if_pos (by omega), if_pos (lt_mid pre sa x), rdBox_mid, eqBox_v x (hs x List.mem_cons_self), up_mid pre x hn hl]
    simp only [Option.bind_some, if_true]
    rw [mid_snoc pre sa x] at hl ⊢
    exact ih (pre ++ [x]) hl (fun y hy => hs y (List.mem_cons_of_mem _ hy))
theorem eqBoxS_v (l : List S67) (hl : l.length ≤ 1000000000000) (hs : ∀ x ∈ l, okB x) : laws_eqBoxS.fv l l = some true := by
  rw [laws_eqBoxS.fv_eq, if_pos rfl]
  exact eqBoxS_l0 l [] (by simpa using hl) hs
end Go.Proofs.Ytdoefkloanpliaa.Plain

/- Written by a program of this session (limx.py): the equations of what the printed functions come to. No condition. -/
namespace Go.Proofs.Ytdoefkloanpliaa.Print
open Go.RowKit Go.Proofs.YtdoefkloanpliaaW.PrintWords Go.Proofs.YtdoefkloanpliaaW.PrintLast Go.Proofs.Ytdoefkloanpliaa.Base
set_option linter.unusedVariables false
set_option maxRecDepth 20000
noncomputable def laws_eqEndpoint.fv (l0_0 : List Int) (l0_1 : List Int) (l0_2 : List (S67)) (a0_3 : Int) (l1_0 : List Int) (l1_1 : List Int) (l1_2 : List (S67)) (a1_3 : Int) : Option (Bool) := Lim fun k => laws_eqEndpoint.f k l0_0 l0_1 l0_2 a0_3 l1_0 l1_1 l1_2 a1_3
theorem laws_eqEndpoint.f_is (l0_0 : List Int) (l0_1 : List Int) (l0_2 : List (S67)) (a0_3 : Int) (l1_0 : List Int) (l1_1 : List Int) (l1_2 : List (S67)) (a1_3 : Int) : Is (fun k => laws_eqEndpoint.f k l0_0 l0_1 l0_2 a0_3 l1_0 l1_1 l1_2 a1_3) (laws_eqEndpoint.fv l0_0 l0_1 l0_2 a0_3 l1_0 l1_1 l1_2 a1_3) := ⟨fun k => laws_eqEndpoint.mono l0_0 l0_1 l0_2 a0_3 l1_0 l1_1 l1_2 a1_3 k, rfl⟩
theorem laws_eqEndpoint.fv_eq (l0_0 : List Int) (l0_1 : List Int) (l0_2 : List (S67)) (a0_3 : Int) (l1_0 : List Int) (l1_1 : List Int) (l1_2 : List (S67)) (a1_3 : Int) : laws_eqEndpoint.fv l0_0 l0_1 l0_2 a0_3 l1_0 l1_1 l1_2 a1_3 = (laws_eqIntS.fv l0_0 l1_0).bind fun t672 => (if t672 = true then ((laws_eqIntS.fv l0_1 l1_1).bind fun t673 => (if t673 = true then ((laws_eqBoxS.fv l0_2 l1_2).bind fun t674 => (if t674 = true then (if a0_3 = a1_3 then (some true) else (some false)) else (some false))) else (some false))) else (some false)) := by
  refine Is.lim (g := fun k => laws_eqEndpoint.f k l0_0 l0_1 l0_2 a0_3 l1_0 l1_1 l1_2 a1_3) ?_
  · unfold laws_eqEndpoint.f
    repeat' first
    | with_reducible exact laws_eqBoxS.f_is _ _
    | with_reducible exact laws_eqIntS.f_is _ _
    | with_reducible exact Is.now _
    | with_reducible refine Is.ite ?_ ?_
    | with_reducible refine Is.bind ?_ (fun _ => ?_)
noncomputable def spec_l9Byte.l0v (x0 : List Int) (x3 : Int) : Option (Bool) := Lim fun k => spec_l9Byte.l0 k x0 x3
noncomputable def spec_l9Byte.fv (l0 : List Int) : Option (Bool) := Lim fun k => spec_l9Byte.f k l0
theorem spec_l9Byte.l0_is (x0 : List Int) (x3 : Int) : Is (fun k => spec_l9Byte.l0 k x0 x3) (spec_l9Byte.l0v x0 x3) := ⟨fun k => (spec_l9Byte.mono_l k) x0 x3, rfl⟩
theorem spec_l9Byte.f_is (l0 : List Int) : Is (fun k => spec_l9Byte.f k l0) (spec_l9Byte.fv l0) := ⟨fun k => spec_l9Byte.mono l0 k, rfl⟩
theorem spec_l9Byte.l0v_eq (x0 : List Int) (x3 : Int) : spec_l9Byte.l0v x0 x3 = if x3 < (x0.length : Int) then (if 0 ≤ x3 then ((spec_l1In.f (rd x0 x3) 0 255).bind fun t747 => (if t747 = true then (spec_l9Byte.l0v x0 (wrap64 (x3 + 1))) else (some false))) else (none)) else (some true) := by
  refine Is.step (spec_l9Byte.l0_is x0 x3).mo (fun k => by rw [spec_l9Byte.l0]) ?_
  · skip
    repeat' first
    | with_reducible exact spec_l9Byte.l0_is _ _
    | with_reducible exact Is.now _
    | with_reducible refine Is.ite ?_ ?_
    | with_reducible refine Is.bind ?_ (fun _ => ?_)
theorem spec_l9Byte.fv_eq (l0 : List Int) : spec_l9Byte.fv l0 = spec_l9Byte.l0v l0 0 := by
  refine Is.lim (g := fun k => spec_l9Byte.f k l0) ?_
  · unfold spec_l9Byte.f
    repeat' first
    | with_reducible exact spec_l9Byte.l0_is _ _
    | with_reducible exact Is.now _
    | with_reducible refine Is.ite ?_ ?_
    | with_reducible refine Is.bind ?_ (fun _ => ?_)
noncomputable def spec_IsBox.fv (a0_0 : Int) (l0_1 : List Int) (l0_2 : List Int) (a0_3 : Bool) : Option (Bool) := Lim fun k => spec_IsBox.f k a0_0 l0_1 l0_2 a0_3
theorem spec_IsBox.f_is (a0_0 : Int) (l0_1 : List Int) (l0_2 : List Int) (a0_3 : Bool) : Is (fun k => spec_IsBox.f k a0_0 l0_1 l0_2 a0_3) (spec_IsBox.fv a0_0 l0_1 l0_2 a0_3) := ⟨fun k => spec_IsBox.mono a0_0 l0_1 l0_2 a0_3 k, rfl⟩
theorem spec_IsBox.fv_eq (a0_0 : Int) (l0_1 : List Int) (l0_2 : List Int) (a0_3 : Bool) : spec_IsBox.fv a0_0 l0_1 l0_2 a0_3 = (spec_l1In.f a0_0 0 9).bind fun t749 => (if t749 = true then (if (l0_1.length : Int) ≤ 6 then (if (l0_2.length : Int) ≤ 6 then ((spec_l9Byte.fv l0_1).bind fun t750 => (if t750 = true then ((spec_l9Byte.fv l0_2).bind fun t751 => (some t751)) else (some false))) else (some false)) else (some false)) else (some false)) := by
  refine Is.lim (g := fun k => spec_IsBox.f k a0_0 l0_1 l0_2 a0_3) ?_
  · unfold spec_IsBox.f
    repeat' first
    | with_reducible exact spec_l9Byte.f_is _
    | with_reducible exact Is.now _
    | with_reducible refine Is.ite ?_ ?_
    | with_reducible refine Is.bind ?_ (fun _ => ?_)
end Go.Proofs.Ytdoefkloanpliaa.Print

/- Endpoints: their sizes, copies and equality, as the law's helpers tell them. Condition: at most 10 to the 12 of each. -/
set_option linter.unusedSimpArgs false
set_option linter.unusedVariables false
namespace Go.Proofs.Ytdoefkloanpliaa.Plain
open Go.RowKit Go.Proofs.YtdoefkloanpliaaW.PrintWords Go.Proofs.Ytdoefkloanpliaa.Base Go.Proofs.Ytdoefkloanpliaa.Print

/-- What is left of n behind an endpoint. -/
def sizeE (v t : List Int) (p : List S64) (n : Int) : Int :=
  if n < (v.length : Int) then -1 else if n - (v.length : Int) < (t.length : Int) then -1 else if sizeOf1 szB p (n - (v.length : Int) - (t.length : Int)) < 0 then -1 else sizeOf1 szB p (n - (v.length : Int) - (t.length : Int))
/-- Its rows are not too long. -/
def okE (v t : List Int) (p : List S64) : Prop := v.length ≤ 1000000000000 ∧ t.length ≤ 1000000000000 ∧ p.length ≤ 1000000000000 ∧ ∀ x ∈ p, okB (toB x)
theorem szEnd_v (v t : List Int) (p : List S64) (c n : Int) (h0 : 0 ≤ n) (h : n ≤ 1048576) (hv : v.length ≤ 1000000000000000000) (ht : t.length ≤ 1000000000000000000) (hp : p.length ≤ 100000000000000000) (hs : ∀ x ∈ p, x.f1.length ≤ 1000000000000000000 ∧ x.f2.length ≤ 1000000000000000000) : laws_szEndpoint.fv v t p c n = some (sizeE v t p n) := by
  rw [laws_szEndpoint.fv_eq, szIntS_f v n h0 h hv]
  simp only [Option.bind_some, sizeE]
  by_cases h1 : n < (v.length : Int)
  · rw [if_pos h1, if_pos (by omega), if_pos h1]
  · rw [if_neg h1, if_neg (by omega), if_neg h1, szIntS_f t _ (by omega) (by omega) ht]
    simp only [Option.bind_some]
    by_cases h2 : n - (v.length : Int) < (t.length : Int)
    · rw [if_pos h2, if_pos (by omega), if_pos h2]
    · rw [if_neg h2, if_neg (by omega), if_neg h2, szBoxS_v p _ (by omega) (by omega) hp hs]
      simp only [Option.bind_some]
      split <;> rfl
theorem sizeE_le {v t : List Int} {p : List S64} {n : Int} (h1 : n ≤ 1048576) (h : 0 ≤ sizeE v t p n) : sizeE v t p n ≤ n ∧ okE v t p := by
  unfold sizeE at h ⊢
  by_cases h2 : n < (v.length : Int)
  · rw [if_pos h2] at h
    omega
  · rw [if_neg h2] at h ⊢
    by_cases h3 : n - (v.length : Int) < (t.length : Int)
    · rw [if_pos h3] at h
      omega
    · rw [if_neg h3] at h ⊢
      by_cases h4 : sizeOf1 szB p (n - (v.length : Int) - (t.length : Int)) < 0
      · rw [if_pos h4] at h
        omega
      · rw [if_neg h4] at h ⊢
        obtain ⟨a, b, c⟩ := sizeOf1_le szB p _ h
        refine ⟨by omega, by omega, by omega, by omega, fun x hx => ?_⟩
        have h5 := c x hx
        unfold szB at h5
        exact ⟨by show x.f1.length ≤ _; omega, by show x.f2.length ≤ _; omega⟩
theorem toEnd_v (v t : List Int) (p : List S64) (c : Int) (h : okE v t p) : laws_toEndpoint.fv v t p c = some (v, t, p.map toB, c) := by
  obtain ⟨h1, h2, h3, h4⟩ := h
  rw [laws_toEndpoint.fv_eq, toIntS_v v h1, toIntS_v t h2, toBoxS_v p h3 h4]
  rfl
theorem eqEnd_v (v t : List Int) (p : List S64) (c : Int) (h : okE v t p) : laws_eqEndpoint.fv v t (p.map toB) c v t (p.map toB) c = some true := by
  obtain ⟨h1, h2, h3, h4⟩ := h
  have h5 : ∀ x ∈ p.map toB, okB x := by
    intro x hx
    obtain ⟨y, hy, rfl⟩ := List.mem_map.1 hx
    exact h4 y hy
  rw [laws_eqEndpoint.fv_eq, eqIntS_v v v h1, eqIntS_v t t h2, eqBoxS_v (p.map toB) (by rw [List.length_map]; exact h3) h5]
  simp
theorem okE_boxes {v t : List Int} {p : List S64} (h : okE v t p) : ∀ x ∈ p.map toB, okB x := by
  intro x hx
  obtain ⟨y, hy, rfl⟩ := List.mem_map.1 hx
  exact h.2.2.2 y hy
end Go.Proofs.Ytdoefkloanpliaa.Plain

/- When two boxes, and two paths, are the same. No program. No condition. -/
set_option linter.unusedSimpArgs false
set_option linter.unusedVariables false
namespace Go.Proofs.Ytdoefkloanpliaa.Plain
open Go.RowKit Go.Proofs.YtdoefkloanpliaaW.PrintWords Go.Proofs.Ytdoefkloanpliaa.Base Go.Proofs.Ytdoefkloanpliaa.Print

def eqB (a b : S67) : Bool := decide (a.f0 = b.f0) && (decide (a.f1 = b.f1) && (decide (a.f2 = b.f2) && (a.f3 == b.f3)))
def eqBs : List S67 → List S67 → Bool
  | [], [] => true
  | a :: l, b :: m => eqB a b && eqBs l m
  | _, _ => false
theorem eqBs_len {l m : List S67} : l.length ≠ m.length → eqBs l m = false := by
  induction l generalizing m with
  | nil =>
    intro h
    cases m with
    | nil => exact absurd rfl h
    | cons b m => rfl
  | cons a l ih =>
    intro h
    cases m with
    | nil => rfl
    | cons b m =>
      simp only [eqBs]
      rw [ih (by simpa using h), Bool.and_false]
end Go.Proofs.Ytdoefkloanpliaa.Plain

/- slices.Equal on whole numbers. Condition: at most 10 to the 12 numbers. -/
set_option linter.unusedSimpArgs false
set_option linter.unusedVariables false
namespace Go.Proofs.Ytdoefkloanpliaa.Plain
open Go.RowKit Go.Proofs.YtdoefkloanpliaaW.PrintWords Go.Proofs.Ytdoefkloanpliaa.Base Go.Proofs.Ytdoefkloanpliaa.Print

theorem slicesEqual_l0 (sa : List Int) : ∀ (pre sb : List Int), sb.length = sa.length → (pre ++ sa).length ≤ 1000000000000 → slices_Equal_int_int.l0v (pre ++ sa) (pre ++ sb) ((pre ++ sa).length : Int) (pre.length : Int) = some (decide (sa = sb)) := by
  induction sa with
  | nil =>
    intro pre sb hr _
    rw [slices_Equal_int_int.l0v_eq, if_neg (nlt_end pre)]
    simp at hr
    simp [hr]
  | cons x sa ih =>
    intro pre sb hr hl
    cases sb with
    | nil => simp at hr
    | cons y sb =>
      have hn : pre.length < (pre ++ x :: sa).length := by simp
      rw [slices_Equal_int_int.l0v_eq, if_pos (lt_mid pre sa x), if_pos (by omega), if_pos (lt_mid pre sa x), if_pos (lt_mid pre sb y), rd_mid, rd_mid, up_mid pre x hn hl]
      by_cases hxy : x = y
      · subst hxy
        rw [if_pos rfl]
        rw [mid_snoc pre sa x] at hl ⊢
        rw [mid_snoc pre sb x]
        rw [ih (pre ++ [x]) sb (by simpa using hr) hl]
        simp
      · rw [if_neg hxy]
        simp [hxy]
theorem slicesEqual_v (a b : List Int) (hl : a.length ≤ 1000000000000) : slices_Equal_int_int.fv a b = some (decide (a = b)) := by
  rw [slices_Equal_int_int.fv_eq]
  by_cases h : a.length = b.length
  · rw [if_pos (by omega)]
    have h1 := slicesEqual_l0 a [] b h.symm (by simpa using hl)
    simpa using h1
  · rw [if_neg (by omega)]
    have : a ≠ b := fun e => h (by rw [e])
    simp [this]
end Go.Proofs.Ytdoefkloanpliaa.Plain

/- EqualBoxes and EqualEndpoints, of the program. Condition: at most 10 to the 12 of each. -/
set_option linter.unusedSimpArgs false
set_option linter.unusedVariables false
namespace Go.Proofs.Ytdoefkloanpliaa.Plain
open Go.RowKit Go.Proofs.YtdoefkloanpliaaW.PrintWords Go.Proofs.Ytdoefkloanpliaa.Base Go.Proofs.Ytdoefkloanpliaa.Print

theorem implEqB_v (a b : S67) (h : okB a) : impl_EqualBoxes.fv a.f0 a.f1 a.f2 a.f3 b.f0 b.f1 b.f2 b.f3 = some (eqB a b) := by
  rw [impl_EqualBoxes.fv_eq, slicesEqual_v _ _ h.1, slicesEqual_v _ _ h.2]
  simp only [Option.bind_some, eqB]
  by_cases h1 : a.f0 = b.f0 <;> by_cases h2 : a.f1 = b.f1 <;> by_cases h3 : a.f2 = b.f2 <;> simp [h1, h2, h3]
theorem implEqBs_l0 (sa : List S67) : ∀ (pre q sb : List S67), q.length = pre.length → sb.length = sa.length → (pre ++ sa).length ≤ 1000000000000 → (∀ x ∈ sa, okB x) →
    slices_EqualFunc_impl_Box_impl_Box_impl_Box_impl_Box_with_impl_EqualBoxes.l0v (q ++ sb) (pre ++ sa) ((pre ++ sa).length : Int) (pre.length : Int) = some (eqBs sa sb) := by
  induction sa with
  | nil =>
    intro pre q sb _ hr _ _
    rw [slices_EqualFunc_impl_Box_impl_Box_impl_Box_impl_Box_with_impl_EqualBoxes.l0v_eq, if_neg (nlt_end pre)]
    simp at hr
    simp [hr, eqBs]
  | cons x sa ih =>
    intro pre q sb hq hr hl hs
    cases sb with
    | nil => simp at hr
    | cons y sb =>
      have hn : pre.length < (pre ++ x :: sa).length := by simp
      rw [slices_EqualFunc_impl_Box_impl_Box_impl_Box_impl_Box_with_impl_EqualBoxes.l0v_eq, if_pos (lt_mid pre sa x), if_pos (by omega), if_pos (lt_mid pre sa x), rdBox_mid, up_mid pre x hn hl, ← hq, if_pos (lt_mid q sb y), rdBox_mid, implEqB_v x y (hs x List.mem_cons_self)]
      simp only [Option.bind_some, eqBs]
      cases eqB x y with
      | false => simp
      | true =>
        rw [if_pos rfl, mid_snoc q sb y]
        rw [mid_snoc pre sa x] at hl ⊢
        rw [ih (pre ++ [x]) (q ++ [y]) sb (by simp [hq]) (by simpa using hr) hl (fun y hy => hs y (List.mem_cons_of_mem _ hy))]
        rfl
theorem implEqBs_v (l m : List S67) (hl : l.length ≤ 1000000000000) (hs : ∀ x ∈ l, okB x) : slices_EqualFunc_impl_Box_impl_Box_impl_Box_impl_Box_with_impl_EqualBoxes.fv l m = some (eqBs l m) := by
  rw [slices_EqualFunc_impl_Box_impl_Box_impl_Box_impl_Box_with_impl_EqualBoxes.fv_eq]
  by_cases h : l.length = m.length
  · rw [if_pos (by omega)]
    simpa using implEqBs_l0 l [] [] m rfl h.symm (by simpa using hl) hs
  · rw [if_neg (by omega), eqBs_len h]
/-- When two endpoints are the same. -/
def eqE (v t : List Int) (p : List S67) (c : Int) (v' t' : List Int) (p' : List S67) (c' : Int) : Bool := decide (v = v') && (decide (t = t') && (eqBs p p' && decide (c = c')))
theorem implEqE_v (v t : List Int) (p : List S67) (c : Int) (v' t' : List Int) (p' : List S67) (c' : Int) (hv : v.length ≤ 1000000000000) (ht : t.length ≤ 1000000000000) (hp : p.length ≤ 1000000000000) (hs : ∀ x ∈ p, okB x) :
    impl_EqualEndpoints.fv v t p c v' t' p' c' = some (eqE v t p c v' t' p' c') := by
  rw [impl_EqualEndpoints.fv_eq, slicesEqual_v v v' hv, slicesEqual_v t t' ht, implEqBs_v p p' hp hs]
  simp only [Option.bind_some, eqE]
  by_cases h1 : v = v' <;> by_cases h2 : t = t' <;> cases eqBs p p' <;> by_cases h4 : c = c' <;> simp [h1, h2, h4]
end Go.Proofs.Ytdoefkloanpliaa.Plain

/- EqualInts, of the reference, and slices.Equal. Condition: at most 10 to the 12 numbers. -/
set_option linter.unusedSimpArgs false
set_option linter.unusedVariables false
namespace Go.Proofs.Ytdoefkloanpliaa.Plain
open Go.RowKit Go.Proofs.YtdoefkloanpliaaW.PrintWords Go.Proofs.Ytdoefkloanpliaa.Base Go.Proofs.Ytdoefkloanpliaa.Print

theorem specEqualInts_l0 (sa : List Int) : ∀ (pre sb : List Int), sb.length = sa.length → (pre ++ sa).length ≤ 1000000000000 → spec_EqualInts.l0v (pre ++ sa) (pre ++ sb) (pre.length : Int) = some (decide (sa = sb)) := by
  induction sa with
  | nil =>
    intro pre sb hr _
    rw [spec_EqualInts.l0v_eq, if_neg (nlt_end pre)]
    simp at hr
    simp [hr]
  | cons x sa ih =>
    intro pre sb hr hl
    cases sb with
    | nil => simp at hr
    | cons y sb =>
      have hn : pre.length < (pre ++ x :: sa).length := by simp
      rw [spec_EqualInts.l0v_eq, if_pos (lt_mid pre sa x), if_pos (by omega), if_pos (lt_mid pre sb y), rd_mid, rd_mid, up_mid pre x hn hl]
      by_cases hxy : x = y
      · subst hxy
        rw [if_pos rfl]
        rw [mid_snoc pre sa x] at hl ⊢
        rw [mid_snoc pre sb x]
        rw [ih (pre ++ [x]) sb (by simpa using hr) hl]
        simp
      · rw [if_neg hxy]
        simp [hxy]
theorem specEqualInts_v (a b : List Int) (hl : a.length ≤ 1000000000000) : spec_EqualInts.fv a b = some (decide (a = b)) := by
  rw [spec_EqualInts.fv_eq]
  by_cases h : a.length = b.length
  · rw [if_pos (by omega)]
    have h1 := specEqualInts_l0 a [] b h.symm (by simpa using hl)
    simpa using h1
  · rw [if_neg (by omega)]
    have : a ≠ b := fun e => h (by rw [e])
    simp [this]
end Go.Proofs.Ytdoefkloanpliaa.Plain

/- EqualBoxes and EqualEndpoints, of the reference. Condition: at most 10 to the 12 of each. -/
set_option linter.unusedSimpArgs false
set_option linter.unusedVariables false
namespace Go.Proofs.Ytdoefkloanpliaa.Plain
open Go.RowKit Go.Proofs.YtdoefkloanpliaaW.PrintWords Go.Proofs.Ytdoefkloanpliaa.Base Go.Proofs.Ytdoefkloanpliaa.Print

theorem specEqB_v (a b : S67) (h : okB a) : spec_EqualBoxes.fv a.f0 a.f1 a.f2 a.f3 b.f0 b.f1 b.f2 b.f3 = some (eqB a b) := by
  rw [spec_EqualBoxes.fv_eq, specEqualInts_v _ _ h.1, specEqualInts_v _ _ h.2]
  simp only [Option.bind_some, eqB]
  by_cases h1 : a.f0 = b.f0 <;> by_cases h2 : a.f1 = b.f1 <;> by_cases h3 : a.f2 = b.f2 <;> cases a.f3 <;> cases b.f3 <;> simp [h1, h2, h3]
theorem specEqE_l0 (v t : List Int) (c : Int) (v' t' : List Int) (c' : Int) (hv : v.length ≤ 1000000000000) (ht : t.length ≤ 1000000000000) (sa : List S67) : ∀ (pre q sb : List S67), q.length = pre.length → sb.length = sa.length → (pre ++ sa).length ≤ 1000000000000 → (∀ x ∈ sa, okB x) →
    spec_EqualEndpoints.l0v (pre.length : Int) v t (pre ++ sa) c v' t' (q ++ sb) c' = some (eqBs sa sb && (decide (v = v') && decide (t = t'))) := by
  induction sa with
  | nil =>
    intro pre q sb _ hr _ _
    rw [spec_EqualEndpoints.l0v_eq, if_neg (nlt_end pre), specEqualInts_v v v' hv, specEqualInts_v t t' ht]
    simp at hr
    by_cases h1 : v = v' <;> by_cases h2 : t = t' <;> simp [hr, eqBs, h1, h2]
  | cons x sa ih =>
    intro pre q sb hq hr hl hs
    cases sb with
    | nil => simp at hr
    | cons y sb =>
      have hn : pre.length < (pre ++ x :: sa).length := by simp
      rw [spec_EqualEndpoints.l0v_eq, if_pos (lt_mid pre sa x), if_pos (by omega), rdBox_mid, up_mid pre x hn hl, ← hq, if_pos (lt_mid q sb y), rdBox_mid, specEqB_v x y (hs x List.mem_cons_self)]
      simp only [Option.bind_some, eqBs]
      cases eqB x y with
      | false => simp
      | true =>
        rw [if_pos rfl, mid_snoc q sb y]
        rw [mid_snoc pre sa x] at hl ⊢
        rw [ih (pre ++ [x]) (q ++ [y]) sb (by simp [hq]) (by simpa using hr) hl (fun y hy => hs y (List.mem_cons_of_mem _ hy))]
        rfl
theorem specEqE_v (v t : List Int) (p : List S67) (c : Int) (v' t' : List Int) (p' : List S67) (c' : Int) (hv : v.length ≤ 1000000000000) (ht : t.length ≤ 1000000000000) (hp : p.length ≤ 1000000000000) (hs : ∀ x ∈ p, okB x) :
    spec_EqualEndpoints.fv v t p c v' t' p' c' = some (eqE v t p c v' t' p' c') := by
  rw [spec_EqualEndpoints.fv_eq]
  simp only [spec_EqualEndpoints.j0v_eq, if_true]
  unfold eqE
  by_cases h : p.length = p'.length
  · rw [if_pos (by omega)]
    by_cases hc : c = c'
    · rw [if_neg (by simp [hc])]
      have h1 := specEqE_l0 v t c v' t' c' hv ht p [] [] p' rfl h.symm (by simpa using hp) hs
      simp only [List.nil_append, List.length_nil, Int.natCast_zero] at h1
      rw [h1]
      cases eqBs p p' <;> by_cases h1 : v = v' <;> by_cases h2 : t = t' <;> simp [h1, h2, hc]
    · rw [if_pos (by simp [hc])]
      simp [hc]
  · rw [if_neg (by omega), eqBs_len h]
    simp
end Go.Proofs.Ytdoefkloanpliaa.Plain

/- Written by a program of this session (limx.py): the equations of what the printed functions come to. No condition. -/
namespace Go.Proofs.Ytdoefkloanpliaa.Print
open Go.RowKit Go.Proofs.YtdoefkloanpliaaW.PrintWords Go.Proofs.YtdoefkloanpliaaW.PrintLast Go.Proofs.Ytdoefkloanpliaa.Base
set_option linter.unusedVariables false
set_option maxRecDepth 20000
noncomputable def laws_FnExactEqualEndpoints.fv (l0_0 : List Int) (l0_1 : List Int) (l0_2 : List (S64)) (a0_3 : Int) (l1_0 : List Int) (l1_1 : List Int) (l1_2 : List (S64)) (a1_3 : Int) : Option (Bool) := Lim fun k => laws_FnExactEqualEndpoints.f k l0_0 l0_1 l0_2 a0_3 l1_0 l1_1 l1_2 a1_3
theorem laws_FnExactEqualEndpoints.f_is (l0_0 : List Int) (l0_1 : List Int) (l0_2 : List (S64)) (a0_3 : Int) (l1_0 : List Int) (l1_1 : List Int) (l1_2 : List (S64)) (a1_3 : Int) : Is (fun k => laws_FnExactEqualEndpoints.f k l0_0 l0_1 l0_2 a0_3 l1_0 l1_1 l1_2 a1_3) (laws_FnExactEqualEndpoints.fv l0_0 l0_1 l0_2 a0_3 l1_0 l1_1 l1_2 a1_3) := ⟨fun k => laws_FnExactEqualEndpoints.mono l0_0 l0_1 l0_2 a0_3 l1_0 l1_1 l1_2 a1_3 k, rfl⟩
theorem laws_FnExactEqualEndpoints.fv_eq (l0_0 : List Int) (l0_1 : List Int) (l0_2 : List (S64)) (a0_3 : Int) (l1_0 : List Int) (l1_1 : List Int) (l1_2 : List (S64)) (a1_3 : Int) : laws_FnExactEqualEndpoints.fv l0_0 l0_1 l0_2 a0_3 l1_0 l1_1 l1_2 a1_3 = (laws_szEndpoint.fv l0_0 l0_1 l0_2 a0_3 1048576).bind fun t677 => (if t677 < 0 then (some true) else ((laws_szEndpoint.fv l1_0 l1_1 l1_2 a1_3 t677).bind fun t678 => (if t678 < 0 then (some true) else ((laws_toEndpoint.fv l0_0 l0_1 l0_2 a0_3).bind fun bt679 => ((laws_toEndpoint.fv l1_0 l1_1 l1_2 a1_3).bind fun bt689 => ((spec_EqualEndpoints.fv bt679.1 bt679.2.1 bt679.2.2.1 bt679.2.2.2 bt689.1 bt689.2.1 bt689.2.2.1 bt689.2.2.2).bind fun t699 => ((laws_toEndpoint.fv l0_0 l0_1 l0_2 a0_3).bind fun bt700 => ((laws_toEndpoint.fv l1_0 l1_1 l1_2 a1_3).bind fun bt711 => ((impl_EqualEndpoints.fv bt700.1 bt700.2.1 bt700.2.2.1 bt700.2.2.2 bt711.1 bt711.2.1 bt711.2.2.1 bt711.2.2.2).bind fun t722 => (if (t722 != t699) = true then (some false) else ((laws_toEndpoint.fv l0_0 l0_1 l0_2 a0_3).bind fun bt723 => ((laws_eqEndpoint.fv bt700.1 bt700.2.1 bt700.2.2.1 bt700.2.2.2 bt723.1 bt723.2.1 bt723.2.2.1 bt723.2.2.2).bind fun t733 => (if t733 = true then ((laws_toEndpoint.fv l1_0 l1_1 l1_2 a1_3).bind fun bt734 => ((laws_eqEndpoint.fv bt711.1 bt711.2.1 bt711.2.2.1 bt711.2.2.2 bt734.1 bt734.2.1 bt734.2.2.1 bt734.2.2.2).bind fun t744 => (if t744 = true then (some true) else (some false)))) else (some false)))))))))))))) := by
  refine Is.lim (g := fun k => laws_FnExactEqualEndpoints.f k l0_0 l0_1 l0_2 a0_3 l1_0 l1_1 l1_2 a1_3) ?_
  · unfold laws_FnExactEqualEndpoints.f
    repeat' first
    | with_reducible exact impl_EqualEndpoints.f_is _ _ _ _ _ _ _ _
    | with_reducible exact laws_eqEndpoint.f_is _ _ _ _ _ _ _ _
    | with_reducible exact laws_szEndpoint.f_is _ _ _ _ _
    | with_reducible exact laws_toEndpoint.f_is _ _ _ _
    | with_reducible exact spec_EqualEndpoints.f_is _ _ _ _ _ _ _ _
    | with_reducible exact Is.now _
    | with_reducible refine Is.ite ?_ ?_
    | with_reducible refine Is.bind ?_ (fun _ => ?_)
end Go.Proofs.Ytdoefkloanpliaa.Print

/- FnExactEqualEndpoints: whatever the two endpoints, the program's EqualEndpoints and the reference's EqualEndpoints return the same and leave the endpoints as they were. No condition. -/
set_option linter.unusedSimpArgs false
set_option linter.unusedVariables false
namespace Go.Proofs.Ytdoefkloanpliaa.Pure
open Go.RowKit Go.Proofs.YtdoefkloanpliaaW.PrintWords Go.Proofs.Ytdoefkloanpliaa.Base Go.Proofs.Ytdoefkloanpliaa.Print Go.Proofs.Ytdoefkloanpliaa.Plain

theorem FnExactEqualEndpoints : laws_FnExactEqualEndpoints.Pure := by
  rintro ⟨v, t, p, c⟩ ⟨v', t', p', c'⟩ ⟨⟨hv, _⟩, ⟨ht, _⟩, ⟨hp, hb⟩, _⟩ ⟨⟨hv', _⟩, ⟨ht', _⟩, ⟨hp', hb'⟩, _⟩
  have hv : v.length * 8 ≤ 140737488351232 := hv
  have ht : t.length * 8 ≤ 140737488351232 := ht
  have hv' : v'.length * 8 ≤ 140737488351232 := hv'
  have ht' : t'.length * 8 ≤ 140737488351232 := ht'
  have hs : ∀ x ∈ p, x.f1.length ≤ 1000000000000000000 ∧ x.f2.length ≤ 1000000000000000000 := fun x hx => by
    obtain ⟨_, ⟨h1, _⟩, ⟨h2, _⟩, _⟩ := hb x hx
    exact ⟨by omega, by omega⟩
  have hs' : ∀ x ∈ p', x.f1.length ≤ 1000000000000000000 ∧ x.f2.length ≤ 1000000000000000000 := fun x hx => by
    obtain ⟨_, ⟨h1, _⟩, ⟨h2, _⟩, _⟩ := hb' x hx
    exact ⟨by omega, by omega⟩
  have hp : p.length * 64 ≤ 140737488351232 := hp
  have hp' : p'.length * 64 ≤ 140737488351232 := hp'
  refine ends (g := fun k => laws_FnExactEqualEndpoints.f k v t p c v' t' p' c') ?_
  show laws_FnExactEqualEndpoints.fv v t p c v' t' p' c' = some true
  rw [laws_FnExactEqualEndpoints.fv_eq, szEnd_v v t p c 1048576 (by omega) (by omega) (by omega) (by omega) (by omega) hs]
  simp only [Option.bind_some]
  by_cases h1 : sizeE v t p 1048576 < 0
  · rw [if_pos h1]
  · obtain ⟨l1, o1⟩ := sizeE_le (by omega) (Int.not_lt.mp h1)
    rw [if_neg h1, szEnd_v v' t' p' c' _ (by omega) (by omega) (by omega) (by omega) (by omega) hs']
    simp only [Option.bind_some]
    by_cases h2 : sizeE v' t' p' (sizeE v t p 1048576) < 0
    · rw [if_pos h2]
    · obtain ⟨l2, o2⟩ := sizeE_le (by omega) (Int.not_lt.mp h2)
      have hq : (p.map toB).length ≤ 1000000000000 := by
        rw [List.length_map]
        exact o1.2.2.1
      rw [if_neg h2, toEnd_v v t p c o1, toEnd_v v' t' p' c' o2]
      simp [specEqE_v v t (p.map toB) c v' t' (p'.map toB) c' o1.1 o1.2.1 hq (okE_boxes o1), implEqE_v v t (p.map toB) c v' t' (p'.map toB) c' o1.1 o1.2.1 hq (okE_boxes o1), eqEnd_v v t p c o1, eqEnd_v v' t' p' c' o2]
end Go.Proofs.Ytdoefkloanpliaa.Pure
