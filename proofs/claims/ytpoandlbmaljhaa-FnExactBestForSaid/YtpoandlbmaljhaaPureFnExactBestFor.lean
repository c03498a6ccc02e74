/- FnExactBestFor: whatever the endpoint and the server, the program's BestFor and the reference's BestFor return the same and leave the arguments as they were. No condition. -/
import Derived.Test.YtpoandlbmaljhaaWWords
import Derived.Test.YtpoandlbmaljhaaPrint1
import Derived.Test.YtpoandlbmaljhaaPrint0
import Derived.Test.YtpoandlbmaljhaaPrint8
import Derived.Test.YtpoandlbmaljhaaPrint2
import Derived.Test.YtpoandlbmaljhaaPrint3
import Derived.Test.YtpoandlbmaljhaaPrint4
import Derived.Test.YtpoandlbmaljhaaPrint7
import Derived.Test.YtpoandlbmaljhaaPrint5
import Derived.Test.YtpoandlbmaljhaaPrint6
import Derived.Test.YtpoandlbmaljhaaPrint15
import Derived.Test.YtpoandlbmaljhaaPrint10
import Derived.Test.YtpoandlbmaljhaaPrint9
import Derived.Test.YtpoandlbmaljhaaPrint11
import Derived.Test.YtpoandlbmaljhaaPrint14
import Derived.Test.YtpoandlbmaljhaaPrint12
import Derived.Test.YtpoandlbmaljhaaPrint13
import Derived.Test.YtpoandlbmaljhaaPrint16
import Derived.Test.YtpoandlbmaljhaaPrint17
/- What a function with rounds comes to when it has rounds enough, as an option: its equations hold without rounds. No condition. -/
namespace Go.Proofs.Ytpoandlbmaljhaa.Base
open Go.RowKit Go.Proofs.YtpoandlbmaljhaaW.PrintWords

/-- More rounds tell the same. -/
def Mo {α : Type} (g : Nat → Option α) : Prop := ∀ k, LeO (g k) (g (k + 1))
theorem mo_le {α : Type} {g : Nat → Option α} (h : Mo g) {k k' : Nat} (hk : k ≤ k') {r : α} (hr : g k = some r) : g k' = some r := at_rounds h hk hr
open Classical in
/-- What it comes to at last: nothing, or one answer. -/
noncomputable def Lim {α : Type} (g : Nat → Option α) : Option α := if h : ∃ r, ∃ k, g k = some r then some (Classical.choose h) else none
theorem lim_some {α : Type} {g : Nat → Option α} (h : Mo g) {k : Nat} {r : α} (hr : g k = some r) : Lim g = some r := by
  have hx : ∃ r, ∃ k, g k = some r := ⟨r, k, hr⟩
  unfold Lim
  rw [dif_pos hx]
  obtain ⟨k', hk'⟩ := Classical.choose_spec hx
  have h1 := mo_le h (Nat.le_max_left k k') hr
  have h2 := mo_le h (Nat.le_max_right k k') hk'
  rw [h1] at h2
  exact h2.symm
theorem of_lim {α : Type} {g : Nat → Option α} {r : α} (h : Lim g = some r) : ∃ k, g k = some r := by
  unfold Lim at h
  split at h
  · rename_i hx
    obtain rfl := Option.some.inj h
    exact Classical.choose_spec hx
  · cases h
theorem lim_none {α : Type} {g : Nat → Option α} (h : Lim g = none) (k : Nat) : g k = none := by
  cases hk : g k with
  | none => rfl
  | some r =>
    unfold Lim at h
    rw [dif_pos ⟨r, k, hk⟩] at h
    cases h
theorem none_lim {α : Type} {g : Nat → Option α} (h : ∀ k, g k = none) : Lim g = none := by
  unfold Lim
  rw [dif_neg]
  rintro ⟨r, k, hk⟩
  rw [h k] at hk
  cases hk
structure Is {α : Type} (g : Nat → Option α) (v : Option α) : Prop where
  mo : Mo g
  lim : Lim g = v
theorem Is.now {α : Type} (v : Option α) : Is (fun _ => v) v := by
  refine ⟨fun _ => LeO.refl _, ?_⟩
  cases v with
  | none => exact none_lim fun _ => rfl
  | some r => exact lim_some (g := fun _ => some r) (fun _ => LeO.refl _) (k := 0) rfl
theorem Is.ite {α : Type} {c : Prop} [Decidable c] {g h : Nat → Option α} {a b : Option α} (hg : Is g a) (hh : Is h b) : Is (fun k => if c then g k else h k) (if c then a else b) := by
  by_cases hc : c
  · simp only [if_pos hc]
    exact hg
  · simp only [if_neg hc]
    exact hh
theorem Is.bind {α β : Type} {g : Nat → Option α} {f : Nat → α → Option β} {a : Option α} {b : α → Option β} (hg : Is g a) (hf : ∀ x, Is (fun k => f k x) (b x)) : Is (fun k => (g k).bind (f k)) (a.bind b) := by
  have hm : Mo (fun k => (g k).bind (f k)) := fun k => LeO.bind (hg.mo k) (fun x => (hf x).mo k)
  refine ⟨hm, ?_⟩
  cases ha : a with
  | none =>
    refine none_lim fun k => ?_
    rw [lim_none (hg.lim.trans ha) k]
    rfl
  | some x =>
    obtain ⟨k, hk⟩ := of_lim (hg.lim.trans ha)
    show _ = b x
    cases hb : b x with
    | none =>
      refine none_lim fun k' => ?_
      cases hx : (g k').bind (f k') with
      | none => rfl
      | some r =>
        have h1 := mo_le hm (Nat.le_max_left k' k) hx
        have h2 := mo_le hg.mo (Nat.le_max_right k' k) hk
        simp only [h2, Option.bind_some] at h1
        rw [lim_none ((hf x).lim.trans hb)] at h1
        cases h1
    | some r =>
      obtain ⟨k', hk'⟩ := of_lim ((hf x).lim.trans hb)
      refine lim_some hm (k := max k k') ?_
      simp only [mo_le hg.mo (Nat.le_max_left k k') hk, Option.bind_some]
      exact mo_le (hf x).mo (Nat.le_max_right k k') hk'
theorem Is.step {α : Type} {g b : Nat → Option α} {v : Option α} (hg : Mo g) (h : ∀ k, g (k + 1) = b k) (hb : Is b v) : Lim g = v := by
  rw [← hb.lim]
  cases hx : Lim g with
  | none =>
    symm
    refine none_lim fun k => ?_
    rw [← h k]
    exact lim_none hx _
  | some r =>
    obtain ⟨k, hk⟩ := of_lim hx
    symm
    refine lim_some hb.mo (k := k) ?_
    rw [← h k]
    exact mo_le hg (Nat.le_succ k) hk
theorem ends {α : Type} {g : Nat → Option α} {r : α} (h : Lim g = some r) : ∃ k, g k = some r := of_lim h
end Go.Proofs.Ytpoandlbmaljhaa.Base

/- Lists read by a whole number's index, and whole numbers that fit. No condition. -/
set_option linter.unusedSimpArgs false
set_option linter.unusedVariables false
namespace Go.Proofs.Ytpoandlbmaljhaa.Plain
open Go.RowKit Go.Proofs.YtpoandlbmaljhaaW.PrintWords

theorem w64 {x : Int} (h0 : -9223372036854775808 ≤ x) (h1 : x ≤ 9223372036854775807) : wrap64 x = x := by
  unfold wrap64
  omega
theorem rd_mid (pre suf : List Int) (x : Int) : rd (pre ++ x :: suf) (pre.length : Int) = x := by simp [rd]
theorem lt_mid {α : Type} (pre suf : List α) (x : α) : (pre.length : Int) < ((pre ++ x :: suf).length : Int) := by
  simp
  omega
theorem nlt_end {α : Type} (pre : List α) : ¬ (pre.length : Int) < ((pre ++ []).length : Int) := by simp
theorem up_mid {α : Type} (pre : List α) (x : α) {n : Nat} (h : pre.length < n) (hn : n ≤ 1000000000000) : wrap64 ((pre.length : Int) + 1) = ((pre ++ [x]).length : Int) := by
  rw [w64 (by omega) (by omega)]
  simp
theorem set_mid {α : Type} (pre suf : List α) (x y : α) : (pre ++ x :: suf).set (pre.length : Int).toNat y = (pre ++ [y]) ++ suf := by
  rw [Int.toNat_natCast, List.set_append_right _ _ (Nat.le_refl _), Nat.sub_self]
  simp
theorem mid_snoc {α : Type} (pre suf : List α) (x : α) : pre ++ x :: suf = (pre ++ [x]) ++ suf := by simp
theorem beq_ints (a b : List Int) : (a == b) = decide (a = b) := by
  by_cases h : a = b <;> simp [h]
end Go.Proofs.Ytpoandlbmaljhaa.Plain

/- Written by a program of this session (limx.py): the equations of what the printed functions come to. No condition. -/
namespace Go.Proofs.Ytpoandlbmaljhaa.Print
open Go.RowKit Go.Proofs.YtpoandlbmaljhaaW.PrintWords Go.Proofs.YtpoandlbmaljhaaW.PrintLast Go.Proofs.Ytpoandlbmaljhaa.Base
set_option linter.unusedVariables false
set_option maxRecDepth 20000
noncomputable def laws_toIntS.l0v (x0 : List Int) (x3 : List Int) (x4 : Int) : Option (List Int) := Lim fun k => laws_toIntS.l0 k x0 x3 x4
noncomputable def laws_toIntS.fv (l0 : List Int) : Option (List Int) := Lim fun k => laws_toIntS.f k l0
theorem laws_toIntS.l0_is (x0 : List Int) (x3 : List Int) (x4 : Int) : Is (fun k => laws_toIntS.l0 k x0 x3 x4) (laws_toIntS.l0v x0 x3 x4) := ⟨fun k => (laws_toIntS.mono_l k) x0 x3 x4, rfl⟩
theorem laws_toIntS.f_is (l0 : List Int) : Is (fun k => laws_toIntS.f k l0) (laws_toIntS.fv l0) := ⟨fun k => laws_toIntS.mono l0 k, rfl⟩
theorem laws_toIntS.l0v_eq (x0 : List Int) (x3 : List Int) (x4 : Int) : laws_toIntS.l0v x0 x3 x4 = if x4 < (x0.length : Int) then (if 0 ≤ x4 then (if x4 < (x3.length : Int) then (laws_toIntS.l0v x0 (x3.set (x4 : Int).toNat (rd x0 x4)) (wrap64 (x4 + 1))) else (none)) else (none)) else (some x3) := by
  refine Is.step (laws_toIntS.l0_is x0 x3 x4).mo (fun k => by rw [laws_toIntS.l0]) ?_
  · skip
    repeat' first
    | with_reducible exact laws_toIntS.l0_is _ _ _
    | with_reducible exact Is.now _
    | with_reducible refine Is.ite ?_ ?_
    | with_reducible refine Is.bind ?_ (fun _ => ?_)
theorem laws_toIntS.fv_eq (l0 : List Int) : laws_toIntS.fv l0 = if 0 ≤ (l0.length : Int) then (if ((l0.length : Int) : Int).toNat ≤ 35184372088832 then (laws_toIntS.l0v l0 (List.replicate ((l0.length : Int) : Int).toNat 0) 0) else (none)) else (none) := by
  refine Is.lim (g := fun k => laws_toIntS.f k l0) ?_
  · unfold laws_toIntS.f
    repeat' first
    | with_reducible exact laws_toIntS.l0_is _ _ _
    | with_reducible exact Is.now _
    | with_reducible refine Is.ite ?_ ?_
    | with_reducible refine Is.bind ?_ (fun _ => ?_)
noncomputable def laws_eqIntS.l0v (x0 : List Int) (x1 : List Int) (x5 : Int) : Option (Bool) := Lim fun k => laws_eqIntS.l0 k x0 x1 x5
noncomputable def laws_eqIntS.fv (l0 : List Int) (l1 : List Int) : Option (Bool) := Lim fun k => laws_eqIntS.f k l0 l1
theorem laws_eqIntS.l0_is (x0 : List Int) (x1 : List Int) (x5 : Int) : Is (fun k => laws_eqIntS.l0 k x0 x1 x5) (laws_eqIntS.l0v x0 x1 x5) := ⟨fun k => (laws_eqIntS.mono_l k) x0 x1 x5, rfl⟩
theorem laws_eqIntS.f_is (l0 : List Int) (l1 : List Int) : Is (fun k => laws_eqIntS.f k l0 l1) (laws_eqIntS.fv l0 l1) := ⟨fun k => laws_eqIntS.mono l0 l1 k, rfl⟩
theorem laws_eqIntS.l0v_eq (x0 : List Int) (x1 : List Int) (x5 : Int) : laws_eqIntS.l0v x0 x1 x5 = if x5 < (x0.length : Int) then (if 0 ≤ x5 then (if x5 < (x1.length : Int) then (if (rd x0 x5) = (rd x1 x5) then (laws_eqIntS.l0v x0 x1 (wrap64 (x5 + 1))) else (some false)) else (none)) else (none)) else (some true) := by
  refine Is.step (laws_eqIntS.l0_is x0 x1 x5).mo (fun k => by rw [laws_eqIntS.l0]) ?_
  · skip
    repeat' first
    | with_reducible exact laws_eqIntS.l0_is _ _ _
    | with_reducible exact Is.now _
    | with_reducible refine Is.ite ?_ ?_
    | with_reducible refine Is.bind ?_ (fun _ => ?_)
theorem laws_eqIntS.fv_eq (l0 : List Int) (l1 : List Int) : laws_eqIntS.fv l0 l1 = if (l0.length : Int) = (l1.length : Int) then (laws_eqIntS.l0v l0 l1 0) else (some false) := by
  refine Is.lim (g := fun k => laws_eqIntS.f k l0 l1) ?_
  · unfold laws_eqIntS.f
    repeat' first
    | with_reducible exact laws_eqIntS.l0_is _ _ _
    | with_reducible exact Is.now _
    | with_reducible refine Is.ite ?_ ?_
    | with_reducible refine Is.bind ?_ (fun _ => ?_)
noncomputable def laws_szBoxS.l0v (x0 : List (S46)) (x1 : Int) (x5 : Int) : Option (Int) := Lim fun k => laws_szBoxS.l0 k x0 x1 x5
noncomputable def laws_szBoxS.fv (l0 : List (S46)) (a1 : Int) : Option (Int) := Lim fun k => laws_szBoxS.f k l0 a1
theorem laws_szBoxS.l0_is (x0 : List (S46)) (x1 : Int) (x5 : Int) : Is (fun k => laws_szBoxS.l0 k x0 x1 x5) (laws_szBoxS.l0v x0 x1 x5) := ⟨fun k => (laws_szBoxS.mono_l k) x0 x1 x5, rfl⟩
theorem laws_szBoxS.f_is (l0 : List (S46)) (a1 : Int) : Is (fun k => laws_szBoxS.f k l0 a1) (laws_szBoxS.fv l0 a1) := ⟨fun k => laws_szBoxS.mono l0 a1 k, rfl⟩
theorem laws_szBoxS.l0v_eq (x0 : List (S46)) (x1 : Int) (x5 : Int) : laws_szBoxS.l0v x0 x1 x5 = if x5 < (x0.length : Int) then (if 0 ≤ x5 then ((laws_szBox.f ((rd_T46 x0 x5).f0) ((rd_T46 x0 x5).f1) ((rd_T46 x0 x5).f2) ((rd_T46 x0 x5).f3) x1).bind fun t112 => (if t112 < 0 then (some (-1)) else (laws_szBoxS.l0v x0 t112 (wrap64 (x5 + 1))))) else (none)) else (some x1) := by
  refine Is.step (laws_szBoxS.l0_is x0 x1 x5).mo (fun k => by rw [laws_szBoxS.l0]) ?_
  · skip
    repeat' first
    | with_reducible exact laws_szBoxS.l0_is _ _ _
    | with_reducible exact Is.now _
    | with_reducible refine Is.ite ?_ ?_
    | with_reducible refine Is.bind ?_ (fun _ => ?_)
theorem laws_szBoxS.fv_eq (l0 : List (S46)) (a1 : Int) : laws_szBoxS.fv l0 a1 = if (wrap64 (a1 - (l0.length : Int))) < 0 then (some (-1)) else (laws_szBoxS.l0v l0 (wrap64 (a1 - (l0.length : Int))) 0) := by
  refine Is.lim (g := fun k => laws_szBoxS.f k l0 a1) ?_
  · unfold laws_szBoxS.f
    repeat' first
    | with_reducible exact laws_szBoxS.l0_is _ _ _
    | with_reducible exact Is.now _
    | with_reducible refine Is.ite ?_ ?_
    | with_reducible refine Is.bind ?_ (fun _ => ?_)
noncomputable def laws_szEndpoint.fv (l0_0 : List Int) (l0_1 : List Int) (l0_2 : List (S46)) (a0_3 : Int) (a1 : Int) : Option (Int) := Lim fun k => laws_szEndpoint.f k l0_0 l0_1 l0_2 a0_3 a1
theorem laws_szEndpoint.f_is (l0_0 : List Int) (l0_1 : List Int) (l0_2 : List (S46)) (a0_3 : Int) (a1 : Int) : Is (fun k => laws_szEndpoint.f k l0_0 l0_1 l0_2 a0_3 a1) (laws_szEndpoint.fv l0_0 l0_1 l0_2 a0_3 a1) := ⟨fun k => laws_szEndpoint.mono l0_0 l0_1 l0_2 a0_3 a1 k, rfl⟩
theorem laws_szEndpoint.fv_eq (l0_0 : List Int) (l0_1 : List Int) (l0_2 : List (S46)) (a0_3 : Int) (a1 : Int) : laws_szEndpoint.fv l0_0 l0_1 l0_2 a0_3 a1 = (laws_szIntS.f l0_0 a1).bind fun t114 => (if t114 < 0 then (some (-1)) else ((laws_szIntS.f l0_1 t114).bind fun t115 => (if t115 < 0 then (some (-1)) else ((laws_szBoxS.fv l0_2 t115).bind fun t116 => (if t116 < 0 then (some (-1)) else (some t116)))))) := by
  refine Is.lim (g := fun k => laws_szEndpoint.f k l0_0 l0_1 l0_2 a0_3 a1) ?_
  · unfold laws_szEndpoint.f
    repeat' first
    | with_reducible exact laws_szBoxS.f_is _ _
    | with_reducible exact Is.now _
    | with_reducible refine Is.ite ?_ ?_
    | with_reducible refine Is.bind ?_ (fun _ => ?_)
noncomputable def spec_l9Byte.l0v (x0 : List Int) (x3 : Int) : Option (Bool) := Lim fun k => spec_l9Byte.l0 k x0 x3
noncomputable def spec_l9Byte.fv (l0 : List Int) : Option (Bool) := Lim fun k => spec_l9Byte.f k l0
theorem spec_l9Byte.l0_is (x0 : List Int) (x3 : Int) : Is (fun k => spec_l9Byte.l0 k x0 x3) (spec_l9Byte.l0v x0 x3) := ⟨fun k => (spec_l9Byte.mono_l k) x0 x3, rfl⟩
theorem spec_l9Byte.f_is (l0 : List Int) : Is (fun k => spec_l9Byte.f k l0) (spec_l9Byte.fv l0) := ⟨fun k => spec_l9Byte.mono l0 k, rfl⟩
theorem spec_l9Byte.l0v_eq (x0 : List Int) (x3 : Int) : spec_l9Byte.l0v x0 x3 = if x3 < (x0.length : Int) then (if 0 ≤ x3 then ((spec_l1In.f (rd x0 x3) 0 255).bind fun t119 => (if t119 = true then (spec_l9Byte.l0v x0 (wrap64 (x3 + 1))) else (some false))) else (none)) else (some true) := by
  refine Is.step (spec_l9Byte.l0_is x0 x3).mo (fun k => by rw [spec_l9Byte.l0]) ?_
  · skip
    repeat' first
    | with_reducible exact spec_l9Byte.l0_is _ _
    | with_reducible exact Is.now _
    | with_reducible refine Is.ite ?_ ?_
    | with_reducible refine Is.bind ?_ (fun _ => ?_)
theorem spec_l9Byte.fv_eq (l0 : List Int) : spec_l9Byte.fv l0 = spec_l9Byte.l0v l0 0 := by
  refine Is.lim (g := fun k => spec_l9Byte.f k l0) ?_
  · unfold spec_l9Byte.f
    repeat' first
    | with_reducible exact spec_l9Byte.l0_is _ _
    | with_reducible exact Is.now _
    | with_reducible refine Is.ite ?_ ?_
    | with_reducible refine Is.bind ?_ (fun _ => ?_)
end Go.Proofs.Ytpoandlbmaljhaa.Print

/- What the law's own helpers on slices of whole numbers come to: a copy, equality, marks. Condition: the slice has at most 2 to the 40 numbers. -/
set_option linter.unusedSimpArgs false
set_option linter.unusedVariables false
namespace Go.Proofs.Ytpoandlbmaljhaa.Plain
open Go.RowKit Go.Proofs.YtpoandlbmaljhaaW.PrintWords Go.Proofs.Ytpoandlbmaljhaa.Base Go.Proofs.Ytpoandlbmaljhaa.Print

theorem toIntS_l0 (suf : List Int) : ∀ (pre rest : List Int), rest.length = suf.length → (pre ++ suf).length ≤ 1000000000000 → laws_toIntS.l0v (pre ++ suf) (pre ++ rest) (pre.length : Int) = some (pre ++ suf) := by
  induction suf with
  | nil =>
    intro pre rest hr _
    rw [laws_toIntS.l0v_eq, if_neg (nlt_end pre)]
    simp at hr
    rw [hr]
  | cons x suf ih =>
    intro pre rest hr hl
    cases rest with
    | nil => simp at hr
    | cons y rest =>
      have hn : pre.length < (pre ++ x :: suf).length := by simp
      rw [laws_toIntS.l0v_eq, if_pos (lt_mid pre suf x), if_pos (by omega), if_pos (lt_mid pre rest y), rd_mid, set_mid, up_mid pre x hn hl]
      rw [mid_snoc pre suf x] at hl ⊢
      have h1 := ih (pre ++ [x]) rest (by simpa using hr) hl
      simp only [List.length_append, List.length_cons, List.length_nil] at h1 ⊢
      exact h1

theorem toIntS_v (l : List Int) (hl : l.length ≤ 1000000000000) : laws_toIntS.fv l = some l := by
  rw [laws_toIntS.fv_eq, if_pos (by omega), if_pos (by omega)]
  have h := toIntS_l0 l [] (List.replicate ((l.length : Int) : Int).toNat 0) (by simp) (by simpa using hl)
  simpa using h

theorem eqIntS_l0 (sa : List Int) : ∀ (pre sb : List Int), sb.length = sa.length → (pre ++ sa).length ≤ 1000000000000 → laws_eqIntS.l0v (pre ++ sa) (pre ++ sb) (pre.length : Int) = some (decide (sa = sb)) := by
  induction sa with
  | nil =>
    intro pre sb hr _
    rw [laws_eqIntS.l0v_eq, if_neg (nlt_end pre)]
    simp at hr
    simp [hr]
  | cons x sa ih =>
    intro pre sb hr hl
    cases sb with
    | nil => simp at hr
    | cons y sb =>
      have hn : pre.length < (pre ++ x :: sa).length := by simp
      rw [laws_eqIntS.l0v_eq, if_pos (lt_mid pre sa x), if_pos (by omega), if_pos (lt_mid pre sb y), rd_mid, rd_mid, up_mid pre x hn hl]
      by_cases hxy : x = y
      · subst hxy
        rw [if_pos rfl]
        rw [mid_snoc pre sa x] at hl ⊢
        rw [mid_snoc pre sb x]
        rw [ih (pre ++ [x]) sb (by simpa using hr) hl]
        simp
      · rw [if_neg hxy]
        simp [hxy]

theorem eqIntS_v (a b : List Int) (hl : a.length ≤ 1000000000000) : laws_eqIntS.fv a b = some (decide (a = b)) := by
  rw [laws_eqIntS.fv_eq]
  by_cases h : a.length = b.length
  · rw [if_pos (by omega)]
    have h1 := eqIntS_l0 a [] b h.symm (by simpa using hl)
    simpa using h1
  · rw [if_neg (by omega)]
    have : a ≠ b := fun e => h (by rw [e])
    simp [this]
end Go.Proofs.Ytpoandlbmaljhaa.Plain

/- What is left of a size, row by row. Condition: at most 2 to the 20 is left. -/
set_option linter.unusedSimpArgs false
set_option linter.unusedVariables false
namespace Go.Proofs.Ytpoandlbmaljhaa.Plain
open Go.RowKit Go.Proofs.YtpoandlbmaljhaaW.PrintWords Go.Proofs.Ytpoandlbmaljhaa.Base Go.Proofs.Ytpoandlbmaljhaa.Print

theorem szIntS_f (l : List Int) (n : Int) (h0 : 0 ≤ n) (h : n ≤ 1048576) (hl : l.length ≤ 1000000000000000000) : laws_szIntS.f l n = some (if n < l.length then -1 else n - l.length) := by
  unfold laws_szIntS.f
  rw [w64 (by omega) (by omega)]
  by_cases hc : n < l.length
  · rw [if_pos (by omega), if_pos hc]
  · rw [if_neg (by omega), if_neg hc]
/-- What is left of n behind the rows, each with a size of its own; -1 where they are too large. -/
def sizes {α : Type} (f : α → Nat) : List α → Int → Int
  | [], n => n
  | x :: l, n => if n < (f x : Int) then -1 else sizes f l (n - (f x : Int))
/-- The same, with one for each row. -/
def sizeOf1 {α : Type} (f : α → Nat) (l : List α) (n : Int) : Int := if n < (l.length : Int) then -1 else sizes f l (n - (l.length : Int))
theorem sizes_le {α : Type} (f : α → Nat) (l : List α) : ∀ n : Int, 0 ≤ sizes f l n → sizes f l n ≤ n ∧ ∀ x ∈ l, (f x : Int) ≤ n := by
  induction l with
  | nil =>
    intro n h
    exact ⟨Int.le_refl _, fun x hx => by cases hx⟩
  | cons y l ih =>
    intro n h
    simp only [sizes] at h ⊢
    by_cases hc : n < (f y : Int)
    · rw [if_pos hc] at h
      omega
    · rw [if_neg hc] at h ⊢
      obtain ⟨h1, h2⟩ := ih _ h
      refine ⟨by omega, fun x hx => ?_⟩
      cases hx with
      | head => omega
      | tail _ hx =>
        have := h2 x hx
        omega
theorem sizeOf1_le {α : Type} (f : α → Nat) (l : List α) (n : Int) (h : 0 ≤ sizeOf1 f l n) : sizeOf1 f l n ≤ n ∧ (l.length : Int) ≤ n ∧ ∀ x ∈ l, (f x : Int) ≤ n := by
  unfold sizeOf1 at h ⊢
  by_cases hc : n < (l.length : Int)
  · rw [if_pos hc] at h
    omega
  · rw [if_neg hc] at h ⊢
    obtain ⟨h1, h2⟩ := sizes_le f l _ h
    exact ⟨by omega, by omega, fun x hx => by
      have := h2 x hx
      omega⟩
theorem sizes_neg {α : Type} (f : α → Nat) (l : List α) : ∀ n : Int, 0 ≤ n → sizes f l n < 0 → sizes f l n = -1 := by
  induction l with
  | nil =>
    intro n h0 h
    simp only [sizes] at h
    omega
  | cons y l ih =>
    intro n h0 h
    simp only [sizes] at h ⊢
    by_cases hc : n < (f y : Int)
    · rw [if_pos hc]
    · rw [if_neg hc] at h ⊢
      exact ih _ (by omega) h
end Go.Proofs.Ytpoandlbmaljhaa.Plain

/- When two boxes, and two paths, are the same. No program. No condition. -/
set_option linter.unusedSimpArgs false
set_option linter.unusedVariables false
namespace Go.Proofs.Ytpoandlbmaljhaa.Plain
open Go.RowKit Go.Proofs.YtpoandlbmaljhaaW.PrintWords Go.Proofs.Ytpoandlbmaljhaa.Base Go.Proofs.Ytpoandlbmaljhaa.Print

theorem rdBox_mid (pre suf : List S50) (x : S50) : rd_T50 (pre ++ x :: suf) (pre.length : Int) = x := by simp [rd_T50]
/-- Its rows are not too long. -/
def okB (b : S50) : Prop := b.f1.length ≤ 1000000000000 ∧ b.f2.length ≤ 1000000000000
def eqB (a b : S50) : Bool := decide (a.f0 = b.f0) && (decide (a.f1 = b.f1) && (decide (a.f2 = b.f2) && (a.f3 == b.f3)))
def eqBs : List S50 → List S50 → Bool
  | [], [] => true
  | a :: l, b :: m => eqB a b && eqBs l m
  | _, _ => false
theorem eqBs_len {l m : List S50} : l.length ≠ m.length → eqBs l m = false := by
  induction l generalizing m with
  | nil =>
    intro h
    cases m with
    | nil => exact absurd rfl h
    | cons b m => rfl
  | cons a l ih =>
    intro h
    cases m with
    | nil => rfl
    | cons b m =>
      simp only [eqBs]
      rw [ih (by simpa using h), Bool.and_false]
end Go.Proofs.Ytpoandlbmaljhaa.Plain

/- Written by a program of this session (limx.py): the equations of what the printed functions come to. No condition. -/
namespace Go.Proofs.Ytpoandlbmaljhaa.Print
open Go.RowKit Go.Proofs.YtpoandlbmaljhaaW.PrintWords Go.Proofs.YtpoandlbmaljhaaW.PrintLast Go.Proofs.Ytpoandlbmaljhaa.Base
set_option linter.unusedVariables false
set_option maxRecDepth 20000
noncomputable def spec_IsBox.fv (a0_0 : Int) (l0_1 : List Int) (l0_2 : List Int) (a0_3 : Bool) : Option (Bool) := Lim fun k => spec_IsBox.f k a0_0 l0_1 l0_2 a0_3
theorem spec_IsBox.f_is (a0_0 : Int) (l0_1 : List Int) (l0_2 : List Int) (a0_3 : Bool) : Is (fun k => spec_IsBox.f k a0_0 l0_1 l0_2 a0_3) (spec_IsBox.fv a0_0 l0_1 l0_2 a0_3) := ⟨fun k => spec_IsBox.mono a0_0 l0_1 l0_2 a0_3 k, rfl⟩
theorem spec_IsBox.fv_eq (a0_0 : Int) (l0_1 : List Int) (l0_2 : List Int) (a0_3 : Bool) : spec_IsBox.fv a0_0 l0_1 l0_2 a0_3 = (spec_l1In.f a0_0 0 9).bind fun t121 => (if t121 = true then (if (l0_1.length : Int) ≤ 6 then (if (l0_2.length : Int) ≤ 6 then ((spec_l9Byte.fv l0_1).bind fun t122 => (if t122 = true then ((spec_l9Byte.fv l0_2).bind fun t123 => (some t123)) else (some false))) else (some false)) else (some false)) else (some false)) := by
  refine Is.lim (g := fun k => spec_IsBox.f k a0_0 l0_1 l0_2 a0_3) ?_
  · unfold spec_IsBox.f
    repeat' first
    | with_reducible exact spec_l9Byte.f_is _
    | with_reducible exact Is.now _
    | with_reducible refine Is.ite ?_ ?_
    | with_reducible refine Is.bind ?_ (fun _ => ?_)
noncomputable def spec_AreVersions.l0v (x0 : List Int) (x3 : Int) : Option (Bool) := Lim fun k => spec_AreVersions.l0 k x0 x3
noncomputable def spec_AreVersions.fv (l0 : List Int) : Option (Bool) := Lim fun k => spec_AreVersions.f k l0
theorem spec_AreVersions.l0_is (x0 : List Int) (x3 : Int) : Is (fun k => spec_AreVersions.l0 k x0 x3) (spec_AreVersions.l0v x0 x3) := ⟨fun k => (spec_AreVersions.mono_l k) x0 x3, rfl⟩
theorem spec_AreVersions.f_is (l0 : List Int) : Is (fun k => spec_AreVersions.f k l0) (spec_AreVersions.fv l0) := ⟨fun k => spec_AreVersions.mono l0 k, rfl⟩
theorem spec_AreVersions.l0v_eq (x0 : List Int) (x3 : Int) : spec_AreVersions.l0v x0 x3 = if x3 < (x0.length : Int) then (if 0 ≤ x3 then ((spec_l1In.f (rd x0 x3) 1 9).bind fun t125 => (if t125 = true then (if x3 > 0 then (if 0 ≤ (wrap64 (x3 - 1)) then (if (wrap64 (x3 - 1)) < (x0.length : Int) then (if (rd x0 (wrap64 (x3 - 1))) ≥ (rd x0 x3) then (some false) else (spec_AreVersions.l0v x0 (wrap64 (x3 + 1)))) else (none)) else (none)) else (spec_AreVersions.l0v x0 (wrap64 (x3 + 1)))) else (some false))) else (none)) else (some (decide ((x0.length : Int) > 0))) := by
  refine Is.step (spec_AreVersions.l0_is x0 x3).mo (fun k => by rw [spec_AreVersions.l0]) ?_
  · skip
    repeat' first
    | with_reducible exact spec_AreVersions.l0_is _ _
    | with_reducible exact Is.now _
    | with_reducible refine Is.ite ?_ ?_
    | with_reducible refine Is.bind ?_ (fun _ => ?_)
theorem spec_AreVersions.fv_eq (l0 : List Int) : spec_AreVersions.fv l0 = spec_AreVersions.l0v l0 0 := by
  refine Is.lim (g := fun k => spec_AreVersions.f k l0) ?_
  · unfold spec_AreVersions.f
    repeat' first
    | with_reducible exact spec_AreVersions.l0_is _ _
    | with_reducible exact Is.now _
    | with_reducible refine Is.ite ?_ ?_
    | with_reducible refine Is.bind ?_ (fun _ => ?_)
end Go.Proofs.Ytpoandlbmaljhaa.Print

/- Written by a program of this session (limx.py): the equations of what the printed functions come to. No condition. -/
namespace Go.Proofs.Ytpoandlbmaljhaa.Print
open Go.RowKit Go.Proofs.YtpoandlbmaljhaaW.PrintWords Go.Proofs.YtpoandlbmaljhaaW.PrintLast Go.Proofs.Ytpoandlbmaljhaa.Base
set_option linter.unusedVariables false
set_option maxRecDepth 20000
noncomputable def spec_IsEndpoint.l0v (x3 : Int) (x129000 : List Int) (x129001 : List Int) (x129002 : List (S50)) (x129003 : Int) : Option (Bool) := Lim fun k => spec_IsEndpoint.l0 k x3 x129000 x129001 x129002 x129003
noncomputable def spec_IsEndpoint.l1v (x4 : Int) (x129000 : List Int) (x129001 : List Int) (x129002 : List (S50)) (x129003 : Int) : Option (Bool) := Lim fun k => spec_IsEndpoint.l1 k x4 x129000 x129001 x129002 x129003
noncomputable def spec_IsEndpoint.fv (l0_0 : List Int) (l0_1 : List Int) (l0_2 : List (S50)) (a0_3 : Int) : Option (Bool) := Lim fun k => spec_IsEndpoint.f k l0_0 l0_1 l0_2 a0_3
theorem spec_IsEndpoint.l0_is (x3 : Int) (x129000 : List Int) (x129001 : List Int) (x129002 : List (S50)) (x129003 : Int) : Is (fun k => spec_IsEndpoint.l0 k x3 x129000 x129001 x129002 x129003) (spec_IsEndpoint.l0v x3 x129000 x129001 x129002 x129003) := ⟨fun k => (spec_IsEndpoint.mono_l k).1 x3 x129000 x129001 x129002 x129003, rfl⟩
theorem spec_IsEndpoint.l1_is (x4 : Int) (x129000 : List Int) (x129001 : List Int) (x129002 : List (S50)) (x129003 : Int) : Is (fun k => spec_IsEndpoint.l1 k x4 x129000 x129001 x129002 x129003) (spec_IsEndpoint.l1v x4 x129000 x129001 x129002 x129003) := ⟨fun k => (spec_IsEndpoint.mono_l k).2 x4 x129000 x129001 x129002 x129003, rfl⟩
theorem spec_IsEndpoint.f_is (l0_0 : List Int) (l0_1 : List Int) (l0_2 : List (S50)) (a0_3 : Int) : Is (fun k => spec_IsEndpoint.f k l0_0 l0_1 l0_2 a0_3) (spec_IsEndpoint.fv l0_0 l0_1 l0_2 a0_3) := ⟨fun k => spec_IsEndpoint.mono l0_0 l0_1 l0_2 a0_3 k, rfl⟩
theorem spec_IsEndpoint.l0v_eq (x3 : Int) (x129000 : List Int) (x129001 : List Int) (x129002 : List (S50)) (x129003 : Int) : spec_IsEndpoint.l0v x3 x129000 x129001 x129002 x129003 = if x3 < (x129001.length : Int) then (if 0 ≤ x3 then ((spec_l1In.f (rd x129001 x3) 0 255).bind fun t130 => (if t130 = true then ((spec_IsReserved.f (rd x129001 x3)).bind fun t132 => (if t132 = true then (some false) else (if x3 > 0 then (if 0 ≤ (wrap64 (x3 - 1)) then (if (wrap64 (x3 - 1)) < (x129001.length : Int) then (if (rd x129001 (wrap64 (x3 - 1))) ≥ (rd x129001 x3) then (some false) else (spec_IsEndpoint.l0v (wrap64 (x3 + 1)) x129000 x129001 x129002 x129003)) else (none)) else (none)) else (spec_IsEndpoint.l0v (wrap64 (x3 + 1)) x129000 x129001 x129002 x129003)))) else (some false))) else (none)) else (spec_IsEndpoint.l1v 0 x129000 x129001 x129002 x129003) := by
  refine Is.step (spec_IsEndpoint.l0_is x3 x129000 x129001 x129002 x129003).mo (fun k => by rw [spec_IsEndpoint.l0]) ?_
  · skip
    repeat' first
    | with_reducible exact spec_IsEndpoint.l0_is _ _ _ _ _
    | with_reducible exact spec_IsEndpoint.l1_is _ _ _ _ _
    | with_reducible exact Is.now _
    | with_reducible refine Is.ite ?_ ?_
    | with_reducible refine Is.bind ?_ (fun _ => ?_)
theorem spec_IsEndpoint.l1v_eq (x4 : Int) (x129000 : List Int) (x129001 : List Int) (x129002 : List (S50)) (x129003 : Int) : spec_IsEndpoint.l1v x4 x129000 x129001 x129002 x129003 = if x4 < (x129002.length : Int) then (if 0 ≤ x4 then ((spec_IsBox.fv ((rd_T50 x129002 x4).f0) ((rd_T50 x129002 x4).f1) ((rd_T50 x129002 x4).f2) ((rd_T50 x129002 x4).f3)).bind fun t136 => (if t136 = true then (spec_IsEndpoint.l1v (wrap64 (x4 + 1)) x129000 x129001 x129002 x129003) else (some false))) else (none)) else ((spec_AreVersions.fv x129000).bind fun t137 => (if t137 = true then (if (x129001.length : Int) ≤ 5 then (if (x129002.length : Int) ≤ 4 then ((spec_l1In.f x129003 0 5).bind fun t138 => (some t138)) else (some false)) else (some false)) else (some false))) := by
  refine Is.step (spec_IsEndpoint.l1_is x4 x129000 x129001 x129002 x129003).mo (fun k => by rw [spec_IsEndpoint.l1]) ?_
  · skip
    repeat' first
    | with_reducible exact spec_AreVersions.f_is _
    | with_reducible exact spec_IsBox.f_is _ _ _ _
    | with_reducible exact spec_IsEndpoint.l1_is _ _ _ _ _
    | with_reducible exact Is.now _
    | with_reducible refine Is.ite ?_ ?_
    | with_reducible refine Is.bind ?_ (fun _ => ?_)
theorem spec_IsEndpoint.fv_eq (l0_0 : List Int) (l0_1 : List Int) (l0_2 : List (S50)) (a0_3 : Int) : spec_IsEndpoint.fv l0_0 l0_1 l0_2 a0_3 = spec_IsEndpoint.l0v 0 l0_0 l0_1 l0_2 a0_3 := by
  refine Is.lim (g := fun k => spec_IsEndpoint.f k l0_0 l0_1 l0_2 a0_3) ?_
  · unfold spec_IsEndpoint.f
    repeat' first
    | with_reducible exact spec_IsEndpoint.l0_is _ _ _ _ _
    | with_reducible exact Is.now _
    | with_reducible refine Is.ite ?_ ?_
    | with_reducible refine Is.bind ?_ (fun _ => ?_)
noncomputable def spec_l9Has.l0v (x0 : List Int) (x1 : Int) (x5 : Int) : Option (Bool) := Lim fun k => spec_l9Has.l0 k x0 x1 x5
noncomputable def spec_l9Has.fv (l0 : List Int) (a1 : Int) : Option (Bool) := Lim fun k => spec_l9Has.f k l0 a1
theorem spec_l9Has.l0_is (x0 : List Int) (x1 : Int) (x5 : Int) : Is (fun k => spec_l9Has.l0 k x0 x1 x5) (spec_l9Has.l0v x0 x1 x5) := ⟨fun k => (spec_l9Has.mono_l k) x0 x1 x5, rfl⟩
theorem spec_l9Has.f_is (l0 : List Int) (a1 : Int) : Is (fun k => spec_l9Has.f k l0 a1) (spec_l9Has.fv l0 a1) := ⟨fun k => spec_l9Has.mono l0 a1 k, rfl⟩
theorem spec_l9Has.l0v_eq (x0 : List Int) (x1 : Int) (x5 : Int) : spec_l9Has.l0v x0 x1 x5 = if x5 < (x0.length : Int) then (if 0 ≤ x5 then (if (rd x0 x5) = x1 then (some true) else (spec_l9Has.l0v x0 x1 (wrap64 (x5 + 1)))) else (none)) else (some false) := by
  refine Is.step (spec_l9Has.l0_is x0 x1 x5).mo (fun k => by rw [spec_l9Has.l0]) ?_
  · skip
    repeat' first
    | with_reducible exact spec_l9Has.l0_is _ _ _
    | with_reducible exact Is.now _
    | with_reducible refine Is.ite ?_ ?_
    | with_reducible refine Is.bind ?_ (fun _ => ?_)
theorem spec_l9Has.fv_eq (l0 : List Int) (a1 : Int) : spec_l9Has.fv l0 a1 = spec_l9Has.l0v l0 a1 0 := by
  refine Is.lim (g := fun k => spec_l9Has.f k l0 a1) ?_
  · unfold spec_l9Has.f
    repeat' first
    | with_reducible exact spec_l9Has.l0_is _ _ _
    | with_reducible exact Is.now _
    | with_reducible refine Is.ite ?_ ?_
    | with_reducible refine Is.bind ?_ (fun _ => ?_)
end Go.Proofs.Ytpoandlbmaljhaa.Print

/- Written by a program of this session (limx.py): the equations of what the printed functions come to. No condition. -/
namespace Go.Proofs.Ytpoandlbmaljhaa.Print
open Go.RowKit Go.Proofs.YtpoandlbmaljhaaW.PrintWords Go.Proofs.YtpoandlbmaljhaaW.PrintLast Go.Proofs.Ytpoandlbmaljhaa.Base
set_option linter.unusedVariables false
set_option maxRecDepth 20000
noncomputable def spec_CommonOf.l0v (x0 : List Int) (x1 : List Int) (x5 : List Int) (x6 : Int) : Option (List Int) := Lim fun k => spec_CommonOf.l0 k x0 x1 x5 x6
noncomputable def spec_CommonOf.fv (l0 : List Int) (l1 : List Int) : Option (List Int) := Lim fun k => spec_CommonOf.f k l0 l1
theorem spec_CommonOf.l0_is (x0 : List Int) (x1 : List Int) (x5 : List Int) (x6 : Int) : Is (fun k => spec_CommonOf.l0 k x0 x1 x5 x6) (spec_CommonOf.l0v x0 x1 x5 x6) := ⟨fun k => (spec_CommonOf.mono_l k) x0 x1 x5 x6, rfl⟩
theorem spec_CommonOf.f_is (l0 : List Int) (l1 : List Int) : Is (fun k => spec_CommonOf.f k l0 l1) (spec_CommonOf.fv l0 l1) := ⟨fun k => spec_CommonOf.mono l0 l1 k, rfl⟩
theorem spec_CommonOf.l0v_eq (x0 : List Int) (x1 : List Int) (x5 : List Int) (x6 : Int) : spec_CommonOf.l0v x0 x1 x5 x6 = if x6 < (x0.length : Int) then (if 0 ≤ x6 then ((spec_l9Has.fv x1 (rd x0 x6)).bind fun t144 => (if t144 = true then (if x5.length < 17592186044416 then (spec_CommonOf.l0v x0 x1 (x5 ++ [rd x0 x6]) (wrap64 (x6 + 1))) else (none)) else (spec_CommonOf.l0v x0 x1 x5 (wrap64 (x6 + 1))))) else (none)) else (some x5) := by
  refine Is.step (spec_CommonOf.l0_is x0 x1 x5 x6).mo (fun k => by rw [spec_CommonOf.l0]) ?_
  · skip
    repeat' first
    | with_reducible exact spec_CommonOf.l0_is _ _ _ _
    | with_reducible exact spec_l9Has.f_is _ _
    | with_reducible exact Is.now _
    | with_reducible refine Is.ite ?_ ?_
    | with_reducible refine Is.bind ?_ (fun _ => ?_)
theorem spec_CommonOf.fv_eq (l0 : List Int) (l1 : List Int) : spec_CommonOf.fv l0 l1 = spec_CommonOf.l0v l0 l1 (([] : List Int)) 0 := by
  refine Is.lim (g := fun k => spec_CommonOf.f k l0 l1) ?_
  · unfold spec_CommonOf.f
    repeat' first
    | with_reducible exact spec_CommonOf.l0_is _ _ _ _
    | with_reducible exact Is.now _
    | with_reducible refine Is.ite ?_ ?_
    | with_reducible refine Is.bind ?_ (fun _ => ?_)
noncomputable def spec_BestCommon.fv (l0 : List Int) (l1 : List Int) : Option (Int) := Lim fun k => spec_BestCommon.f k l0 l1
theorem spec_BestCommon.f_is (l0 : List Int) (l1 : List Int) : Is (fun k => spec_BestCommon.f k l0 l1) (spec_BestCommon.fv l0 l1) := ⟨fun k => spec_BestCommon.mono l0 l1 k, rfl⟩
theorem spec_BestCommon.fv_eq (l0 : List Int) (l1 : List Int) : spec_BestCommon.fv l0 l1 = (spec_CommonOf.fv l0 l1).bind fun t149 => ((spec_AreVersions.fv l0).bind fun t152 => (if t152 = true then ((spec_AreVersions.fv l1).bind fun t153 => (if t153 = true then (if (t149.length : Int) = 0 then (some 0) else (if 0 ≤ (wrap64 ((t149.length : Int) - 1)) then (if (wrap64 ((t149.length : Int) - 1)) < (t149.length : Int) then (some (rd t149 (wrap64 ((t149.length : Int) - 1)))) else (none)) else (none))) else (some 0))) else (some 0))) := by
  refine Is.lim (g := fun k => spec_BestCommon.f k l0 l1) ?_
  · unfold spec_BestCommon.f
    repeat' first
    | with_reducible exact spec_AreVersions.f_is _
    | with_reducible exact spec_CommonOf.f_is _ _
    | with_reducible exact Is.now _
    | with_reducible refine Is.ite ?_ ?_
    | with_reducible refine Is.bind ?_ (fun _ => ?_)
noncomputable def spec_l21Left.l0v (x0 : List Int) (x1 : List Int) (x5 : List Int) (x6 : Int) : Option (List Int) := Lim fun k => spec_l21Left.l0 k x0 x1 x5 x6
noncomputable def spec_l21Left.fv (l0 : List Int) (l1 : List Int) : Option (List Int) := Lim fun k => spec_l21Left.f k l0 l1
theorem spec_l21Left.l0_is (x0 : List Int) (x1 : List Int) (x5 : List Int) (x6 : Int) : Is (fun k => spec_l21Left.l0 k x0 x1 x5 x6) (spec_l21Left.l0v x0 x1 x5 x6) := ⟨fun k => (spec_l21Left.mono_l k) x0 x1 x5 x6, rfl⟩
theorem spec_l21Left.f_is (l0 : List Int) (l1 : List Int) : Is (fun k => spec_l21Left.f k l0 l1) (spec_l21Left.fv l0 l1) := ⟨fun k => spec_l21Left.mono l0 l1 k, rfl⟩
theorem spec_l21Left.l0v_eq (x0 : List Int) (x1 : List Int) (x5 : List Int) (x6 : Int) : spec_l21Left.l0v x0 x1 x5 x6 = if x6 < (x0.length : Int) then (if 0 ≤ x6 then ((spec_l9Has.fv x1 (rd x0 x6)).bind fun t159 => (if t159 = true then (spec_l21Left.l0v x0 x1 x5 (wrap64 (x6 + 1))) else (if x5.length < 17592186044416 then (spec_l21Left.l0v x0 x1 (x5 ++ [rd x0 x6]) (wrap64 (x6 + 1))) else (none)))) else (none)) else (some x5) := by
  refine Is.step (spec_l21Left.l0_is x0 x1 x5 x6).mo (fun k => by rw [spec_l21Left.l0]) ?_
  · skip
    repeat' first
    | with_reducible exact spec_l21Left.l0_is _ _ _ _
    | with_reducible exact spec_l9Has.f_is _ _
    | with_reducible exact Is.now _
    | with_reducible refine Is.ite ?_ ?_
    | with_reducible refine Is.bind ?_ (fun _ => ?_)
theorem spec_l21Left.fv_eq (l0 : List Int) (l1 : List Int) : spec_l21Left.fv l0 l1 = spec_l21Left.l0v l0 l1 (([] : List Int)) 0 := by
  refine Is.lim (g := fun k => spec_l21Left.f k l0 l1) ?_
  · unfold spec_l21Left.f
    repeat' first
    | with_reducible exact spec_l21Left.l0_is _ _ _ _
    | with_reducible exact Is.now _
    | with_reducible refine Is.ite ?_ ?_
    | with_reducible refine Is.bind ?_ (fun _ => ?_)
noncomputable def spec_ExtOf.l0v (x0 : List (S69)) (x1 : Int) (x5 : Int) : Option (Int) := Lim fun k => spec_ExtOf.l0 k x0 x1 x5
noncomputable def spec_ExtOf.fv (l0 : List (S69)) (a1 : Int) : Option (Int) := Lim fun k => spec_ExtOf.f k l0 a1
theorem spec_ExtOf.l0_is (x0 : List (S69)) (x1 : Int) (x5 : Int) : Is (fun k => spec_ExtOf.l0 k x0 x1 x5) (spec_ExtOf.l0v x0 x1 x5) := ⟨fun k => (spec_ExtOf.mono_l k) x0 x1 x5, rfl⟩
theorem spec_ExtOf.f_is (l0 : List (S69)) (a1 : Int) : Is (fun k => spec_ExtOf.f k l0 a1) (spec_ExtOf.fv l0 a1) := ⟨fun k => spec_ExtOf.mono l0 a1 k, rfl⟩
theorem spec_ExtOf.l0v_eq (x0 : List (S69)) (x1 : Int) (x5 : Int) : spec_ExtOf.l0v x0 x1 x5 = if x5 < (x0.length : Int) then (if 0 ≤ x5 then (if ((rd_T69 x0 x5).f0) = x1 then (some x5) else (spec_ExtOf.l0v x0 x1 (wrap64 (x5 + 1)))) else (none)) else (some (-1)) := by
  refine Is.step (spec_ExtOf.l0_is x0 x1 x5).mo (fun k => by rw [spec_ExtOf.l0]) ?_
  · skip
    repeat' first
    | with_reducible exact spec_ExtOf.l0_is _ _ _
    | with_reducible exact Is.now _
    | with_reducible refine Is.ite ?_ ?_
    | with_reducible refine Is.bind ?_ (fun _ => ?_)
theorem spec_ExtOf.fv_eq (l0 : List (S69)) (a1 : Int) : spec_ExtOf.fv l0 a1 = spec_ExtOf.l0v l0 a1 0 := by
  refine Is.lim (g := fun k => spec_ExtOf.f k l0 a1) ?_
  · unfold spec_ExtOf.f
    repeat' first
    | with_reducible exact spec_ExtOf.l0_is _ _ _
    | with_reducible exact Is.now _
    | with_reducible refine Is.ite ?_ ?_
    | with_reducible refine Is.bind ?_ (fun _ => ?_)
noncomputable def spec_AreExts.l0v (x0 : List (S69)) (x3 : Int) : Option (Bool) := Lim fun k => spec_AreExts.l0 k x0 x3
noncomputable def spec_AreExts.fv (l0 : List (S69)) : Option (Bool) := Lim fun k => spec_AreExts.f k l0
theorem spec_AreExts.l0_is (x0 : List (S69)) (x3 : Int) : Is (fun k => spec_AreExts.l0 k x0 x3) (spec_AreExts.l0v x0 x3) := ⟨fun k => (spec_AreExts.mono_l k) x0 x3, rfl⟩
theorem spec_AreExts.f_is (l0 : List (S69)) : Is (fun k => spec_AreExts.f k l0) (spec_AreExts.fv l0) := ⟨fun k => spec_AreExts.mono l0 k, rfl⟩
theorem spec_AreExts.l0v_eq (x0 : List (S69)) (x3 : Int) : spec_AreExts.l0v x0 x3 = if x3 < (x0.length : Int) then (if 0 ≤ x3 then ((spec_l1In.f ((rd_T69 x0 x3).f0) 0 255).bind fun t173 => (if t173 = true then (if (((rd_T69 x0 x3).f1).length : Int) > 4 then (some false) else ((spec_l9Byte.fv ((rd_T69 x0 x3).f1)).bind fun t176 => (if t176 = true then ((spec_ExtOf.fv x0 ((rd_T69 x0 x3).f0)).bind fun t178 => (if t178 < x3 then (some false) else (spec_AreExts.l0v x0 (wrap64 (x3 + 1))))) else (some false)))) else (some false))) else (none)) else (some (decide ((x0.length : Int) ≤ 6))) := by
  refine Is.step (spec_AreExts.l0_is x0 x3).mo (fun k => by rw [spec_AreExts.l0]) ?_
  · skip
    repeat' first
    | with_reducible exact spec_AreExts.l0_is _ _
    | with_reducible exact spec_ExtOf.f_is _ _
    | with_reducible exact spec_l9Byte.f_is _
    | with_reducible exact Is.now _
    | with_reducible refine Is.ite ?_ ?_
    | with_reducible refine Is.bind ?_ (fun _ => ?_)
theorem spec_AreExts.fv_eq (l0 : List (S69)) : spec_AreExts.fv l0 = spec_AreExts.l0v l0 0 := by
  refine Is.lim (g := fun k => spec_AreExts.f k l0) ?_
  · unfold spec_AreExts.f
    repeat' first
    | with_reducible exact spec_AreExts.l0_is _ _
    | with_reducible exact Is.now _
    | with_reducible refine Is.ite ?_ ?_
    | with_reducible refine Is.bind ?_ (fun _ => ?_)
noncomputable def spec_IsHello.fv (l0_0 : List Int) (l0_1 : List (S69)) : Option (Bool) := Lim fun k => spec_IsHello.f k l0_0 l0_1
theorem spec_IsHello.f_is (l0_0 : List Int) (l0_1 : List (S69)) : Is (fun k => spec_IsHello.f k l0_0 l0_1) (spec_IsHello.fv l0_0 l0_1) := ⟨fun k => spec_IsHello.mono l0_0 l0_1 k, rfl⟩
theorem spec_IsHello.fv_eq (l0_0 : List Int) (l0_1 : List (S69)) : spec_IsHello.fv l0_0 l0_1 = (spec_AreVersions.fv l0_0).bind fun t180 => (if t180 = true then ((spec_AreExts.fv l0_1).bind fun t181 => (some t181)) else (some false)) := by
  refine Is.lim (g := fun k => spec_IsHello.f k l0_0 l0_1) ?_
  · unfold spec_IsHello.f
    repeat' first
    | with_reducible exact spec_AreExts.f_is _
    | with_reducible exact spec_AreVersions.f_is _
    | with_reducible exact Is.now _
    | with_reducible refine Is.ite ?_ ?_
    | with_reducible refine Is.bind ?_ (fun _ => ?_)
end Go.Proofs.Ytpoandlbmaljhaa.Print

/- Written by a program of this session (limx.py): the equations of what the printed functions come to. No condition. -/
namespace Go.Proofs.Ytpoandlbmaljhaa.Print
open Go.RowKit Go.Proofs.YtpoandlbmaljhaaW.PrintWords Go.Proofs.YtpoandlbmaljhaaW.PrintLast Go.Proofs.Ytpoandlbmaljhaa.Base
set_option linter.unusedVariables false
set_option maxRecDepth 20000
noncomputable def spec_KnownOf.l0v (x0 : List (S69)) (x1 : List Int) (x5 : List (S69)) (x6 : Int) : Option ((List (S69))) := Lim fun k => spec_KnownOf.l0 k x0 x1 x5 x6
noncomputable def spec_KnownOf.fv (l0 : List (S69)) (l1 : List Int) : Option ((List (S69))) := Lim fun k => spec_KnownOf.f k l0 l1
theorem spec_KnownOf.l0_is (x0 : List (S69)) (x1 : List Int) (x5 : List (S69)) (x6 : Int) : Is (fun k => spec_KnownOf.l0 k x0 x1 x5 x6) (spec_KnownOf.l0v x0 x1 x5 x6) := ⟨fun k => (spec_KnownOf.mono_l k) x0 x1 x5 x6, rfl⟩
theorem spec_KnownOf.f_is (l0 : List (S69)) (l1 : List Int) : Is (fun k => spec_KnownOf.f k l0 l1) (spec_KnownOf.fv l0 l1) := ⟨fun k => spec_KnownOf.mono l0 l1 k, rfl⟩
theorem spec_KnownOf.l0v_eq (x0 : List (S69)) (x1 : List Int) (x5 : List (S69)) (x6 : Int) : spec_KnownOf.l0v x0 x1 x5 x6 = if x6 < (x0.length : Int) then (if 0 ≤ x6 then ((spec_l9Has.fv x1 ((rd_T69 x0 x6).f0)).bind fun t186 => (if t186 = true then ((some (([] : List Int) : List Int)).bind fun y188 => (if y188.length + ((rd_T69 x0 x6).f1).length < 17592186044416 then (if x5.length < 4398046511104 then (spec_KnownOf.l0v x0 x1 (x5 ++ [(⟨(rd_T69 x0 x6).f0, (y188 ++ ((rd_T69 x0 x6).f1))⟩ : S69)]) (wrap64 (x6 + 1))) else (none)) else (none))) else (spec_KnownOf.l0v x0 x1 x5 (wrap64 (x6 + 1))))) else (none)) else (some x5) := by
  refine Is.step (spec_KnownOf.l0_is x0 x1 x5 x6).mo (fun k => by rw [spec_KnownOf.l0]) ?_
  · skip
    repeat' first
    | with_reducible exact spec_KnownOf.l0_is _ _ _ _
    | with_reducible exact spec_l9Has.f_is _ _
    | with_reducible exact Is.now _
    | with_reducible refine Is.ite ?_ ?_
    | with_reducible refine Is.bind ?_ (fun _ => ?_)
theorem spec_KnownOf.fv_eq (l0 : List (S69)) (l1 : List Int) : spec_KnownOf.fv l0 l1 = spec_KnownOf.l0v l0 l1 (([] : List (S69))) 0 := by
  refine Is.lim (g := fun k => spec_KnownOf.f k l0 l1) ?_
  · unfold spec_KnownOf.f
    repeat' first
    | with_reducible exact spec_KnownOf.l0_is _ _ _ _
    | with_reducible exact Is.now _
    | with_reducible refine Is.ite ?_ ?_
    | with_reducible refine Is.bind ?_ (fun _ => ?_)
noncomputable def spec_TagsOf.l0v (x0 : List (S69)) (x3 : List Int) (x4 : Int) : Option (List Int) := Lim fun k => spec_TagsOf.l0 k x0 x3 x4
noncomputable def spec_TagsOf.fv (l0 : List (S69)) : Option (List Int) := Lim fun k => spec_TagsOf.f k l0
theorem spec_TagsOf.l0_is (x0 : List (S69)) (x3 : List Int) (x4 : Int) : Is (fun k => spec_TagsOf.l0 k x0 x3 x4) (spec_TagsOf.l0v x0 x3 x4) := ⟨fun k => (spec_TagsOf.mono_l k) x0 x3 x4, rfl⟩
theorem spec_TagsOf.f_is (l0 : List (S69)) : Is (fun k => spec_TagsOf.f k l0) (spec_TagsOf.fv l0) := ⟨fun k => spec_TagsOf.mono l0 k, rfl⟩
theorem spec_TagsOf.l0v_eq (x0 : List (S69)) (x3 : List Int) (x4 : Int) : spec_TagsOf.l0v x0 x3 x4 = if x4 < (x0.length : Int) then (if 0 ≤ x4 then (if x3.length < 17592186044416 then (spec_TagsOf.l0v x0 (x3 ++ [(rd_T69 x0 x4).f0]) (wrap64 (x4 + 1))) else (none)) else (none)) else (some x3) := by
  refine Is.step (spec_TagsOf.l0_is x0 x3 x4).mo (fun k => by rw [spec_TagsOf.l0]) ?_
  · skip
    repeat' first
    | with_reducible exact spec_TagsOf.l0_is _ _ _
    | with_reducible exact Is.now _
    | with_reducible refine Is.ite ?_ ?_
    | with_reducible refine Is.bind ?_ (fun _ => ?_)
theorem spec_TagsOf.fv_eq (l0 : List (S69)) : spec_TagsOf.fv l0 = spec_TagsOf.l0v l0 (([] : List Int)) 0 := by
  refine Is.lim (g := fun k => spec_TagsOf.f k l0) ?_
  · unfold spec_TagsOf.f
    repeat' first
    | with_reducible exact spec_TagsOf.l0_is _ _ _
    | with_reducible exact Is.now _
    | with_reducible refine Is.ite ?_ ?_
    | with_reducible refine Is.bind ?_ (fun _ => ?_)
noncomputable def spec_l11Copy.fv (l0 : List (S69)) : Option ((List (S69))) := Lim fun k => spec_l11Copy.f k l0
theorem spec_l11Copy.f_is (l0 : List (S69)) : Is (fun k => spec_l11Copy.f k l0) (spec_l11Copy.fv l0) := ⟨fun k => spec_l11Copy.mono l0 k, rfl⟩
theorem spec_l11Copy.fv_eq (l0 : List (S69)) : spec_l11Copy.fv l0 = (spec_TagsOf.fv l0).bind fun t205 => ((spec_KnownOf.fv l0 t205).bind fun t208 => (some t208)) := by
  refine Is.lim (g := fun k => spec_l11Copy.f k l0) ?_
  · unfold spec_l11Copy.f
    repeat' first
    | with_reducible exact spec_KnownOf.f_is _ _
    | with_reducible exact spec_TagsOf.f_is _
    | with_reducible exact Is.now _
    | with_reducible refine Is.ite ?_ ?_
    | with_reducible refine Is.bind ?_ (fun _ => ?_)
noncomputable def spec_l18Hello.fv (l0_0 : List Int) (l0_1 : List (S69)) : Option (List Int × (List (S69))) := Lim fun k => spec_l18Hello.f k l0_0 l0_1
theorem spec_l18Hello.f_is (l0_0 : List Int) (l0_1 : List (S69)) : Is (fun k => spec_l18Hello.f k l0_0 l0_1) (spec_l18Hello.fv l0_0 l0_1) := ⟨fun k => spec_l18Hello.mono l0_0 l0_1 k, rfl⟩
theorem spec_l18Hello.fv_eq (l0_0 : List Int) (l0_1 : List (S69)) : spec_l18Hello.fv l0_0 l0_1 = (some (([] : List Int) : List Int)).bind fun y213 => (if y213.length + l0_0.length < 17592186044416 then ((spec_l11Copy.fv l0_1).bind fun t219 => (some ((y213 ++ l0_0), t219))) else (none)) := by
  refine Is.lim (g := fun k => spec_l18Hello.f k l0_0 l0_1) ?_
  · unfold spec_l18Hello.f
    repeat' first
    | with_reducible exact spec_l11Copy.f_is _
    | with_reducible exact Is.now _
    | with_reducible refine Is.ite ?_ ?_
    | with_reducible refine Is.bind ?_ (fun _ => ?_)
end Go.Proofs.Ytpoandlbmaljhaa.Print

/- Written by a program of this session (limx.py): the equations of what the printed functions come to. No condition. -/
namespace Go.Proofs.Ytpoandlbmaljhaa.Print
open Go.RowKit Go.Proofs.YtpoandlbmaljhaaW.PrintWords Go.Proofs.YtpoandlbmaljhaaW.PrintLast Go.Proofs.Ytpoandlbmaljhaa.Base
set_option linter.unusedVariables false
set_option maxRecDepth 20000
noncomputable def spec_PassBox.j0v (x35 : Bool) (x223000 : Int) (x223001 : List Int) (x223002 : List Int) (x223003 : Bool) (x224000 : List Int) (x224001 : List (S69)) : Option (List Int × (List (S69)) × Bool) := Lim fun k => spec_PassBox.j0 k x35 x223000 x223001 x223002 x223003 x224000 x224001
noncomputable def spec_PassBox.l0v (x7 : Int) (x223000 : Int) (x223001 : List Int) (x223002 : List Int) (x223003 : Bool) (x224000 : List Int) (x224001 : List (S69)) (x235000 : List Int) (x235001 : List (S69)) : Option (List Int × (List (S69)) × Bool) := Lim fun k => spec_PassBox.l0 k x7 x223000 x223001 x223002 x223003 x224000 x224001 x235000 x235001
noncomputable def spec_PassBox.j2v (x7 : Int) (x8 : Int) (x9 : Bool) (x75 : Bool) (x223000 : Int) (x223001 : List Int) (x223002 : List Int) (x223003 : Bool) (x224000 : List Int) (x224001 : List (S69)) (x235000 : List Int) (x235001 : List (S69)) : Option (List Int × (List (S69)) × Bool) := Lim fun k => spec_PassBox.j2 k x7 x8 x9 x75 x223000 x223001 x223002 x223003 x224000 x224001 x235000 x235001
noncomputable def spec_PassBox.fv (a0_0 : Int) (l0_1 : List Int) (l0_2 : List Int) (a0_3 : Bool) (l1_0 : List Int) (l1_1 : List (S69)) : Option (List Int × (List (S69)) × Bool) := Lim fun k => spec_PassBox.f k a0_0 l0_1 l0_2 a0_3 l1_0 l1_1
theorem spec_PassBox.j0_is (x35 : Bool) (x223000 : Int) (x223001 : List Int) (x223002 : List Int) (x223003 : Bool) (x224000 : List Int) (x224001 : List (S69)) : Is (fun k => spec_PassBox.j0 k x35 x223000 x223001 x223002 x223003 x224000 x224001) (spec_PassBox.j0v x35 x223000 x223001 x223002 x223003 x224000 x224001) := ⟨fun k => (spec_PassBox.mono_l k).1 x35 x223000 x223001 x223002 x223003 x224000 x224001, rfl⟩
theorem spec_PassBox.l0_is (x7 : Int) (x223000 : Int) (x223001 : List Int) (x223002 : List Int) (x223003 : Bool) (x224000 : List Int) (x224001 : List (S69)) (x235000 : List Int) (x235001 : List (S69)) : Is (fun k => spec_PassBox.l0 k x7 x223000 x223001 x223002 x223003 x224000 x224001 x235000 x235001) (spec_PassBox.l0v x7 x223000 x223001 x223002 x223003 x224000 x224001 x235000 x235001) := ⟨fun k => (spec_PassBox.mono_l k).2.1 x7 x223000 x223001 x223002 x223003 x224000 x224001 x235000 x235001, rfl⟩
theorem spec_PassBox.j2_is (x7 : Int) (x8 : Int) (x9 : Bool) (x75 : Bool) (x223000 : Int) (x223001 : List Int) (x223002 : List Int) (x223003 : Bool) (x224000 : List Int) (x224001 : List (S69)) (x235000 : List Int) (x235001 : List (S69)) : Is (fun k => spec_PassBox.j2 k x7 x8 x9 x75 x223000 x223001 x223002 x223003 x224000 x224001 x235000 x235001) (spec_PassBox.j2v x7 x8 x9 x75 x223000 x223001 x223002 x223003 x224000 x224001 x235000 x235001) := ⟨fun k => (spec_PassBox.mono_l k).2.2 x7 x8 x9 x75 x223000 x223001 x223002 x223003 x224000 x224001 x235000 x235001, rfl⟩
theorem spec_PassBox.f_is (a0_0 : Int) (l0_1 : List Int) (l0_2 : List Int) (a0_3 : Bool) (l1_0 : List Int) (l1_1 : List (S69)) : Is (fun k => spec_PassBox.f k a0_0 l0_1 l0_2 a0_3 l1_0 l1_1) (spec_PassBox.fv a0_0 l0_1 l0_2 a0_3 l1_0 l1_1) := ⟨fun k => spec_PassBox.mono a0_0 l0_1 l0_2 a0_3 l1_0 l1_1 k, rfl⟩
theorem spec_PassBox.j0v_eq (x35 : Bool) (x223000 : Int) (x223001 : List Int) (x223002 : List Int) (x223003 : Bool) (x224000 : List Int) (x224001 : List (S69)) : spec_PassBox.j0v x35 x223000 x223001 x223002 x223003 x224000 x224001 = if x35 = true then (some (([] : List Int), ([] : List (S69)), false)) else ((some (([] : List Int) : List Int)).bind fun y228 => (if y228.length + x224000.length < 17592186044416 then (spec_PassBox.l0v 0 x223000 x223001 x223002 x223003 x224000 x224001 (y228 ++ x224000) ([] : List (S69))) else (none))) := by
  refine Is.step (spec_PassBox.j0_is x35 x223000 x223001 x223002 x223003 x224000 x224001).mo (fun k => by rw [spec_PassBox.j0]) ?_
  · skip
    repeat' first
    | with_reducible exact spec_PassBox.l0_is _ _ _ _ _ _ _ _ _
    | with_reducible exact Is.now _
    | with_reducible refine Is.ite ?_ ?_
    | with_reducible refine Is.bind ?_ (fun _ => ?_)
theorem spec_PassBox.l0v_eq (x7 : Int) (x223000 : Int) (x223001 : List Int) (x223002 : List Int) (x223003 : Bool) (x224000 : List Int) (x224001 : List (S69)) (x235000 : List Int) (x235001 : List (S69)) : spec_PassBox.l0v x7 x223000 x223001 x223002 x223003 x224000 x224001 x235000 x235001 = if x7 < (x224001.length : Int) then (if 0 ≤ x7 then ((spec_l9Has.fv x223002 ((rd_T69 x224001 x7).f0)).bind fun t236 => ((spec_l9Has.fv x223001 ((rd_T69 x224001 x7).f0)).bind fun t237 => (if t237 = true then (spec_PassBox.j2v x7 ((rd_T69 x224001 x7).f0) t236 true x223000 x223001 x223002 x223003 x224000 x224001 x235000 x235001) else (if x223003 = true then (if t236 = true then (spec_PassBox.j2v x7 ((rd_T69 x224001 x7).f0) t236 false x223000 x223001 x223002 x223003 x224000 x224001 x235000 x235001) else ((spec_l1In.f ((rd_T69 x224001 x7).f0) 1 3).bind fun t238 => (spec_PassBox.j2v x7 ((rd_T69 x224001 x7).f0) t236 (!t238) x223000 x223001 x223002 x223003 x224000 x224001 x235000 x235001))) else (spec_PassBox.j2v x7 ((rd_T69 x224001 x7).f0) t236 false x223000 x223001 x223002 x223003 x224000 x224001 x235000 x235001))))) else (none)) else (some (x235000, x235001, true)) := by
  refine Is.step (spec_PassBox.l0_is x7 x223000 x223001 x223002 x223003 x224000 x224001 x235000 x235001).mo (fun k => by rw [spec_PassBox.l0]) ?_
  · skip
    repeat' first
    | with_reducible exact spec_PassBox.j2_is _ _ _ _ _ _ _ _ _ _ _ _
    | with_reducible exact spec_l9Has.f_is _ _
    | with_reducible exact Is.now _
    | with_reducible refine Is.ite ?_ ?_
    | with_reducible refine Is.bind ?_ (fun _ => ?_)
theorem spec_PassBox.j2v_eq (x7 : Int) (x8 : Int) (x9 : Bool) (x75 : Bool) (x223000 : Int) (x223001 : List Int) (x223002 : List Int) (x223003 : Bool) (x224000 : List Int) (x224001 : List (S69)) (x235000 : List Int) (x235001 : List (S69)) : spec_PassBox.j2v x7 x8 x9 x75 x223000 x223001 x223002 x223003 x224000 x224001 x235000 x235001 = if x75 = true then (some (([] : List Int), ([] : List (S69)), false)) else (if x9 = true then (spec_PassBox.l0v (wrap64 (x7 + 1)) x223000 x223001 x223002 x223003 x224000 x224001 x235000 x235001) else ((some (([] : List Int) : List Int)).bind fun y239 => (if 0 ≤ x7 then (if x7 < (x224001.length : Int) then (if y239.length + ((rd_T69 x224001 x7).f1).length < 17592186044416 then (if x235001.length < 4398046511104 then (spec_PassBox.l0v (wrap64 (x7 + 1)) x223000 x223001 x223002 x223003 x224000 x224001 x235000 (x235001 ++ [(⟨x8, (y239 ++ ((rd_T69 x224001 x7).f1))⟩ : S69)])) else (none)) else (none)) else (none)) else (none)))) := by
  refine Is.step (spec_PassBox.j2_is x7 x8 x9 x75 x223000 x223001 x223002 x223003 x224000 x224001 x235000 x235001).mo (fun k => by rw [spec_PassBox.j2]) ?_
  · skip
    repeat' first
    | with_reducible exact spec_PassBox.l0_is _ _ _ _ _ _ _ _ _
    | with_reducible exact Is.now _
    | with_reducible refine Is.ite ?_ ?_
    | with_reducible refine Is.bind ?_ (fun _ => ?_)
theorem spec_PassBox.fv_eq (a0_0 : Int) (l0_1 : List Int) (l0_2 : List Int) (a0_3 : Bool) (l1_0 : List Int) (l1_1 : List (S69)) : spec_PassBox.fv a0_0 l0_1 l0_2 a0_3 l1_0 l1_1 = (spec_IsBox.fv a0_0 l0_1 l0_2 a0_3).bind fun t225 => (if t225 = true then ((spec_IsHello.fv l1_0 l1_1).bind fun t226 => (if t226 = true then (if a0_0 > 0 then (if 0 ≤ (wrap64 ((l1_0.length : Int) - 1)) then (if (wrap64 ((l1_0.length : Int) - 1)) < (l1_0.length : Int) then (spec_PassBox.j0v (decide ((rd l1_0 (wrap64 ((l1_0.length : Int) - 1))) > a0_0)) a0_0 l0_1 l0_2 a0_3 l1_0 l1_1) else (none)) else (none)) else (spec_PassBox.j0v false a0_0 l0_1 l0_2 a0_3 l1_0 l1_1)) else (spec_PassBox.j0v true a0_0 l0_1 l0_2 a0_3 l1_0 l1_1))) else (spec_PassBox.j0v true a0_0 l0_1 l0_2 a0_3 l1_0 l1_1)) := by
  refine Is.lim (g := fun k => spec_PassBox.f k a0_0 l0_1 l0_2 a0_3 l1_0 l1_1) ?_
  · unfold spec_PassBox.f
    repeat' first
    | with_reducible exact spec_IsBox.f_is _ _ _ _
    | with_reducible exact spec_IsHello.f_is _ _
    | with_reducible exact spec_PassBox.j0_is _ _ _ _ _ _ _
    | with_reducible exact Is.now _
    | with_reducible refine Is.ite ?_ ?_
    | with_reducible refine Is.bind ?_ (fun _ => ?_)
end Go.Proofs.Ytpoandlbmaljhaa.Print

/- Written by a program of this session (limx.py): the equations of what the printed functions come to. No condition. -/
namespace Go.Proofs.Ytpoandlbmaljhaa.Print
open Go.RowKit Go.Proofs.YtpoandlbmaljhaaW.PrintWords Go.Proofs.YtpoandlbmaljhaaW.PrintLast Go.Proofs.Ytpoandlbmaljhaa.Base
set_option linter.unusedVariables false
set_option maxRecDepth 20000
noncomputable def spec_PassPath.j0v (x0 : List (S50)) (x17 : Bool) (x250000 : List Int) (x250001 : List (S69)) : Option (List Int × (List (S69)) × Bool) := Lim fun k => spec_PassPath.j0 k x0 x17 x250000 x250001
noncomputable def spec_PassPath.l0v (x0 : List (S50)) (x7 : Int) (x259000 : List Int) (x259001 : List (S69)) : Option (List Int × (List (S69)) × Bool) := Lim fun k => spec_PassPath.l0 k x0 x7 x259000 x259001
noncomputable def spec_PassPath.fv (l0 : List (S50)) (l1_0 : List Int) (l1_1 : List (S69)) : Option (List Int × (List (S69)) × Bool) := Lim fun k => spec_PassPath.f k l0 l1_0 l1_1
theorem spec_PassPath.j0_is (x0 : List (S50)) (x17 : Bool) (x250000 : List Int) (x250001 : List (S69)) : Is (fun k => spec_PassPath.j0 k x0 x17 x250000 x250001) (spec_PassPath.j0v x0 x17 x250000 x250001) := ⟨fun k => (spec_PassPath.mono_l k).1 x0 x17 x250000 x250001, rfl⟩
theorem spec_PassPath.l0_is (x0 : List (S50)) (x7 : Int) (x259000 : List Int) (x259001 : List (S69)) : Is (fun k => spec_PassPath.l0 k x0 x7 x259000 x259001) (spec_PassPath.l0v x0 x7 x259000 x259001) := ⟨fun k => (spec_PassPath.mono_l k).2 x0 x7 x259000 x259001, rfl⟩
theorem spec_PassPath.f_is (l0 : List (S50)) (l1_0 : List Int) (l1_1 : List (S69)) : Is (fun k => spec_PassPath.f k l0 l1_0 l1_1) (spec_PassPath.fv l0 l1_0 l1_1) := ⟨fun k => spec_PassPath.mono l0 l1_0 l1_1 k, rfl⟩
theorem spec_PassPath.j0v_eq (x0 : List (S50)) (x17 : Bool) (x250000 : List Int) (x250001 : List (S69)) : spec_PassPath.j0v x0 x17 x250000 x250001 = if x17 = true then (some (([] : List Int), ([] : List (S69)), false)) else ((spec_l18Hello.fv x250000 x250001).bind fun bt252 => (spec_PassPath.l0v x0 0 bt252.1 bt252.2)) := by
  refine Is.step (spec_PassPath.j0_is x0 x17 x250000 x250001).mo (fun k => by rw [spec_PassPath.j0]) ?_
  · skip
    repeat' first
    | with_reducible exact spec_PassPath.l0_is _ _ _ _
    | with_reducible exact spec_l18Hello.f_is _ _
    | with_reducible exact Is.now _
    | with_reducible refine Is.ite ?_ ?_
    | with_reducible refine Is.bind ?_ (fun _ => ?_)
theorem spec_PassPath.l0v_eq (x0 : List (S50)) (x7 : Int) (x259000 : List Int) (x259001 : List (S69)) : spec_PassPath.l0v x0 x7 x259000 x259001 = if x7 < (x0.length : Int) then (if 0 ≤ x7 then ((spec_PassBox.fv ((rd_T50 x0 x7).f0) ((rd_T50 x0 x7).f1) ((rd_T50 x0 x7).f2) ((rd_T50 x0 x7).f3) x259000 x259001).bind fun bt260 => (if bt260.2.2 = true then (spec_PassPath.l0v x0 (wrap64 (x7 + 1)) bt260.1 bt260.2.1) else (some (([] : List Int), ([] : List (S69)), false)))) else (none)) else (some (x259000, x259001, true)) := by
  refine Is.step (spec_PassPath.l0_is x0 x7 x259000 x259001).mo (fun k => by rw [spec_PassPath.l0]) ?_
  · skip
    repeat' first
    | with_reducible exact spec_PassBox.f_is _ _ _ _ _ _
    | with_reducible exact spec_PassPath.l0_is _ _ _ _
    | with_reducible exact Is.now _
    | with_reducible refine Is.ite ?_ ?_
    | with_reducible refine Is.bind ?_ (fun _ => ?_)
theorem spec_PassPath.fv_eq (l0 : List (S50)) (l1_0 : List Int) (l1_1 : List (S69)) : spec_PassPath.fv l0 l1_0 l1_1 = if (l0.length : Int) > 4 then (spec_PassPath.j0v l0 true l1_0 l1_1) else ((spec_IsHello.fv l1_0 l1_1).bind fun t251 => (spec_PassPath.j0v l0 (!t251) l1_0 l1_1)) := by
  refine Is.lim (g := fun k => spec_PassPath.f k l0 l1_0 l1_1) ?_
  · unfold spec_PassPath.f
    repeat' first
    | with_reducible exact spec_IsHello.f_is _ _
    | with_reducible exact spec_PassPath.j0_is _ _ _ _
    | with_reducible exact Is.now _
    | with_reducible refine Is.ite ?_ ?_
    | with_reducible refine Is.bind ?_ (fun _ => ?_)
noncomputable def spec_IsOpenPath.fv (l0 : List (S50)) (l1 : List Int) : Option (Bool) := Lim fun k => spec_IsOpenPath.f k l0 l1
theorem spec_IsOpenPath.f_is (l0 : List (S50)) (l1 : List Int) : Is (fun k => spec_IsOpenPath.f k l0 l1) (spec_IsOpenPath.fv l0 l1) := ⟨fun k => spec_IsOpenPath.mono l0 l1 k, rfl⟩
theorem spec_IsOpenPath.fv_eq (l0 : List (S50)) (l1 : List Int) : spec_IsOpenPath.fv l0 l1 = (spec_AreVersions.fv l1).bind fun t268 => (if t268 = true then (if 1 ≤ (l1.length : Int) then ((spec_PlainHello.f (l1.take 1)).bind fun bt270 => ((spec_PassPath.fv l0 bt270.1 bt270.2).bind fun bt276 => (some bt276.2.2))) else (none)) else (some false)) := by
  refine Is.lim (g := fun k => spec_IsOpenPath.f k l0 l1) ?_
  · unfold spec_IsOpenPath.f
    repeat' first
    | with_reducible exact spec_AreVersions.f_is _
    | with_reducible exact spec_PassPath.f_is _ _ _
    | with_reducible exact Is.now _
    | with_reducible refine Is.ite ?_ ?_
    | with_reducible refine Is.bind ?_ (fun _ => ?_)
end Go.Proofs.Ytpoandlbmaljhaa.Print

/- Written by a program of this session (limx.py): the equations of what the printed functions come to. No condition. -/
namespace Go.Proofs.Ytpoandlbmaljhaa.Print
open Go.RowKit Go.Proofs.YtpoandlbmaljhaaW.PrintWords Go.Proofs.YtpoandlbmaljhaaW.PrintLast Go.Proofs.Ytpoandlbmaljhaa.Base
set_option linter.unusedVariables false
set_option maxRecDepth 20000
noncomputable def spec_LostVersions.l0v (x0 : List (S50)) (x1 : List Int) (x5 : List Int) (x6 : Int) : Option (List Int) := Lim fun k => spec_LostVersions.l0 k x0 x1 x5 x6
noncomputable def spec_LostVersions.j1v (x0 : List (S50)) (x1 : List Int) (x5 : List Int) (x6 : Int) (x15 : Bool) : Option (List Int) := Lim fun k => spec_LostVersions.j1 k x0 x1 x5 x6 x15
noncomputable def spec_LostVersions.fv (l0 : List (S50)) (l1 : List Int) : Option (List Int) := Lim fun k => spec_LostVersions.f k l0 l1
theorem spec_LostVersions.l0_is (x0 : List (S50)) (x1 : List Int) (x5 : List Int) (x6 : Int) : Is (fun k => spec_LostVersions.l0 k x0 x1 x5 x6) (spec_LostVersions.l0v x0 x1 x5 x6) := ⟨fun k => (spec_LostVersions.mono_l k).1 x0 x1 x5 x6, rfl⟩
theorem spec_LostVersions.j1_is (x0 : List (S50)) (x1 : List Int) (x5 : List Int) (x6 : Int) (x15 : Bool) : Is (fun k => spec_LostVersions.j1 k x0 x1 x5 x6 x15) (spec_LostVersions.j1v x0 x1 x5 x6 x15) := ⟨fun k => (spec_LostVersions.mono_l k).2 x0 x1 x5 x6 x15, rfl⟩
theorem spec_LostVersions.f_is (l0 : List (S50)) (l1 : List Int) : Is (fun k => spec_LostVersions.f k l0 l1) (spec_LostVersions.fv l0 l1) := ⟨fun k => spec_LostVersions.mono l0 l1 k, rfl⟩
theorem spec_LostVersions.l0v_eq (x0 : List (S50)) (x1 : List Int) (x5 : List Int) (x6 : Int) : spec_LostVersions.l0v x0 x1 x5 x6 = if x6 < (x1.length : Int) then ((spec_AreVersions.fv x1).bind fun t287 => (spec_LostVersions.j1v x0 x1 x5 x6 t287)) else (spec_LostVersions.j1v x0 x1 x5 x6 false) := by
  refine Is.step (spec_LostVersions.l0_is x0 x1 x5 x6).mo (fun k => by rw [spec_LostVersions.l0]) ?_
  · skip
    repeat' first
    | with_reducible exact spec_AreVersions.f_is _
    | with_reducible exact spec_LostVersions.j1_is _ _ _ _ _
    | with_reducible exact Is.now _
    | with_reducible refine Is.ite ?_ ?_
    | with_reducible refine Is.bind ?_ (fun _ => ?_)
theorem spec_LostVersions.j1v_eq (x0 : List (S50)) (x1 : List Int) (x5 : List Int) (x6 : Int) (x15 : Bool) : spec_LostVersions.j1v x0 x1 x5 x6 x15 = if x15 = true then (if 0 ≤ x6 then (if x6 ≤ (wrap64 (x6 + 1)) then (if (wrap64 (x6 + 1)) ≤ (x1.length : Int) then ((spec_IsOpenPath.fv x0 ((x1.take ((wrap64 (x6 + 1)) : Int).toNat).drop (x6 : Int).toNat)).bind fun t289 => (if t289 = true then (spec_LostVersions.l0v x0 x1 x5 (wrap64 (x6 + 1))) else (if x6 < (x1.length : Int) then (if x5.length < 17592186044416 then (spec_LostVersions.l0v x0 x1 (x5 ++ [rd x1 x6]) (wrap64 (x6 + 1))) else (none)) else (none)))) else (none)) else (none)) else (none)) else (some x5) := by
  refine Is.step (spec_LostVersions.j1_is x0 x1 x5 x6 x15).mo (fun k => by rw [spec_LostVersions.j1]) ?_
  · skip
    repeat' first
    | with_reducible exact spec_IsOpenPath.f_is _ _
    | with_reducible exact spec_LostVersions.l0_is _ _ _ _
    | with_reducible exact Is.now _
    | with_reducible refine Is.ite ?_ ?_
    | with_reducible refine Is.bind ?_ (fun _ => ?_)
theorem spec_LostVersions.fv_eq (l0 : List (S50)) (l1 : List Int) : spec_LostVersions.fv l0 l1 = spec_LostVersions.l0v l0 l1 (([] : List Int)) 0 := by
  refine Is.lim (g := fun k => spec_LostVersions.f k l0 l1) ?_
  · unfold spec_LostVersions.f
    repeat' first
    | with_reducible exact spec_LostVersions.l0_is _ _ _ _
    | with_reducible exact Is.now _
    | with_reducible refine Is.ite ?_ ?_
    | with_reducible refine Is.bind ?_ (fun _ => ?_)
noncomputable def spec_BestFor.fv (l0_0 : List Int) (l0_1 : List Int) (l0_2 : List (S50)) (a0_3 : Int) (l1 : List Int) : Option (Int) := Lim fun k => spec_BestFor.f k l0_0 l0_1 l0_2 a0_3 l1
theorem spec_BestFor.f_is (l0_0 : List Int) (l0_1 : List Int) (l0_2 : List (S50)) (a0_3 : Int) (l1 : List Int) : Is (fun k => spec_BestFor.f k l0_0 l0_1 l0_2 a0_3 l1) (spec_BestFor.fv l0_0 l0_1 l0_2 a0_3 l1) := ⟨fun k => spec_BestFor.mono l0_0 l0_1 l0_2 a0_3 l1 k, rfl⟩
theorem spec_BestFor.fv_eq (l0_0 : List Int) (l0_1 : List Int) (l0_2 : List (S50)) (a0_3 : Int) (l1 : List Int) : spec_BestFor.fv l0_0 l0_1 l0_2 a0_3 l1 = (spec_IsEndpoint.fv l0_0 l0_1 l0_2 a0_3).bind fun t295 => (if t295 = true then ((spec_LostVersions.fv l0_2 l0_0).bind fun t296 => ((spec_l21Left.fv l0_0 t296).bind fun t299 => ((spec_BestCommon.fv l1 t299).bind fun t302 => (some t302)))) else (some 0)) := by
  refine Is.lim (g := fun k => spec_BestFor.f k l0_0 l0_1 l0_2 a0_3 l1) ?_
  · unfold spec_BestFor.f
    repeat' first
    | with_reducible exact spec_BestCommon.f_is _ _
    | with_reducible exact spec_IsEndpoint.f_is _ _ _ _
    | with_reducible exact spec_LostVersions.f_is _ _
    | with_reducible exact spec_l21Left.f_is _ _
    | with_reducible exact Is.now _
    | with_reducible refine Is.ite ?_ ?_
    | with_reducible refine Is.bind ?_ (fun _ => ?_)
noncomputable def laws_toBox.fv (a0_0 : Int) (l0_1 : List Int) (l0_2 : List Int) (a0_3 : Bool) : Option (Int × List Int × List Int × Bool) := Lim fun k => laws_toBox.f k a0_0 l0_1 l0_2 a0_3
theorem laws_toBox.f_is (a0_0 : Int) (l0_1 : List Int) (l0_2 : List Int) (a0_3 : Bool) : Is (fun k => laws_toBox.f k a0_0 l0_1 l0_2 a0_3) (laws_toBox.fv a0_0 l0_1 l0_2 a0_3) := ⟨fun k => laws_toBox.mono a0_0 l0_1 l0_2 a0_3 k, rfl⟩
theorem laws_toBox.fv_eq (a0_0 : Int) (l0_1 : List Int) (l0_2 : List Int) (a0_3 : Bool) : laws_toBox.fv a0_0 l0_1 l0_2 a0_3 = (laws_toIntS.fv l0_1).bind fun t306 => ((laws_toIntS.fv l0_2).bind fun t309 => (some (a0_0, t306, t309, a0_3))) := by
  refine Is.lim (g := fun k => laws_toBox.f k a0_0 l0_1 l0_2 a0_3) ?_
  · unfold laws_toBox.f
    repeat' first
    | with_reducible exact laws_toIntS.f_is _
    | with_reducible exact Is.now _
    | with_reducible refine Is.ite ?_ ?_
    | with_reducible refine Is.bind ?_ (fun _ => ?_)
noncomputable def laws_toBoxS.l0v (x0 : List (S46)) (x3 : List (S50)) (x4 : Int) : Option ((List (S50))) := Lim fun k => laws_toBoxS.l0 k x0 x3 x4
noncomputable def laws_toBoxS.fv (l0 : List (S46)) : Option ((List (S50))) := Lim fun k => laws_toBoxS.f k l0
theorem laws_toBoxS.l0_is (x0 : List (S46)) (x3 : List (S50)) (x4 : Int) : Is (fun k => laws_toBoxS.l0 k x0 x3 x4) (laws_toBoxS.l0v x0 x3 x4) := ⟨fun k => (laws_toBoxS.mono_l k) x0 x3 x4, rfl⟩
theorem laws_toBoxS.f_is (l0 : List (S46)) : Is (fun k => laws_toBoxS.f k l0) (laws_toBoxS.fv l0) := ⟨fun k => laws_toBoxS.mono l0 k, rfl⟩
theorem laws_toBoxS.l0v_eq (x0 : List (S46)) (x3 : List (S50)) (x4 : Int) : laws_toBoxS.l0v x0 x3 x4 = if x4 < (x0.length : Int) then (if 0 ≤ x4 then ((laws_toBox.fv ((rd_T46 x0 x4).f0) ((rd_T46 x0 x4).f1) ((rd_T46 x0 x4).f2) ((rd_T46 x0 x4).f3)).bind fun bt316 => (if x4 < (x3.length : Int) then (laws_toBoxS.l0v x0 (x3.set (x4 : Int).toNat (⟨bt316.1, bt316.2.1, bt316.2.2.1, bt316.2.2.2⟩ : S50)) (wrap64 (x4 + 1))) else (none))) else (none)) else (some x3) := by
  refine Is.step (laws_toBoxS.l0_is x0 x3 x4).mo (fun k => by rw [laws_toBoxS.l0]) ?_
  · skip
    repeat' first
    | with_reducible exact laws_toBox.f_is _ _ _ _
    | with_reducible exact laws_toBoxS.l0_is _ _ _
    | with_reducible exact Is.now _
    | with_reducible refine Is.ite ?_ ?_
    | with_reducible refine Is.bind ?_ (fun _ => ?_)
theorem laws_toBoxS.fv_eq (l0 : List (S46)) : laws_toBoxS.fv l0 = if 0 ≤ (l0.length : Int) then (if ((l0.length : Int) : Int).toNat ≤ 4398046511104 then (laws_toBoxS.l0v l0 (List.replicate ((l0.length : Int) : Int).toNat z50) 0) else (none)) else (none) := by
  refine Is.lim (g := fun k => laws_toBoxS.f k l0) ?_
  · unfold laws_toBoxS.f
    repeat' first
    | with_reducible exact laws_toBoxS.l0_is _ _ _
    | with_reducible exact Is.now _
    | with_reducible refine Is.ite ?_ ?_
    | with_reducible refine Is.bind ?_ (fun _ => ?_)
noncomputable def laws_toEndpoint.fv (l0_0 : List Int) (l0_1 : List Int) (l0_2 : List (S46)) (a0_3 : Int) : Option (List Int × List Int × (List (S50)) × Int) := Lim fun k => laws_toEndpoint.f k l0_0 l0_1 l0_2 a0_3
theorem laws_toEndpoint.f_is (l0_0 : List Int) (l0_1 : List Int) (l0_2 : List (S46)) (a0_3 : Int) : Is (fun k => laws_toEndpoint.f k l0_0 l0_1 l0_2 a0_3) (laws_toEndpoint.fv l0_0 l0_1 l0_2 a0_3) := ⟨fun k => laws_toEndpoint.mono l0_0 l0_1 l0_2 a0_3 k, rfl⟩
theorem laws_toEndpoint.fv_eq (l0_0 : List Int) (l0_1 : List Int) (l0_2 : List (S46)) (a0_3 : Int) : laws_toEndpoint.fv l0_0 l0_1 l0_2 a0_3 = (laws_toIntS.fv l0_0).bind fun t328 => ((laws_toIntS.fv l0_1).bind fun t331 => ((laws_toBoxS.fv l0_2).bind fun t334 => (some (t328, t331, t334, a0_3)))) := by
  refine Is.lim (g := fun k => laws_toEndpoint.f k l0_0 l0_1 l0_2 a0_3) ?_
  · unfold laws_toEndpoint.f
    repeat' first
    | with_reducible exact laws_toBoxS.f_is _
    | with_reducible exact laws_toIntS.f_is _
    | with_reducible exact Is.now _
    | with_reducible refine Is.ite ?_ ?_
    | with_reducible refine Is.bind ?_ (fun _ => ?_)
noncomputable def impl_AreVersions.l0v (x0 : List Int) (x5 : List Int) (x6 : Int) (x7 : Int) : Option (Bool) := Lim fun k => impl_AreVersions.l0 k x0 x5 x6 x7
noncomputable def impl_AreVersions.fv (l0 : List Int) : Option (Bool) := Lim fun k => impl_AreVersions.f k l0
theorem impl_AreVersions.l0_is (x0 : List Int) (x5 : List Int) (x6 : Int) (x7 : Int) : Is (fun k => impl_AreVersions.l0 k x0 x5 x6 x7) (impl_AreVersions.l0v x0 x5 x6 x7) := ⟨fun k => (impl_AreVersions.mono_l k) x0 x5 x6 x7, rfl⟩
theorem impl_AreVersions.f_is (l0 : List Int) : Is (fun k => impl_AreVersions.f k l0) (impl_AreVersions.fv l0) := ⟨fun k => impl_AreVersions.mono l0 k, rfl⟩
theorem impl_AreVersions.l0v_eq (x0 : List Int) (x5 : List Int) (x6 : Int) (x7 : Int) : impl_AreVersions.l0v x0 x5 x6 x7 = if x7 < x6 then (if 0 ≤ x7 then (if x7 < (x5.length : Int) then ((impl_InRange.f (rd x5 x7) 1 9).bind fun t338 => (if t338 = true then (if x7 > 0 then (if 0 ≤ (wrap64 (x7 - 1)) then (if (wrap64 (x7 - 1)) < (x0.length : Int) then (if (rd x0 (wrap64 (x7 - 1))) ≥ (rd x5 x7) then (some false) else (impl_AreVersions.l0v x0 x5 x6 (wrap64 (x7 + 1)))) else (none)) else (none)) else (impl_AreVersions.l0v x0 x5 x6 (wrap64 (x7 + 1)))) else (some false))) else (none)) else (none)) else (some (decide ((x0.length : Int) > 0))) := by
  refine Is.step (impl_AreVersions.l0_is x0 x5 x6 x7).mo (fun k => by rw [impl_AreVersions.l0]) ?_
  · skip
    repeat' first
    | with_reducible exact impl_AreVersions.l0_is _ _ _ _
    | with_reducible exact Is.now _
    | with_reducible refine Is.ite ?_ ?_
    | with_reducible refine Is.bind ?_ (fun _ => ?_)
theorem impl_AreVersions.fv_eq (l0 : List Int) : impl_AreVersions.fv l0 = impl_AreVersions.l0v l0 l0 (l0.length : Int) 0 := by
  refine Is.lim (g := fun k => impl_AreVersions.f k l0) ?_
  · unfold impl_AreVersions.f
    repeat' first
    | with_reducible exact impl_AreVersions.l0_is _ _ _ _
    | with_reducible exact Is.now _
    | with_reducible refine Is.ite ?_ ?_
    | with_reducible refine Is.bind ?_ (fun _ => ?_)
end Go.Proofs.Ytpoandlbmaljhaa.Print

/- Written by a program of this session (limx.py): the equations of what the printed functions come to. No condition. -/
namespace Go.Proofs.Ytpoandlbmaljhaa.Print
open Go.RowKit Go.Proofs.YtpoandlbmaljhaaW.PrintWords Go.Proofs.YtpoandlbmaljhaaW.PrintLast Go.Proofs.Ytpoandlbmaljhaa.Base
set_option linter.unusedVariables false
set_option maxRecDepth 20000
noncomputable def slices_IndexFunc_int_int_with_impl_areNumbers_1.l0v (x0 : List Int) (x7 : Int) (x8 : Int) (x2000 : Int) (x3000 : Int) : Option (Int) := Lim fun k => slices_IndexFunc_int_int_with_impl_areNumbers_1.l0 k x0 x7 x8 x2000 x3000
noncomputable def slices_IndexFunc_int_int_with_impl_areNumbers_1.fv (l0 : List Int) (a1_0 : Int) (a2_0 : Int) : Option (Int) := Lim fun k => slices_IndexFunc_int_int_with_impl_areNumbers_1.f k l0 a1_0 a2_0
theorem slices_IndexFunc_int_int_with_impl_areNumbers_1.l0_is (x0 : List Int) (x7 : Int) (x8 : Int) (x2000 : Int) (x3000 : Int) : Is (fun k => slices_IndexFunc_int_int_with_impl_areNumbers_1.l0 k x0 x7 x8 x2000 x3000) (slices_IndexFunc_int_int_with_impl_areNumbers_1.l0v x0 x7 x8 x2000 x3000) := ⟨fun k => (slices_IndexFunc_int_int_with_impl_areNumbers_1.mono_l k) x0 x7 x8 x2000 x3000, rfl⟩
theorem slices_IndexFunc_int_int_with_impl_areNumbers_1.f_is (l0 : List Int) (a1_0 : Int) (a2_0 : Int) : Is (fun k => slices_IndexFunc_int_int_with_impl_areNumbers_1.f k l0 a1_0 a2_0) (slices_IndexFunc_int_int_with_impl_areNumbers_1.fv l0 a1_0 a2_0) := ⟨fun k => slices_IndexFunc_int_int_with_impl_areNumbers_1.mono l0 a1_0 a2_0 k, rfl⟩
theorem slices_IndexFunc_int_int_with_impl_areNumbers_1.l0v_eq (x0 : List Int) (x7 : Int) (x8 : Int) (x2000 : Int) (x3000 : Int) : slices_IndexFunc_int_int_with_impl_areNumbers_1.l0v x0 x7 x8 x2000 x3000 = if x8 < x7 then (if 0 ≤ x8 then (if x8 < (x0.length : Int) then ((impl_areNumbers_1.f (rd x0 x8) x2000 x3000).bind fun t342 => (if t342 = true then (some x8) else (slices_IndexFunc_int_int_with_impl_areNumbers_1.l0v x0 x7 (wrap64 (x8 + 1)) x2000 x3000))) else (none)) else (none)) else (some (-1)) := by
  refine Is.step (slices_IndexFunc_int_int_with_impl_areNumbers_1.l0_is x0 x7 x8 x2000 x3000).mo (fun k => by rw [slices_IndexFunc_int_int_with_impl_areNumbers_1.l0]) ?_
  · skip
    repeat' first
    | with_reducible exact slices_IndexFunc_int_int_with_impl_areNumbers_1.l0_is _ _ _ _ _
    | with_reducible exact Is.now _
    | with_reducible refine Is.ite ?_ ?_
    | with_reducible refine Is.bind ?_ (fun _ => ?_)
theorem slices_IndexFunc_int_int_with_impl_areNumbers_1.fv_eq (l0 : List Int) (a1_0 : Int) (a2_0 : Int) : slices_IndexFunc_int_int_with_impl_areNumbers_1.fv l0 a1_0 a2_0 = slices_IndexFunc_int_int_with_impl_areNumbers_1.l0v l0 (l0.length : Int) 0 a1_0 a2_0 := by
  refine Is.lim (g := fun k => slices_IndexFunc_int_int_with_impl_areNumbers_1.f k l0 a1_0 a2_0) ?_
  · unfold slices_IndexFunc_int_int_with_impl_areNumbers_1.f
    repeat' first
    | with_reducible exact slices_IndexFunc_int_int_with_impl_areNumbers_1.l0_is _ _ _ _ _
    | with_reducible exact Is.now _
    | with_reducible refine Is.ite ?_ ?_
    | with_reducible refine Is.bind ?_ (fun _ => ?_)
noncomputable def slices_ContainsFunc_int_int_with_impl_areNumbers_1.fv (l0 : List Int) (a1_0 : Int) (a2_0 : Int) : Option (Bool) := Lim fun k => slices_ContainsFunc_int_int_with_impl_areNumbers_1.f k l0 a1_0 a2_0
theorem slices_ContainsFunc_int_int_with_impl_areNumbers_1.f_is (l0 : List Int) (a1_0 : Int) (a2_0 : Int) : Is (fun k => slices_ContainsFunc_int_int_with_impl_areNumbers_1.f k l0 a1_0 a2_0) (slices_ContainsFunc_int_int_with_impl_areNumbers_1.fv l0 a1_0 a2_0) := ⟨fun k => slices_ContainsFunc_int_int_with_impl_areNumbers_1.mono l0 a1_0 a2_0 k, rfl⟩
theorem slices_ContainsFunc_int_int_with_impl_areNumbers_1.fv_eq (l0 : List Int) (a1_0 : Int) (a2_0 : Int) : slices_ContainsFunc_int_int_with_impl_areNumbers_1.fv l0 a1_0 a2_0 = (slices_IndexFunc_int_int_with_impl_areNumbers_1.fv l0 a1_0 a2_0).bind fun t343 => (some (decide (t343 ≥ 0))) := by
  refine Is.lim (g := fun k => slices_ContainsFunc_int_int_with_impl_areNumbers_1.f k l0 a1_0 a2_0) ?_
  · unfold slices_ContainsFunc_int_int_with_impl_areNumbers_1.f
    repeat' first
    | with_reducible exact slices_IndexFunc_int_int_with_impl_areNumbers_1.f_is _ _ _
    | with_reducible exact Is.now _
    | with_reducible refine Is.ite ?_ ?_
    | with_reducible refine Is.bind ?_ (fun _ => ?_)
noncomputable def impl_areNumbers.fv (l0 : List Int) (a1 : Int) (a2 : Int) : Option (Bool) := Lim fun k => impl_areNumbers.f k l0 a1 a2
theorem impl_areNumbers.f_is (l0 : List Int) (a1 : Int) (a2 : Int) : Is (fun k => impl_areNumbers.f k l0 a1 a2) (impl_areNumbers.fv l0 a1 a2) := ⟨fun k => impl_areNumbers.mono l0 a1 a2 k, rfl⟩
theorem impl_areNumbers.fv_eq (l0 : List Int) (a1 : Int) (a2 : Int) : impl_areNumbers.fv l0 a1 a2 = (slices_ContainsFunc_int_int_with_impl_areNumbers_1.fv l0 a1 a2).bind fun t346 => (some (!t346)) := by
  refine Is.lim (g := fun k => impl_areNumbers.f k l0 a1 a2) ?_
  · unfold impl_areNumbers.f
    repeat' first
    | with_reducible exact slices_ContainsFunc_int_int_with_impl_areNumbers_1.f_is _ _ _
    | with_reducible exact Is.now _
    | with_reducible refine Is.ite ?_ ?_
    | with_reducible refine Is.bind ?_ (fun _ => ?_)
noncomputable def impl_areTags.l0v (x0 : List Int) (x5 : List Int) (x6 : Int) (x7 : Int) : Option (Bool) := Lim fun k => impl_areTags.l0 k x0 x5 x6 x7
noncomputable def impl_areTags.fv (l0 : List Int) : Option (Bool) := Lim fun k => impl_areTags.f k l0
theorem impl_areTags.l0_is (x0 : List Int) (x5 : List Int) (x6 : Int) (x7 : Int) : Is (fun k => impl_areTags.l0 k x0 x5 x6 x7) (impl_areTags.l0v x0 x5 x6 x7) := ⟨fun k => (impl_areTags.mono_l k) x0 x5 x6 x7, rfl⟩
theorem impl_areTags.f_is (l0 : List Int) : Is (fun k => impl_areTags.f k l0) (impl_areTags.fv l0) := ⟨fun k => impl_areTags.mono l0 k, rfl⟩
theorem impl_areTags.l0v_eq (x0 : List Int) (x5 : List Int) (x6 : Int) (x7 : Int) : impl_areTags.l0v x0 x5 x6 x7 = if x7 < x6 then (if 0 ≤ x7 then (if x7 < (x5.length : Int) then (if x7 > 0 then (if 0 ≤ (wrap64 (x7 - 1)) then (if (wrap64 (x7 - 1)) < (x0.length : Int) then (if (rd x0 (wrap64 (x7 - 1))) ≥ (rd x5 x7) then (some false) else (impl_areTags.l0v x0 x5 x6 (wrap64 (x7 + 1)))) else (none)) else (none)) else (impl_areTags.l0v x0 x5 x6 (wrap64 (x7 + 1)))) else (none)) else (none)) else ((impl_areNumbers.fv x0 0 255).bind fun t349 => (some t349)) := by
  refine Is.step (impl_areTags.l0_is x0 x5 x6 x7).mo (fun k => by rw [impl_areTags.l0]) ?_
  · skip
    repeat' first
    | with_reducible exact impl_areNumbers.f_is _ _ _
    | with_reducible exact impl_areTags.l0_is _ _ _ _
    | with_reducible exact Is.now _
    | with_reducible refine Is.ite ?_ ?_
    | with_reducible refine Is.bind ?_ (fun _ => ?_)
theorem impl_areTags.fv_eq (l0 : List Int) : impl_areTags.fv l0 = impl_areTags.l0v l0 l0 (l0.length : Int) 0 := by
  refine Is.lim (g := fun k => impl_areTags.f k l0) ?_
  · unfold impl_areTags.f
    repeat' first
    | with_reducible exact impl_areTags.l0_is _ _ _ _
    | with_reducible exact Is.now _
    | with_reducible refine Is.ite ?_ ?_
    | with_reducible refine Is.bind ?_ (fun _ => ?_)
noncomputable def slices_IndexFunc_int_int_with_impl_IsReserved.l0v (x0 : List Int) (x7 : Int) (x8 : Int) : Option (Int) := Lim fun k => slices_IndexFunc_int_int_with_impl_IsReserved.l0 k x0 x7 x8
noncomputable def slices_IndexFunc_int_int_with_impl_IsReserved.fv (l0 : List Int) : Option (Int) := Lim fun k => slices_IndexFunc_int_int_with_impl_IsReserved.f k l0
theorem slices_IndexFunc_int_int_with_impl_IsReserved.l0_is (x0 : List Int) (x7 : Int) (x8 : Int) : Is (fun k => slices_IndexFunc_int_int_with_impl_IsReserved.l0 k x0 x7 x8) (slices_IndexFunc_int_int_with_impl_IsReserved.l0v x0 x7 x8) := ⟨fun k => (slices_IndexFunc_int_int_with_impl_IsReserved.mono_l k) x0 x7 x8, rfl⟩
theorem slices_IndexFunc_int_int_with_impl_IsReserved.f_is (l0 : List Int) : Is (fun k => slices_IndexFunc_int_int_with_impl_IsReserved.f k l0) (slices_IndexFunc_int_int_with_impl_IsReserved.fv l0) := ⟨fun k => slices_IndexFunc_int_int_with_impl_IsReserved.mono l0 k, rfl⟩
theorem slices_IndexFunc_int_int_with_impl_IsReserved.l0v_eq (x0 : List Int) (x7 : Int) (x8 : Int) : slices_IndexFunc_int_int_with_impl_IsReserved.l0v x0 x7 x8 = if x8 < x7 then (if 0 ≤ x8 then (if x8 < (x0.length : Int) then ((impl_IsReserved.f (rd x0 x8)).bind fun t352 => (if t352 = true then (some x8) else (slices_IndexFunc_int_int_with_impl_IsReserved.l0v x0 x7 (wrap64 (x8 + 1))))) else (none)) else (none)) else (some (-1)) := by
  refine Is.step (slices_IndexFunc_int_int_with_impl_IsReserved.l0_is x0 x7 x8).mo (fun k => by rw [slices_IndexFunc_int_int_with_impl_IsReserved.l0]) ?_
  · skip
    repeat' first
    | with_reducible exact slices_IndexFunc_int_int_with_impl_IsReserved.l0_is _ _ _
    | with_reducible exact Is.now _
    | with_reducible refine Is.ite ?_ ?_
    | with_reducible refine Is.bind ?_ (fun _ => ?_)
theorem slices_IndexFunc_int_int_with_impl_IsReserved.fv_eq (l0 : List Int) : slices_IndexFunc_int_int_with_impl_IsReserved.fv l0 = slices_IndexFunc_int_int_with_impl_IsReserved.l0v l0 (l0.length : Int) 0 := by
  refine Is.lim (g := fun k => slices_IndexFunc_int_int_with_impl_IsReserved.f k l0) ?_
  · unfold slices_IndexFunc_int_int_with_impl_IsReserved.f
    repeat' first
    | with_reducible exact slices_IndexFunc_int_int_with_impl_IsReserved.l0_is _ _ _
    | with_reducible exact Is.now _
    | with_reducible refine Is.ite ?_ ?_
    | with_reducible refine Is.bind ?_ (fun _ => ?_)
noncomputable def slices_ContainsFunc_int_int_with_impl_IsReserved.fv (l0 : List Int) : Option (Bool) := Lim fun k => slices_ContainsFunc_int_int_with_impl_IsReserved.f k l0
theorem slices_ContainsFunc_int_int_with_impl_IsReserved.f_is (l0 : List Int) : Is (fun k => slices_ContainsFunc_int_int_with_impl_IsReserved.f k l0) (slices_ContainsFunc_int_int_with_impl_IsReserved.fv l0) := ⟨fun k => slices_ContainsFunc_int_int_with_impl_IsReserved.mono l0 k, rfl⟩
theorem slices_ContainsFunc_int_int_with_impl_IsReserved.fv_eq (l0 : List Int) : slices_ContainsFunc_int_int_with_impl_IsReserved.fv l0 = (slices_IndexFunc_int_int_with_impl_IsReserved.fv l0).bind fun t353 => (some (decide (t353 ≥ 0))) := by
  refine Is.lim (g := fun k => slices_ContainsFunc_int_int_with_impl_IsReserved.f k l0) ?_
  · unfold slices_ContainsFunc_int_int_with_impl_IsReserved.f
    repeat' first
    | with_reducible exact slices_IndexFunc_int_int_with_impl_IsReserved.f_is _
    | with_reducible exact Is.now _
    | with_reducible refine Is.ite ?_ ?_
    | with_reducible refine Is.bind ?_ (fun _ => ?_)
noncomputable def impl_IsHardened.fv (l0 : List Int) : Option (Bool) := Lim fun k => impl_IsHardened.f k l0
theorem impl_IsHardened.f_is (l0 : List Int) : Is (fun k => impl_IsHardened.f k l0) (impl_IsHardened.fv l0) := ⟨fun k => impl_IsHardened.mono l0 k, rfl⟩
theorem impl_IsHardened.fv_eq (l0 : List Int) : impl_IsHardened.fv l0 = (slices_ContainsFunc_int_int_with_impl_IsReserved.fv l0).bind fun t354 => (some t354) := by
  refine Is.lim (g := fun k => impl_IsHardened.f k l0) ?_
  · unfold impl_IsHardened.f
    repeat' first
    | with_reducible exact slices_ContainsFunc_int_int_with_impl_IsReserved.f_is _
    | with_reducible exact Is.now _
    | with_reducible refine Is.ite ?_ ?_
    | with_reducible refine Is.bind ?_ (fun _ => ?_)
noncomputable def impl_IsBox.fv (a0_0 : Int) (l0_1 : List Int) (l0_2 : List Int) (a0_3 : Bool) : Option (Bool) := Lim fun k => impl_IsBox.f k a0_0 l0_1 l0_2 a0_3
theorem impl_IsBox.f_is (a0_0 : Int) (l0_1 : List Int) (l0_2 : List Int) (a0_3 : Bool) : Is (fun k => impl_IsBox.f k a0_0 l0_1 l0_2 a0_3) (impl_IsBox.fv a0_0 l0_1 l0_2 a0_3) := ⟨fun k => impl_IsBox.mono a0_0 l0_1 l0_2 a0_3 k, rfl⟩
theorem impl_IsBox.fv_eq (a0_0 : Int) (l0_1 : List Int) (l0_2 : List Int) (a0_3 : Bool) : impl_IsBox.fv a0_0 l0_1 l0_2 a0_3 = (impl_InRange.f a0_0 0 9).bind fun t356 => (if t356 = true then (if (l0_1.length : Int) ≤ 6 then (if (l0_2.length : Int) ≤ 6 then ((impl_areNumbers.fv l0_1 0 255).bind fun t357 => (if t357 = true then ((impl_areNumbers.fv l0_2 0 255).bind fun t358 => (some t358)) else (some false))) else (some false)) else (some false)) else (some false)) := by
  refine Is.lim (g := fun k => impl_IsBox.f k a0_0 l0_1 l0_2 a0_3) ?_
  · unfold impl_IsBox.f
    repeat' first
    | with_reducible exact impl_areNumbers.f_is _ _ _
    | with_reducible exact Is.now _
    | with_reducible refine Is.ite ?_ ?_
    | with_reducible refine Is.bind ?_ (fun _ => ?_)
noncomputable def impl_IsEndpoint_1.fv (a0_0 : Int) (l0_1 : List Int) (l0_2 : List Int) (a0_3 : Bool) : Option (Bool) := Lim fun k => impl_IsEndpoint_1.f k a0_0 l0_1 l0_2 a0_3
theorem impl_IsEndpoint_1.f_is (a0_0 : Int) (l0_1 : List Int) (l0_2 : List Int) (a0_3 : Bool) : Is (fun k => impl_IsEndpoint_1.f k a0_0 l0_1 l0_2 a0_3) (impl_IsEndpoint_1.fv a0_0 l0_1 l0_2 a0_3) := ⟨fun k => impl_IsEndpoint_1.mono a0_0 l0_1 l0_2 a0_3 k, rfl⟩
theorem impl_IsEndpoint_1.fv_eq (a0_0 : Int) (l0_1 : List Int) (l0_2 : List Int) (a0_3 : Bool) : impl_IsEndpoint_1.fv a0_0 l0_1 l0_2 a0_3 = (impl_IsBox.fv a0_0 l0_1 l0_2 a0_3).bind fun t360 => (some (!t360)) := by
  refine Is.lim (g := fun k => impl_IsEndpoint_1.f k a0_0 l0_1 l0_2 a0_3) ?_
  · unfold impl_IsEndpoint_1.f
    repeat' first
    | with_reducible exact impl_IsBox.f_is _ _ _ _
    | with_reducible exact Is.now _
    | with_reducible refine Is.ite ?_ ?_
    | with_reducible refine Is.bind ?_ (fun _ => ?_)
end Go.Proofs.Ytpoandlbmaljhaa.Print

/- Written by a program of this session (limx.py): the equations of what the printed functions come to. No condition. -/
namespace Go.Proofs.Ytpoandlbmaljhaa.Print
open Go.RowKit Go.Proofs.YtpoandlbmaljhaaW.PrintWords Go.Proofs.YtpoandlbmaljhaaW.PrintLast Go.Proofs.Ytpoandlbmaljhaa.Base
set_option linter.unusedVariables false
set_option maxRecDepth 20000
noncomputable def slices_IndexFunc_impl_Box_impl_Box_with_impl_IsEndpoint_1.l0v (x0 : List (S50)) (x7 : Int) (x8 : Int) : Option (Int) := Lim fun k => slices_IndexFunc_impl_Box_impl_Box_with_impl_IsEndpoint_1.l0 k x0 x7 x8
noncomputable def slices_IndexFunc_impl_Box_impl_Box_with_impl_IsEndpoint_1.fv (l0 : List (S50)) : Option (Int) := Lim fun k => slices_IndexFunc_impl_Box_impl_Box_with_impl_IsEndpoint_1.f k l0
theorem slices_IndexFunc_impl_Box_impl_Box_with_impl_IsEndpoint_1.l0_is (x0 : List (S50)) (x7 : Int) (x8 : Int) : Is (fun k => slices_IndexFunc_impl_Box_impl_Box_with_impl_IsEndpoint_1.l0 k x0 x7 x8) (slices_IndexFunc_impl_Box_impl_Box_with_impl_IsEndpoint_1.l0v x0 x7 x8) := ⟨fun k => (slices_IndexFunc_impl_Box_impl_Box_with_impl_IsEndpoint_1.mono_l k) x0 x7 x8, rfl⟩
theorem slices_IndexFunc_impl_Box_impl_Box_with_impl_IsEndpoint_1.f_is (l0 : List (S50)) : Is (fun k => slices_IndexFunc_impl_Box_impl_Box_with_impl_IsEndpoint_1.f k l0) (slices_IndexFunc_impl_Box_impl_Box_with_impl_IsEndpoint_1.fv l0) := ⟨fun k => slices_IndexFunc_impl_Box_impl_Box_with_impl_IsEndpoint_1.mono l0 k, rfl⟩
theorem slices_IndexFunc_impl_Box_impl_Box_with_impl_IsEndpoint_1.l0v_eq (x0 : List (S50)) (x7 : Int) (x8 : Int) : slices_IndexFunc_impl_Box_impl_Box_with_impl_IsEndpoint_1.l0v x0 x7 x8 = if x8 < x7 then (if 0 ≤ x8 then (if x8 < (x0.length : Int) then ((impl_IsEndpoint_1.fv ((rd_T50 x0 x8).f0) ((rd_T50 x0 x8).f1) ((rd_T50 x0 x8).f2) ((rd_T50 x0 x8).f3)).bind fun t362 => (if t362 = true then (some x8) else (slices_IndexFunc_impl_Box_impl_Box_with_impl_IsEndpoint_1.l0v x0 x7 (wrap64 (x8 + 1))))) else (none)) else (none)) else (some (-1)) := by
  refine Is.step (slices_IndexFunc_impl_Box_impl_Box_with_impl_IsEndpoint_1.l0_is x0 x7 x8).mo (fun k => by rw [slices_IndexFunc_impl_Box_impl_Box_with_impl_IsEndpoint_1.l0]) ?_
  · skip
    repeat' first
    | with_reducible exact impl_IsEndpoint_1.f_is _ _ _ _
    | with_reducible exact slices_IndexFunc_impl_Box_impl_Box_with_impl_IsEndpoint_1.l0_is _ _ _
    | with_reducible exact Is.now _
    | with_reducible refine Is.ite ?_ ?_
    | with_reducible refine Is.bind ?_ (fun _ => ?_)
theorem slices_IndexFunc_impl_Box_impl_Box_with_impl_IsEndpoint_1.fv_eq (l0 : List (S50)) : slices_IndexFunc_impl_Box_impl_Box_with_impl_IsEndpoint_1.fv l0 = slices_IndexFunc_impl_Box_impl_Box_with_impl_IsEndpoint_1.l0v l0 (l0.length : Int) 0 := by
  refine Is.lim (g := fun k => slices_IndexFunc_impl_Box_impl_Box_with_impl_IsEndpoint_1.f k l0) ?_
  · unfold slices_IndexFunc_impl_Box_impl_Box_with_impl_IsEndpoint_1.f
    repeat' first
    | with_reducible exact slices_IndexFunc_impl_Box_impl_Box_with_impl_IsEndpoint_1.l0_is _ _ _
    | with_reducible exact Is.now _
    | with_reducible refine Is.ite ?_ ?_
    | with_reducible refine Is.bind ?_ (fun _ => ?_)
noncomputable def slices_ContainsFunc_impl_Box_impl_Box_with_impl_IsEndpoint_1.fv (l0 : List (S50)) : Option (Bool) := Lim fun k => slices_ContainsFunc_impl_Box_impl_Box_with_impl_IsEndpoint_1.f k l0
theorem slices_ContainsFunc_impl_Box_impl_Box_with_impl_IsEndpoint_1.f_is (l0 : List (S50)) : Is (fun k => slices_ContainsFunc_impl_Box_impl_Box_with_impl_IsEndpoint_1.f k l0) (slices_ContainsFunc_impl_Box_impl_Box_with_impl_IsEndpoint_1.fv l0) := ⟨fun k => slices_ContainsFunc_impl_Box_impl_Box_with_impl_IsEndpoint_1.mono l0 k, rfl⟩
theorem slices_ContainsFunc_impl_Box_impl_Box_with_impl_IsEndpoint_1.fv_eq (l0 : List (S50)) : slices_ContainsFunc_impl_Box_impl_Box_with_impl_IsEndpoint_1.fv l0 = (slices_IndexFunc_impl_Box_impl_Box_with_impl_IsEndpoint_1.fv l0).bind fun t363 => (some (decide (t363 ≥ 0))) := by
  refine Is.lim (g := fun k => slices_ContainsFunc_impl_Box_impl_Box_with_impl_IsEndpoint_1.f k l0) ?_
  · unfold slices_ContainsFunc_impl_Box_impl_Box_with_impl_IsEndpoint_1.f
    repeat' first
    | with_reducible exact slices_IndexFunc_impl_Box_impl_Box_with_impl_IsEndpoint_1.f_is _
    | with_reducible exact Is.now _
    | with_reducible refine Is.ite ?_ ?_
    | with_reducible refine Is.bind ?_ (fun _ => ?_)
noncomputable def impl_IsEndpoint.fv (l0_0 : List Int) (l0_1 : List Int) (l0_2 : List (S50)) (a0_3 : Int) : Option (Bool) := Lim fun k => impl_IsEndpoint.f k l0_0 l0_1 l0_2 a0_3
theorem impl_IsEndpoint.f_is (l0_0 : List Int) (l0_1 : List Int) (l0_2 : List (S50)) (a0_3 : Int) : Is (fun k => impl_IsEndpoint.f k l0_0 l0_1 l0_2 a0_3) (impl_IsEndpoint.fv l0_0 l0_1 l0_2 a0_3) := ⟨fun k => impl_IsEndpoint.mono l0_0 l0_1 l0_2 a0_3 k, rfl⟩
theorem impl_IsEndpoint.fv_eq (l0_0 : List Int) (l0_1 : List Int) (l0_2 : List (S50)) (a0_3 : Int) : impl_IsEndpoint.fv l0_0 l0_1 l0_2 a0_3 = (impl_AreVersions.fv l0_0).bind fun t365 => (if t365 = true then (if (l0_1.length : Int) ≤ 5 then ((impl_areTags.fv l0_1).bind fun t366 => (if t366 = true then ((impl_IsHardened.fv l0_1).bind fun t367 => (if t367 = true then (some false) else (if (l0_2.length : Int) ≤ 4 then ((slices_ContainsFunc_impl_Box_impl_Box_with_impl_IsEndpoint_1.fv l0_2).bind fun t368 => (if t368 = true then (some false) else ((impl_InRange.f a0_3 0 5).bind fun t369 => (some t369)))) else (some false)))) else (some false))) else (some false)) else (some false)) := by
  refine Is.lim (g := fun k => impl_IsEndpoint.f k l0_0 l0_1 l0_2 a0_3) ?_
  · unfold impl_IsEndpoint.f
    repeat' first
    | with_reducible exact impl_AreVersions.f_is _
    | with_reducible exact impl_IsHardened.f_is _
    | with_reducible exact impl_areTags.f_is _
    | with_reducible exact slices_ContainsFunc_impl_Box_impl_Box_with_impl_IsEndpoint_1.f_is _
    | with_reducible exact Is.now _
    | with_reducible refine Is.ite ?_ ?_
    | with_reducible refine Is.bind ?_ (fun _ => ?_)
noncomputable def slices_Index_int_int.l0v (x0 : List Int) (x1 : Int) (x7 : Int) (x8 : Int) : Option (Int) := Lim fun k => slices_Index_int_int.l0 k x0 x1 x7 x8
noncomputable def slices_Index_int_int.fv (l0 : List Int) (a1 : Int) : Option (Int) := Lim fun k => slices_Index_int_int.f k l0 a1
theorem slices_Index_int_int.l0_is (x0 : List Int) (x1 : Int) (x7 : Int) (x8 : Int) : Is (fun k => slices_Index_int_int.l0 k x0 x1 x7 x8) (slices_Index_int_int.l0v x0 x1 x7 x8) := ⟨fun k => (slices_Index_int_int.mono_l k) x0 x1 x7 x8, rfl⟩
theorem slices_Index_int_int.f_is (l0 : List Int) (a1 : Int) : Is (fun k => slices_Index_int_int.f k l0 a1) (slices_Index_int_int.fv l0 a1) := ⟨fun k => slices_Index_int_int.mono l0 a1 k, rfl⟩
theorem slices_Index_int_int.l0v_eq (x0 : List Int) (x1 : Int) (x7 : Int) (x8 : Int) : slices_Index_int_int.l0v x0 x1 x7 x8 = if x8 < x7 then (if 0 ≤ x8 then (if x8 < (x0.length : Int) then (if x1 = (rd x0 x8) then (some x8) else (slices_Index_int_int.l0v x0 x1 x7 (wrap64 (x8 + 1)))) else (none)) else (none)) else (some (-1)) := by
  refine Is.step (slices_Index_int_int.l0_is x0 x1 x7 x8).mo (fun k => by rw [slices_Index_int_int.l0]) ?_
  · skip
    repeat' first
    | with_reducible exact slices_Index_int_int.l0_is _ _ _ _
    | with_reducible exact Is.now _
    | with_reducible refine Is.ite ?_ ?_
    | with_reducible refine Is.bind ?_ (fun _ => ?_)
theorem slices_Index_int_int.fv_eq (l0 : List Int) (a1 : Int) : slices_Index_int_int.fv l0 a1 = slices_Index_int_int.l0v l0 a1 (l0.length : Int) 0 := by
  refine Is.lim (g := fun k => slices_Index_int_int.f k l0 a1) ?_
  · unfold slices_Index_int_int.f
    repeat' first
    | with_reducible exact slices_Index_int_int.l0_is _ _ _ _
    | with_reducible exact Is.now _
    | with_reducible refine Is.ite ?_ ?_
    | with_reducible refine Is.bind ?_ (fun _ => ?_)
noncomputable def slices_Contains_int_int.fv (l0 : List Int) (a1 : Int) : Option (Bool) := Lim fun k => slices_Contains_int_int.f k l0 a1
theorem slices_Contains_int_int.f_is (l0 : List Int) (a1 : Int) : Is (fun k => slices_Contains_int_int.f k l0 a1) (slices_Contains_int_int.fv l0 a1) := ⟨fun k => slices_Contains_int_int.mono l0 a1 k, rfl⟩
theorem slices_Contains_int_int.fv_eq (l0 : List Int) (a1 : Int) : slices_Contains_int_int.fv l0 a1 = (slices_Index_int_int.fv l0 a1).bind fun t371 => (some (decide (t371 ≥ 0))) := by
  refine Is.lim (g := fun k => slices_Contains_int_int.f k l0 a1) ?_
  · unfold slices_Contains_int_int.f
    repeat' first
    | with_reducible exact slices_Index_int_int.f_is _ _
    | with_reducible exact Is.now _
    | with_reducible refine Is.ite ?_ ?_
    | with_reducible refine Is.bind ?_ (fun _ => ?_)
noncomputable def impl_CommonOf.l0v (x1 : List Int) (x5 : List Int) (x9 : List Int) (x10 : Int) (x11 : Int) : Option (List Int) := Lim fun k => impl_CommonOf.l0 k x1 x5 x9 x10 x11
noncomputable def impl_CommonOf.fv (l0 : List Int) (l1 : List Int) : Option (List Int) := Lim fun k => impl_CommonOf.f k l0 l1
theorem impl_CommonOf.l0_is (x1 : List Int) (x5 : List Int) (x9 : List Int) (x10 : Int) (x11 : Int) : Is (fun k => impl_CommonOf.l0 k x1 x5 x9 x10 x11) (impl_CommonOf.l0v x1 x5 x9 x10 x11) := ⟨fun k => (impl_CommonOf.mono_l k) x1 x5 x9 x10 x11, rfl⟩
theorem impl_CommonOf.f_is (l0 : List Int) (l1 : List Int) : Is (fun k => impl_CommonOf.f k l0 l1) (impl_CommonOf.fv l0 l1) := ⟨fun k => impl_CommonOf.mono l0 l1 k, rfl⟩
theorem impl_CommonOf.l0v_eq (x1 : List Int) (x5 : List Int) (x9 : List Int) (x10 : Int) (x11 : Int) : impl_CommonOf.l0v x1 x5 x9 x10 x11 = if x11 < x10 then (if 0 ≤ x11 then (if x11 < (x9.length : Int) then ((slices_Contains_int_int.fv x1 (rd x9 x11)).bind fun t376 => (if t376 = true then (if x5.length < 17592186044416 then (impl_CommonOf.l0v x1 (x5 ++ [rd x9 x11]) x9 x10 (wrap64 (x11 + 1))) else (none)) else (impl_CommonOf.l0v x1 x5 x9 x10 (wrap64 (x11 + 1))))) else (none)) else (none)) else (some x5) := by
  refine Is.step (impl_CommonOf.l0_is x1 x5 x9 x10 x11).mo (fun k => by rw [impl_CommonOf.l0]) ?_
  · skip
    repeat' first
    | with_reducible exact impl_CommonOf.l0_is _ _ _ _ _
    | with_reducible exact slices_Contains_int_int.f_is _ _
    | with_reducible exact Is.now _
    | with_reducible refine Is.ite ?_ ?_
    | with_reducible refine Is.bind ?_ (fun _ => ?_)
theorem impl_CommonOf.fv_eq (l0 : List Int) (l1 : List Int) : impl_CommonOf.fv l0 l1 = impl_CommonOf.l0v l1 (([] : List Int)) l0 (l0.length : Int) 0 := by
  refine Is.lim (g := fun k => impl_CommonOf.f k l0 l1) ?_
  · unfold impl_CommonOf.f
    repeat' first
    | with_reducible exact impl_CommonOf.l0_is _ _ _ _ _
    | with_reducible exact Is.now _
    | with_reducible refine Is.ite ?_ ?_
    | with_reducible refine Is.bind ?_ (fun _ => ?_)
noncomputable def impl_BestCommon.j0v (x0 : List Int) (x1 : List Int) (x15 : Bool) : Option (Int) := Lim fun k => impl_BestCommon.j0 k x0 x1 x15
noncomputable def impl_BestCommon.l0v (x5 : Int) (x18 : List Int) (x19 : Int) (x20 : Int) : Option (Int) := Lim fun k => impl_BestCommon.l0 k x5 x18 x19 x20
noncomputable def impl_BestCommon.fv (l0 : List Int) (l1 : List Int) : Option (Int) := Lim fun k => impl_BestCommon.f k l0 l1
theorem impl_BestCommon.j0_is (x0 : List Int) (x1 : List Int) (x15 : Bool) : Is (fun k => impl_BestCommon.j0 k x0 x1 x15) (impl_BestCommon.j0v x0 x1 x15) := ⟨fun k => (impl_BestCommon.mono_l k).1 x0 x1 x15, rfl⟩
theorem impl_BestCommon.l0_is (x5 : Int) (x18 : List Int) (x19 : Int) (x20 : Int) : Is (fun k => impl_BestCommon.l0 k x5 x18 x19 x20) (impl_BestCommon.l0v x5 x18 x19 x20) := ⟨fun k => (impl_BestCommon.mono_l k).2 x5 x18 x19 x20, rfl⟩
theorem impl_BestCommon.f_is (l0 : List Int) (l1 : List Int) : Is (fun k => impl_BestCommon.f k l0 l1) (impl_BestCommon.fv l0 l1) := ⟨fun k => impl_BestCommon.mono l0 l1 k, rfl⟩
theorem impl_BestCommon.j0v_eq (x0 : List Int) (x1 : List Int) (x15 : Bool) : impl_BestCommon.j0v x0 x1 x15 = if x15 = true then (some 0) else ((impl_CommonOf.fv x0 x1).bind fun t382 => (impl_BestCommon.l0v 0 t382 (t382.length : Int) 0)) := by
  refine Is.step (impl_BestCommon.j0_is x0 x1 x15).mo (fun k => by rw [impl_BestCommon.j0]) ?_
  · skip
    repeat' first
    | with_reducible exact impl_BestCommon.l0_is _ _ _ _
    | with_reducible exact impl_CommonOf.f_is _ _
    | with_reducible exact Is.now _
    | with_reducible refine Is.ite ?_ ?_
    | with_reducible refine Is.bind ?_ (fun _ => ?_)
theorem impl_BestCommon.l0v_eq (x5 : Int) (x18 : List Int) (x19 : Int) (x20 : Int) : impl_BestCommon.l0v x5 x18 x19 x20 = if x20 < x19 then (if 0 ≤ x20 then (if x20 < (x18.length : Int) then (impl_BestCommon.l0v (mx x5 (rd x18 x20)) x18 x19 (wrap64 (x20 + 1))) else (none)) else (none)) else (some x5) := by
  refine Is.step (impl_BestCommon.l0_is x5 x18 x19 x20).mo (fun k => by rw [impl_BestCommon.l0]) ?_
  · skip
    repeat' first
    | with_reducible exact impl_BestCommon.l0_is _ _ _ _
    | with_reducible exact Is.now _
    | with_reducible refine Is.ite ?_ ?_
    | with_reducible refine Is.bind ?_ (fun _ => ?_)
theorem impl_BestCommon.fv_eq (l0 : List Int) (l1 : List Int) : impl_BestCommon.fv l0 l1 = (impl_AreVersions.fv l0).bind fun t380 => (if t380 = true then ((impl_AreVersions.fv l1).bind fun t381 => (impl_BestCommon.j0v l0 l1 (!t381))) else (impl_BestCommon.j0v l0 l1 true)) := by
  refine Is.lim (g := fun k => impl_BestCommon.f k l0 l1) ?_
  · unfold impl_BestCommon.f
    repeat' first
    | with_reducible exact impl_AreVersions.f_is _
    | with_reducible exact impl_BestCommon.j0_is _ _ _
    | with_reducible exact Is.now _
    | with_reducible refine Is.ite ?_ ?_
    | with_reducible refine Is.bind ?_ (fun _ => ?_)
end Go.Proofs.Ytpoandlbmaljhaa.Print

/- Written by a program of this session (limx.py): the equations of what the printed functions come to. No condition. -/
namespace Go.Proofs.Ytpoandlbmaljhaa.Print
open Go.RowKit Go.Proofs.YtpoandlbmaljhaaW.PrintWords Go.Proofs.YtpoandlbmaljhaaW.PrintLast Go.Proofs.Ytpoandlbmaljhaa.Base
set_option linter.unusedVariables false
set_option maxRecDepth 20000
noncomputable def impl_without.l0v (x1 : List Int) (x5 : List Int) (x9 : List Int) (x10 : Int) (x11 : Int) : Option (List Int) := Lim fun k => impl_without.l0 k x1 x5 x9 x10 x11
noncomputable def impl_without.fv (l0 : List Int) (l1 : List Int) : Option (List Int) := Lim fun k => impl_without.f k l0 l1
theorem impl_without.l0_is (x1 : List Int) (x5 : List Int) (x9 : List Int) (x10 : Int) (x11 : Int) : Is (fun k => impl_without.l0 k x1 x5 x9 x10 x11) (impl_without.l0v x1 x5 x9 x10 x11) := ⟨fun k => (impl_without.mono_l k) x1 x5 x9 x10 x11, rfl⟩
theorem impl_without.f_is (l0 : List Int) (l1 : List Int) : Is (fun k => impl_without.f k l0 l1) (impl_without.fv l0 l1) := ⟨fun k => impl_without.mono l0 l1 k, rfl⟩
theorem impl_without.l0v_eq (x1 : List Int) (x5 : List Int) (x9 : List Int) (x10 : Int) (x11 : Int) : impl_without.l0v x1 x5 x9 x10 x11 = if x11 < x10 then (if 0 ≤ x11 then (if x11 < (x9.length : Int) then ((slices_Contains_int_int.fv x1 (rd x9 x11)).bind fun t390 => (if t390 = true then (impl_without.l0v x1 x5 x9 x10 (wrap64 (x11 + 1))) else (if x5.length < 17592186044416 then (impl_without.l0v x1 (x5 ++ [rd x9 x11]) x9 x10 (wrap64 (x11 + 1))) else (none)))) else (none)) else (none)) else (some x5) := by
  refine Is.step (impl_without.l0_is x1 x5 x9 x10 x11).mo (fun k => by rw [impl_without.l0]) ?_
  · skip
    repeat' first
    | with_reducible exact impl_without.l0_is _ _ _ _ _
    | with_reducible exact slices_Contains_int_int.f_is _ _
    | with_reducible exact Is.now _
    | with_reducible refine Is.ite ?_ ?_
    | with_reducible refine Is.bind ?_ (fun _ => ?_)
theorem impl_without.fv_eq (l0 : List Int) (l1 : List Int) : impl_without.fv l0 l1 = impl_without.l0v l1 (([] : List Int)) l0 (l0.length : Int) 0 := by
  refine Is.lim (g := fun k => impl_without.f k l0 l1) ?_
  · unfold impl_without.f
    repeat' first
    | with_reducible exact impl_without.l0_is _ _ _ _ _
    | with_reducible exact Is.now _
    | with_reducible refine Is.ite ?_ ?_
    | with_reducible refine Is.bind ?_ (fun _ => ?_)
noncomputable def slices_IndexFunc_impl_Ext_impl_Ext_with_impl_ExtOf_1.l0v (x0 : List (S69)) (x7 : Int) (x8 : Int) (x2000 : Int) : Option (Int) := Lim fun k => slices_IndexFunc_impl_Ext_impl_Ext_with_impl_ExtOf_1.l0 k x0 x7 x8 x2000
noncomputable def slices_IndexFunc_impl_Ext_impl_Ext_with_impl_ExtOf_1.fv (l0 : List (S69)) (a1_0 : Int) : Option (Int) := Lim fun k => slices_IndexFunc_impl_Ext_impl_Ext_with_impl_ExtOf_1.f k l0 a1_0
theorem slices_IndexFunc_impl_Ext_impl_Ext_with_impl_ExtOf_1.l0_is (x0 : List (S69)) (x7 : Int) (x8 : Int) (x2000 : Int) : Is (fun k => slices_IndexFunc_impl_Ext_impl_Ext_with_impl_ExtOf_1.l0 k x0 x7 x8 x2000) (slices_IndexFunc_impl_Ext_impl_Ext_with_impl_ExtOf_1.l0v x0 x7 x8 x2000) := ⟨fun k => (slices_IndexFunc_impl_Ext_impl_Ext_with_impl_ExtOf_1.mono_l k) x0 x7 x8 x2000, rfl⟩
theorem slices_IndexFunc_impl_Ext_impl_Ext_with_impl_ExtOf_1.f_is (l0 : List (S69)) (a1_0 : Int) : Is (fun k => slices_IndexFunc_impl_Ext_impl_Ext_with_impl_ExtOf_1.f k l0 a1_0) (slices_IndexFunc_impl_Ext_impl_Ext_with_impl_ExtOf_1.fv l0 a1_0) := ⟨fun k => slices_IndexFunc_impl_Ext_impl_Ext_with_impl_ExtOf_1.mono l0 a1_0 k, rfl⟩
theorem slices_IndexFunc_impl_Ext_impl_Ext_with_impl_ExtOf_1.l0v_eq (x0 : List (S69)) (x7 : Int) (x8 : Int) (x2000 : Int) : slices_IndexFunc_impl_Ext_impl_Ext_with_impl_ExtOf_1.l0v x0 x7 x8 x2000 = if x8 < x7 then (if 0 ≤ x8 then (if x8 < (x0.length : Int) then ((impl_ExtOf_1.f ((rd_T69 x0 x8).f0) ((rd_T69 x0 x8).f1) x2000).bind fun t396 => (if t396 = true then (some x8) else (slices_IndexFunc_impl_Ext_impl_Ext_with_impl_ExtOf_1.l0v x0 x7 (wrap64 (x8 + 1)) x2000))) else (none)) else (none)) else (some (-1)) := by
  refine Is.step (slices_IndexFunc_impl_Ext_impl_Ext_with_impl_ExtOf_1.l0_is x0 x7 x8 x2000).mo (fun k => by rw [slices_IndexFunc_impl_Ext_impl_Ext_with_impl_ExtOf_1.l0]) ?_
  · skip
    repeat' first
    | with_reducible exact slices_IndexFunc_impl_Ext_impl_Ext_with_impl_ExtOf_1.l0_is _ _ _ _
    | with_reducible exact Is.now _
    | with_reducible refine Is.ite ?_ ?_
    | with_reducible refine Is.bind ?_ (fun _ => ?_)
theorem slices_IndexFunc_impl_Ext_impl_Ext_with_impl_ExtOf_1.fv_eq (l0 : List (S69)) (a1_0 : Int) : slices_IndexFunc_impl_Ext_impl_Ext_with_impl_ExtOf_1.fv l0 a1_0 = slices_IndexFunc_impl_Ext_impl_Ext_with_impl_ExtOf_1.l0v l0 (l0.length : Int) 0 a1_0 := by
  refine Is.lim (g := fun k => slices_IndexFunc_impl_Ext_impl_Ext_with_impl_ExtOf_1.f k l0 a1_0) ?_
  · unfold slices_IndexFunc_impl_Ext_impl_Ext_with_impl_ExtOf_1.f
    repeat' first
    | with_reducible exact slices_IndexFunc_impl_Ext_impl_Ext_with_impl_ExtOf_1.l0_is _ _ _ _
    | with_reducible exact Is.now _
    | with_reducible refine Is.ite ?_ ?_
    | with_reducible refine Is.bind ?_ (fun _ => ?_)
noncomputable def impl_ExtOf.fv (l0 : List (S69)) (a1 : Int) : Option (Int) := Lim fun k => impl_ExtOf.f k l0 a1
theorem impl_ExtOf.f_is (l0 : List (S69)) (a1 : Int) : Is (fun k => impl_ExtOf.f k l0 a1) (impl_ExtOf.fv l0 a1) := ⟨fun k => impl_ExtOf.mono l0 a1 k, rfl⟩
theorem impl_ExtOf.fv_eq (l0 : List (S69)) (a1 : Int) : impl_ExtOf.fv l0 a1 = (slices_IndexFunc_impl_Ext_impl_Ext_with_impl_ExtOf_1.fv l0 a1).bind fun t398 => (some t398) := by
  refine Is.lim (g := fun k => impl_ExtOf.f k l0 a1) ?_
  · unfold impl_ExtOf.f
    repeat' first
    | with_reducible exact slices_IndexFunc_impl_Ext_impl_Ext_with_impl_ExtOf_1.f_is _ _
    | with_reducible exact Is.now _
    | with_reducible refine Is.ite ?_ ?_
    | with_reducible refine Is.bind ?_ (fun _ => ?_)
noncomputable def impl_AreExts.l0v (x0 : List (S69)) (x5 : List (S69)) (x6 : Int) (x7 : Int) : Option (Bool) := Lim fun k => impl_AreExts.l0 k x0 x5 x6 x7
noncomputable def impl_AreExts.fv (l0 : List (S69)) : Option (Bool) := Lim fun k => impl_AreExts.f k l0
theorem impl_AreExts.l0_is (x0 : List (S69)) (x5 : List (S69)) (x6 : Int) (x7 : Int) : Is (fun k => impl_AreExts.l0 k x0 x5 x6 x7) (impl_AreExts.l0v x0 x5 x6 x7) := ⟨fun k => (impl_AreExts.mono_l k) x0 x5 x6 x7, rfl⟩
theorem impl_AreExts.f_is (l0 : List (S69)) : Is (fun k => impl_AreExts.f k l0) (impl_AreExts.fv l0) := ⟨fun k => impl_AreExts.mono l0 k, rfl⟩
theorem impl_AreExts.l0v_eq (x0 : List (S69)) (x5 : List (S69)) (x6 : Int) (x7 : Int) : impl_AreExts.l0v x0 x5 x6 x7 = if x7 < x6 then (if 0 ≤ x7 then (if x7 < (x5.length : Int) then ((impl_InRange.f ((rd_T69 x5 x7).f0) 0 255).bind fun t401 => (if t401 = true then (if x7 ≤ (x0.length : Int) then ((impl_ExtOf.fv (x0.take (x7 : Int).toNat) ((rd_T69 x5 x7).f0)).bind fun t406 => (if t406 ≥ 0 then (some false) else (if (((rd_T69 x5 x7).f1).length : Int) > 4 then (some false) else ((impl_areNumbers.fv ((rd_T69 x5 x7).f1) 0 255).bind fun t407 => (if t407 = true then (impl_AreExts.l0v x0 x5 x6 (wrap64 (x7 + 1))) else (some false)))))) else (none)) else (some false))) else (none)) else (none)) else (some (decide ((x0.length : Int) ≤ 6))) := by
  refine Is.step (impl_AreExts.l0_is x0 x5 x6 x7).mo (fun k => by rw [impl_AreExts.l0]) ?_
  · skip
    repeat' first
    | with_reducible exact impl_AreExts.l0_is _ _ _ _
    | with_reducible exact impl_ExtOf.f_is _ _
    | with_reducible exact impl_areNumbers.f_is _ _ _
    | with_reducible exact Is.now _
    | with_reducible refine Is.ite ?_ ?_
    | with_reducible refine Is.bind ?_ (fun _ => ?_)
theorem impl_AreExts.fv_eq (l0 : List (S69)) : impl_AreExts.fv l0 = impl_AreExts.l0v l0 l0 (l0.length : Int) 0 := by
  refine Is.lim (g := fun k => impl_AreExts.f k l0) ?_
  · unfold impl_AreExts.f
    repeat' first
    | with_reducible exact impl_AreExts.l0_is _ _ _ _
    | with_reducible exact Is.now _
    | with_reducible refine Is.ite ?_ ?_
    | with_reducible refine Is.bind ?_ (fun _ => ?_)
end Go.Proofs.Ytpoandlbmaljhaa.Print

/- Written by a program of this session (limx.py): the equations of what the printed functions come to. No condition. -/
namespace Go.Proofs.Ytpoandlbmaljhaa.Print
open Go.RowKit Go.Proofs.YtpoandlbmaljhaaW.PrintWords Go.Proofs.YtpoandlbmaljhaaW.PrintLast Go.Proofs.Ytpoandlbmaljhaa.Base
set_option linter.unusedVariables false
set_option maxRecDepth 20000
noncomputable def impl_IsHello.fv (l0_0 : List Int) (l0_1 : List (S69)) : Option (Bool) := Lim fun k => impl_IsHello.f k l0_0 l0_1
theorem impl_IsHello.f_is (l0_0 : List Int) (l0_1 : List (S69)) : Is (fun k => impl_IsHello.f k l0_0 l0_1) (impl_IsHello.fv l0_0 l0_1) := ⟨fun k => impl_IsHello.mono l0_0 l0_1 k, rfl⟩
theorem impl_IsHello.fv_eq (l0_0 : List Int) (l0_1 : List (S69)) : impl_IsHello.fv l0_0 l0_1 = (impl_AreVersions.fv l0_0).bind fun t409 => (if t409 = true then ((impl_AreExts.fv l0_1).bind fun t410 => (some t410)) else (some false)) := by
  refine Is.lim (g := fun k => impl_IsHello.f k l0_0 l0_1) ?_
  · unfold impl_IsHello.f
    repeat' first
    | with_reducible exact impl_AreExts.f_is _
    | with_reducible exact impl_AreVersions.f_is _
    | with_reducible exact Is.now _
    | with_reducible refine Is.ite ?_ ?_
    | with_reducible refine Is.bind ?_ (fun _ => ?_)
noncomputable def impl_keptExts_with_impl_copyExts_1.l0v (x5 : List (S69)) (x9 : List (S69)) (x10 : Int) (x11 : Int) : Option ((List (S69))) := Lim fun k => impl_keptExts_with_impl_copyExts_1.l0 k x5 x9 x10 x11
noncomputable def impl_keptExts_with_impl_copyExts_1.fv (l0 : List (S69)) : Option ((List (S69))) := Lim fun k => impl_keptExts_with_impl_copyExts_1.f k l0
theorem impl_keptExts_with_impl_copyExts_1.l0_is (x5 : List (S69)) (x9 : List (S69)) (x10 : Int) (x11 : Int) : Is (fun k => impl_keptExts_with_impl_copyExts_1.l0 k x5 x9 x10 x11) (impl_keptExts_with_impl_copyExts_1.l0v x5 x9 x10 x11) := ⟨fun k => (impl_keptExts_with_impl_copyExts_1.mono_l k) x5 x9 x10 x11, rfl⟩
theorem impl_keptExts_with_impl_copyExts_1.f_is (l0 : List (S69)) : Is (fun k => impl_keptExts_with_impl_copyExts_1.f k l0) (impl_keptExts_with_impl_copyExts_1.fv l0) := ⟨fun k => impl_keptExts_with_impl_copyExts_1.mono l0 k, rfl⟩
theorem impl_keptExts_with_impl_copyExts_1.l0v_eq (x5 : List (S69)) (x9 : List (S69)) (x10 : Int) (x11 : Int) : impl_keptExts_with_impl_copyExts_1.l0v x5 x9 x10 x11 = if x11 < x10 then (if 0 ≤ x11 then (if x11 < (x9.length : Int) then ((impl_copyExts_1.f ((rd_T69 x9 x11).f0)).bind fun t416 => (if t416 = true then ((some (([] : List Int) : List Int)).bind fun y417 => (if y417.length + ((rd_T69 x9 x11).f1).length < 17592186044416 then (if x5.length < 4398046511104 then (impl_keptExts_with_impl_copyExts_1.l0v (x5 ++ [(⟨(rd_T69 x9 x11).f0, (y417 ++ ((rd_T69 x9 x11).f1))⟩ : S69)]) x9 x10 (wrap64 (x11 + 1))) else (none)) else (none))) else (impl_keptExts_with_impl_copyExts_1.l0v x5 x9 x10 (wrap64 (x11 + 1))))) else (none)) else (none)) else (some x5) := by
  refine Is.step (impl_keptExts_with_impl_copyExts_1.l0_is x5 x9 x10 x11).mo (fun k => by rw [impl_keptExts_with_impl_copyExts_1.l0]) ?_
  · skip
    repeat' first
    | with_reducible exact impl_keptExts_with_impl_copyExts_1.l0_is _ _ _ _
    | with_reducible exact Is.now _
    | with_reducible refine Is.ite ?_ ?_
    | with_reducible refine Is.bind ?_ (fun _ => ?_)
theorem impl_keptExts_with_impl_copyExts_1.fv_eq (l0 : List (S69)) : impl_keptExts_with_impl_copyExts_1.fv l0 = impl_keptExts_with_impl_copyExts_1.l0v (([] : List (S69))) l0 (l0.length : Int) 0 := by
  refine Is.lim (g := fun k => impl_keptExts_with_impl_copyExts_1.f k l0) ?_
  · unfold impl_keptExts_with_impl_copyExts_1.f
    repeat' first
    | with_reducible exact impl_keptExts_with_impl_copyExts_1.l0_is _ _ _ _
    | with_reducible exact Is.now _
    | with_reducible refine Is.ite ?_ ?_
    | with_reducible refine Is.bind ?_ (fun _ => ?_)
noncomputable def impl_copyExts.fv (l0 : List (S69)) : Option ((List (S69))) := Lim fun k => impl_copyExts.f k l0
theorem impl_copyExts.f_is (l0 : List (S69)) : Is (fun k => impl_copyExts.f k l0) (impl_copyExts.fv l0) := ⟨fun k => impl_copyExts.mono l0 k, rfl⟩
theorem impl_copyExts.fv_eq (l0 : List (S69)) : impl_copyExts.fv l0 = (impl_keptExts_with_impl_copyExts_1.fv l0).bind fun t426 => (some t426) := by
  refine Is.lim (g := fun k => impl_copyExts.f k l0) ?_
  · unfold impl_copyExts.f
    repeat' first
    | with_reducible exact impl_keptExts_with_impl_copyExts_1.f_is _
    | with_reducible exact Is.now _
    | with_reducible refine Is.ite ?_ ?_
    | with_reducible refine Is.bind ?_ (fun _ => ?_)
noncomputable def impl_copyHello.fv (l0_0 : List Int) (l0_1 : List (S69)) : Option (List Int × (List (S69))) := Lim fun k => impl_copyHello.f k l0_0 l0_1
theorem impl_copyHello.f_is (l0_0 : List Int) (l0_1 : List (S69)) : Is (fun k => impl_copyHello.f k l0_0 l0_1) (impl_copyHello.fv l0_0 l0_1) := ⟨fun k => impl_copyHello.mono l0_0 l0_1 k, rfl⟩
theorem impl_copyHello.fv_eq (l0_0 : List Int) (l0_1 : List (S69)) : impl_copyHello.fv l0_0 l0_1 = (some (([] : List Int) : List Int)).bind fun y431 => (if y431.length + l0_0.length < 17592186044416 then ((impl_copyExts.fv l0_1).bind fun t437 => (some ((y431 ++ l0_0), t437))) else (none)) := by
  refine Is.lim (g := fun k => impl_copyHello.f k l0_0 l0_1) ?_
  · unfold impl_copyHello.f
    repeat' first
    | with_reducible exact impl_copyExts.f_is _
    | with_reducible exact Is.now _
    | with_reducible refine Is.ite ?_ ?_
    | with_reducible refine Is.bind ?_ (fun _ => ?_)
noncomputable def slices_Max_int_int.l0v (x0 : List Int) (x3 : Int) (x4 : Int) : Option (Int) := Lim fun k => slices_Max_int_int.l0 k x0 x3 x4
noncomputable def slices_Max_int_int.fv (l0 : List Int) : Option (Int) := Lim fun k => slices_Max_int_int.f k l0
theorem slices_Max_int_int.l0_is (x0 : List Int) (x3 : Int) (x4 : Int) : Is (fun k => slices_Max_int_int.l0 k x0 x3 x4) (slices_Max_int_int.l0v x0 x3 x4) := ⟨fun k => (slices_Max_int_int.mono_l k) x0 x3 x4, rfl⟩
theorem slices_Max_int_int.f_is (l0 : List Int) : Is (fun k => slices_Max_int_int.f k l0) (slices_Max_int_int.fv l0) := ⟨fun k => slices_Max_int_int.mono l0 k, rfl⟩
theorem slices_Max_int_int.l0v_eq (x0 : List Int) (x3 : Int) (x4 : Int) : slices_Max_int_int.l0v x0 x3 x4 = if x4 < (x0.length : Int) then (if 0 ≤ x4 then (slices_Max_int_int.l0v x0 (mx x3 (rd x0 x4)) (wrap64 (x4 + 1))) else (none)) else (some x3) := by
  refine Is.step (slices_Max_int_int.l0_is x0 x3 x4).mo (fun k => by rw [slices_Max_int_int.l0]) ?_
  · skip
    repeat' first
    | with_reducible exact slices_Max_int_int.l0_is _ _ _
    | with_reducible exact Is.now _
    | with_reducible refine Is.ite ?_ ?_
    | with_reducible refine Is.bind ?_ (fun _ => ?_)
theorem slices_Max_int_int.fv_eq (l0 : List Int) : slices_Max_int_int.fv l0 = if (l0.length : Int) < 1 then (none) else (if 0 < (l0.length : Int) then (slices_Max_int_int.l0v l0 (rd l0 0) 1) else (none)) := by
  refine Is.lim (g := fun k => slices_Max_int_int.f k l0) ?_
  · unfold slices_Max_int_int.f
    repeat' first
    | with_reducible exact slices_Max_int_int.l0_is _ _ _
    | with_reducible exact Is.now _
    | with_reducible refine Is.ite ?_ ?_
    | with_reducible refine Is.bind ?_ (fun _ => ?_)
noncomputable def impl_loses_1.fv (a0_0 : Int) (l0_1 : List Int) (a1_0 : Int) (l1_1 : List Int) (l1_2 : List Int) (a1_3 : Bool) : Option (Bool) := Lim fun k => impl_loses_1.f k a0_0 l0_1 a1_0 l1_1 l1_2 a1_3
theorem impl_loses_1.f_is (a0_0 : Int) (l0_1 : List Int) (a1_0 : Int) (l1_1 : List Int) (l1_2 : List Int) (a1_3 : Bool) : Is (fun k => impl_loses_1.f k a0_0 l0_1 a1_0 l1_1 l1_2 a1_3) (impl_loses_1.fv a0_0 l0_1 a1_0 l1_1 l1_2 a1_3) := ⟨fun k => impl_loses_1.mono a0_0 l0_1 a1_0 l1_1 l1_2 a1_3 k, rfl⟩
theorem impl_loses_1.fv_eq (a0_0 : Int) (l0_1 : List Int) (a1_0 : Int) (l1_1 : List Int) (l1_2 : List Int) (a1_3 : Bool) : impl_loses_1.fv a0_0 l0_1 a1_0 l1_1 l1_2 a1_3 = (slices_Contains_int_int.fv l1_1 a0_0).bind fun t443 => (if t443 = true then (some true) else (if a1_3 = true then ((slices_Contains_int_int.fv l1_2 a0_0).bind fun t444 => (if t444 = true then (some false) else ((impl_InRange.f a0_0 1 3).bind fun t445 => (some (!t445))))) else (some false))) := by
  refine Is.lim (g := fun k => impl_loses_1.f k a0_0 l0_1 a1_0 l1_1 l1_2 a1_3) ?_
  · unfold impl_loses_1.f
    repeat' first
    | with_reducible exact slices_Contains_int_int.f_is _ _
    | with_reducible exact Is.now _
    | with_reducible refine Is.ite ?_ ?_
    | with_reducible refine Is.bind ?_ (fun _ => ?_)
end Go.Proofs.Ytpoandlbmaljhaa.Print

/- Written by a program of this session (limx.py): the equations of what the printed functions come to. No condition. -/
namespace Go.Proofs.Ytpoandlbmaljhaa.Print
open Go.RowKit Go.Proofs.YtpoandlbmaljhaaW.PrintWords Go.Proofs.YtpoandlbmaljhaaW.PrintLast Go.Proofs.Ytpoandlbmaljhaa.Base
set_option linter.unusedVariables false
set_option maxRecDepth 20000
noncomputable def slices_IndexFunc_impl_Ext_impl_Ext_with_impl_loses_1.l0v (x0 : List (S69)) (x7 : Int) (x8 : Int) (x2000 : Int) (x2001 : List Int) (x2002 : List Int) (x2003 : Bool) : Option (Int) := Lim fun k => slices_IndexFunc_impl_Ext_impl_Ext_with_impl_loses_1.l0 k x0 x7 x8 x2000 x2001 x2002 x2003
noncomputable def slices_IndexFunc_impl_Ext_impl_Ext_with_impl_loses_1.fv (l0 : List (S69)) (a1_0 : Int) (l1_1 : List Int) (l1_2 : List Int) (a1_3 : Bool) : Option (Int) := Lim fun k => slices_IndexFunc_impl_Ext_impl_Ext_with_impl_loses_1.f k l0 a1_0 l1_1 l1_2 a1_3
theorem slices_IndexFunc_impl_Ext_impl_Ext_with_impl_loses_1.l0_is (x0 : List (S69)) (x7 : Int) (x8 : Int) (x2000 : Int) (x2001 : List Int) (x2002 : List Int) (x2003 : Bool) : Is (fun k => slices_IndexFunc_impl_Ext_impl_Ext_with_impl_loses_1.l0 k x0 x7 x8 x2000 x2001 x2002 x2003) (slices_IndexFunc_impl_Ext_impl_Ext_with_impl_loses_1.l0v x0 x7 x8 x2000 x2001 x2002 x2003) := ⟨fun k => (slices_IndexFunc_impl_Ext_impl_Ext_with_impl_loses_1.mono_l k) x0 x7 x8 x2000 x2001 x2002 x2003, rfl⟩
theorem slices_IndexFunc_impl_Ext_impl_Ext_with_impl_loses_1.f_is (l0 : List (S69)) (a1_0 : Int) (l1_1 : List Int) (l1_2 : List Int) (a1_3 : Bool) : Is (fun k => slices_IndexFunc_impl_Ext_impl_Ext_with_impl_loses_1.f k l0 a1_0 l1_1 l1_2 a1_3) (slices_IndexFunc_impl_Ext_impl_Ext_with_impl_loses_1.fv l0 a1_0 l1_1 l1_2 a1_3) := ⟨fun k => slices_IndexFunc_impl_Ext_impl_Ext_with_impl_loses_1.mono l0 a1_0 l1_1 l1_2 a1_3 k, rfl⟩
theorem slices_IndexFunc_impl_Ext_impl_Ext_with_impl_loses_1.l0v_eq (x0 : List (S69)) (x7 : Int) (x8 : Int) (x2000 : Int) (x2001 : List Int) (x2002 : List Int) (x2003 : Bool) : slices_IndexFunc_impl_Ext_impl_Ext_with_impl_loses_1.l0v x0 x7 x8 x2000 x2001 x2002 x2003 = if x8 < x7 then (if 0 ≤ x8 then (if x8 < (x0.length : Int) then ((impl_loses_1.fv ((rd_T69 x0 x8).f0) ((rd_T69 x0 x8).f1) x2000 x2001 x2002 x2003).bind fun t447 => (if t447 = true then (some x8) else (slices_IndexFunc_impl_Ext_impl_Ext_with_impl_loses_1.l0v x0 x7 (wrap64 (x8 + 1)) x2000 x2001 x2002 x2003))) else (none)) else (none)) else (some (-1)) := by
  refine Is.step (slices_IndexFunc_impl_Ext_impl_Ext_with_impl_loses_1.l0_is x0 x7 x8 x2000 x2001 x2002 x2003).mo (fun k => by rw [slices_IndexFunc_impl_Ext_impl_Ext_with_impl_loses_1.l0]) ?_
  · skip
    repeat' first
    | with_reducible exact impl_loses_1.f_is _ _ _ _ _ _
    | with_reducible exact slices_IndexFunc_impl_Ext_impl_Ext_with_impl_loses_1.l0_is _ _ _ _ _ _ _
    | with_reducible exact Is.now _
    | with_reducible refine Is.ite ?_ ?_
    | with_reducible refine Is.bind ?_ (fun _ => ?_)
theorem slices_IndexFunc_impl_Ext_impl_Ext_with_impl_loses_1.fv_eq (l0 : List (S69)) (a1_0 : Int) (l1_1 : List Int) (l1_2 : List Int) (a1_3 : Bool) : slices_IndexFunc_impl_Ext_impl_Ext_with_impl_loses_1.fv l0 a1_0 l1_1 l1_2 a1_3 = slices_IndexFunc_impl_Ext_impl_Ext_with_impl_loses_1.l0v l0 (l0.length : Int) 0 a1_0 l1_1 l1_2 a1_3 := by
  refine Is.lim (g := fun k => slices_IndexFunc_impl_Ext_impl_Ext_with_impl_loses_1.f k l0 a1_0 l1_1 l1_2 a1_3) ?_
  · unfold slices_IndexFunc_impl_Ext_impl_Ext_with_impl_loses_1.f
    repeat' first
    | with_reducible exact slices_IndexFunc_impl_Ext_impl_Ext_with_impl_loses_1.l0_is _ _ _ _ _ _ _
    | with_reducible exact Is.now _
    | with_reducible refine Is.ite ?_ ?_
    | with_reducible refine Is.bind ?_ (fun _ => ?_)
noncomputable def slices_ContainsFunc_impl_Ext_impl_Ext_with_impl_loses_1.fv (l0 : List (S69)) (a1_0 : Int) (l1_1 : List Int) (l1_2 : List Int) (a1_3 : Bool) : Option (Bool) := Lim fun k => slices_ContainsFunc_impl_Ext_impl_Ext_with_impl_loses_1.f k l0 a1_0 l1_1 l1_2 a1_3
theorem slices_ContainsFunc_impl_Ext_impl_Ext_with_impl_loses_1.f_is (l0 : List (S69)) (a1_0 : Int) (l1_1 : List Int) (l1_2 : List Int) (a1_3 : Bool) : Is (fun k => slices_ContainsFunc_impl_Ext_impl_Ext_with_impl_loses_1.f k l0 a1_0 l1_1 l1_2 a1_3) (slices_ContainsFunc_impl_Ext_impl_Ext_with_impl_loses_1.fv l0 a1_0 l1_1 l1_2 a1_3) := ⟨fun k => slices_ContainsFunc_impl_Ext_impl_Ext_with_impl_loses_1.mono l0 a1_0 l1_1 l1_2 a1_3 k, rfl⟩
theorem slices_ContainsFunc_impl_Ext_impl_Ext_with_impl_loses_1.fv_eq (l0 : List (S69)) (a1_0 : Int) (l1_1 : List Int) (l1_2 : List Int) (a1_3 : Bool) : slices_ContainsFunc_impl_Ext_impl_Ext_with_impl_loses_1.fv l0 a1_0 l1_1 l1_2 a1_3 = (slices_IndexFunc_impl_Ext_impl_Ext_with_impl_loses_1.fv l0 a1_0 l1_1 l1_2 a1_3).bind fun t448 => (some (decide (t448 ≥ 0))) := by
  refine Is.lim (g := fun k => slices_ContainsFunc_impl_Ext_impl_Ext_with_impl_loses_1.f k l0 a1_0 l1_1 l1_2 a1_3) ?_
  · unfold slices_ContainsFunc_impl_Ext_impl_Ext_with_impl_loses_1.f
    repeat' first
    | with_reducible exact slices_IndexFunc_impl_Ext_impl_Ext_with_impl_loses_1.f_is _ _ _ _ _
    | with_reducible exact Is.now _
    | with_reducible refine Is.ite ?_ ?_
    | with_reducible refine Is.bind ?_ (fun _ => ?_)
noncomputable def impl_loses.fv (a0_0 : Int) (l0_1 : List Int) (l0_2 : List Int) (a0_3 : Bool) (l1_0 : List Int) (l1_1 : List (S69)) : Option (Bool) := Lim fun k => impl_loses.f k a0_0 l0_1 l0_2 a0_3 l1_0 l1_1
theorem impl_loses.f_is (a0_0 : Int) (l0_1 : List Int) (l0_2 : List Int) (a0_3 : Bool) (l1_0 : List Int) (l1_1 : List (S69)) : Is (fun k => impl_loses.f k a0_0 l0_1 l0_2 a0_3 l1_0 l1_1) (impl_loses.fv a0_0 l0_1 l0_2 a0_3 l1_0 l1_1) := ⟨fun k => impl_loses.mono a0_0 l0_1 l0_2 a0_3 l1_0 l1_1 k, rfl⟩
theorem impl_loses.fv_eq (a0_0 : Int) (l0_1 : List Int) (l0_2 : List Int) (a0_3 : Bool) (l1_0 : List Int) (l1_1 : List (S69)) : impl_loses.fv a0_0 l0_1 l0_2 a0_3 l1_0 l1_1 = if a0_0 = 0 then ((slices_ContainsFunc_impl_Ext_impl_Ext_with_impl_loses_1.fv l1_1 a0_0 l0_1 l0_2 a0_3).bind fun t451 => (some t451)) else ((slices_Max_int_int.fv l1_0).bind fun t452 => (if t452 > a0_0 then (some true) else ((slices_ContainsFunc_impl_Ext_impl_Ext_with_impl_loses_1.fv l1_1 a0_0 l0_1 l0_2 a0_3).bind fun t453 => (some t453)))) := by
  refine Is.lim (g := fun k => impl_loses.f k a0_0 l0_1 l0_2 a0_3 l1_0 l1_1) ?_
  · unfold impl_loses.f
    repeat' first
    | with_reducible exact slices_ContainsFunc_impl_Ext_impl_Ext_with_impl_loses_1.f_is _ _ _ _ _
    | with_reducible exact slices_Max_int_int.f_is _
    | with_reducible exact Is.now _
    | with_reducible refine Is.ite ?_ ?_
    | with_reducible refine Is.bind ?_ (fun _ => ?_)
noncomputable def impl_PassBox_1.fv (a0 : Int) (a1_0 : Int) (l1_1 : List Int) (l1_2 : List Int) (a1_3 : Bool) : Option (Bool) := Lim fun k => impl_PassBox_1.f k a0 a1_0 l1_1 l1_2 a1_3
theorem impl_PassBox_1.f_is (a0 : Int) (a1_0 : Int) (l1_1 : List Int) (l1_2 : List Int) (a1_3 : Bool) : Is (fun k => impl_PassBox_1.f k a0 a1_0 l1_1 l1_2 a1_3) (impl_PassBox_1.fv a0 a1_0 l1_1 l1_2 a1_3) := ⟨fun k => impl_PassBox_1.mono a0 a1_0 l1_1 l1_2 a1_3 k, rfl⟩
theorem impl_PassBox_1.fv_eq (a0 : Int) (a1_0 : Int) (l1_1 : List Int) (l1_2 : List Int) (a1_3 : Bool) : impl_PassBox_1.fv a0 a1_0 l1_1 l1_2 a1_3 = (slices_Contains_int_int.fv l1_2 a0).bind fun t460 => (some (!t460)) := by
  refine Is.lim (g := fun k => impl_PassBox_1.f k a0 a1_0 l1_1 l1_2 a1_3) ?_
  · unfold impl_PassBox_1.f
    repeat' first
    | with_reducible exact slices_Contains_int_int.f_is _ _
    | with_reducible exact Is.now _
    | with_reducible refine Is.ite ?_ ?_
    | with_reducible refine Is.bind ?_ (fun _ => ?_)
noncomputable def impl_keptExts_with_impl_PassBox_1.l0v (x5 : List (S69)) (x9 : List (S69)) (x10 : Int) (x11 : Int) (x2000 : Int) (x2001 : List Int) (x2002 : List Int) (x2003 : Bool) : Option ((List (S69))) := Lim fun k => impl_keptExts_with_impl_PassBox_1.l0 k x5 x9 x10 x11 x2000 x2001 x2002 x2003
noncomputable def impl_keptExts_with_impl_PassBox_1.fv (l0 : List (S69)) (a1_0 : Int) (l1_1 : List Int) (l1_2 : List Int) (a1_3 : Bool) : Option ((List (S69))) := Lim fun k => impl_keptExts_with_impl_PassBox_1.f k l0 a1_0 l1_1 l1_2 a1_3
theorem impl_keptExts_with_impl_PassBox_1.l0_is (x5 : List (S69)) (x9 : List (S69)) (x10 : Int) (x11 : Int) (x2000 : Int) (x2001 : List Int) (x2002 : List Int) (x2003 : Bool) : Is (fun k => impl_keptExts_with_impl_PassBox_1.l0 k x5 x9 x10 x11 x2000 x2001 x2002 x2003) (impl_keptExts_with_impl_PassBox_1.l0v x5 x9 x10 x11 x2000 x2001 x2002 x2003) := ⟨fun k => (impl_keptExts_with_impl_PassBox_1.mono_l k) x5 x9 x10 x11 x2000 x2001 x2002 x2003, rfl⟩
theorem impl_keptExts_with_impl_PassBox_1.f_is (l0 : List (S69)) (a1_0 : Int) (l1_1 : List Int) (l1_2 : List Int) (a1_3 : Bool) : Is (fun k => impl_keptExts_with_impl_PassBox_1.f k l0 a1_0 l1_1 l1_2 a1_3) (impl_keptExts_with_impl_PassBox_1.fv l0 a1_0 l1_1 l1_2 a1_3) := ⟨fun k => impl_keptExts_with_impl_PassBox_1.mono l0 a1_0 l1_1 l1_2 a1_3 k, rfl⟩
theorem impl_keptExts_with_impl_PassBox_1.l0v_eq (x5 : List (S69)) (x9 : List (S69)) (x10 : Int) (x11 : Int) (x2000 : Int) (x2001 : List Int) (x2002 : List Int) (x2003 : Bool) : impl_keptExts_with_impl_PassBox_1.l0v x5 x9 x10 x11 x2000 x2001 x2002 x2003 = if x11 < x10 then (if 0 ≤ x11 then (if x11 < (x9.length : Int) then ((impl_PassBox_1.fv ((rd_T69 x9 x11).f0) x2000 x2001 x2002 x2003).bind fun t466 => (if t466 = true then ((some (([] : List Int) : List Int)).bind fun y467 => (if y467.length + ((rd_T69 x9 x11).f1).length < 17592186044416 then (if x5.length < 4398046511104 then (impl_keptExts_with_impl_PassBox_1.l0v (x5 ++ [(⟨(rd_T69 x9 x11).f0, (y467 ++ ((rd_T69 x9 x11).f1))⟩ : S69)]) x9 x10 (wrap64 (x11 + 1)) x2000 x2001 x2002 x2003) else (none)) else (none))) else (impl_keptExts_with_impl_PassBox_1.l0v x5 x9 x10 (wrap64 (x11 + 1)) x2000 x2001 x2002 x2003))) else (none)) else (none)) else (some x5) := by
  refine Is.step (impl_keptExts_with_impl_PassBox_1.l0_is x5 x9 x10 x11 x2000 x2001 x2002 x2003).mo (fun k => by rw [impl_keptExts_with_impl_PassBox_1.l0]) ?_
  · skip
    repeat' first
    | with_reducible exact impl_PassBox_1.f_is _ _ _ _ _
    | with_reducible exact impl_keptExts_with_impl_PassBox_1.l0_is _ _ _ _ _ _ _ _
    | with_reducible exact Is.now _
    | with_reducible refine Is.ite ?_ ?_
    | with_reducible refine Is.bind ?_ (fun _ => ?_)
theorem impl_keptExts_with_impl_PassBox_1.fv_eq (l0 : List (S69)) (a1_0 : Int) (l1_1 : List Int) (l1_2 : List Int) (a1_3 : Bool) : impl_keptExts_with_impl_PassBox_1.fv l0 a1_0 l1_1 l1_2 a1_3 = impl_keptExts_with_impl_PassBox_1.l0v (([] : List (S69))) l0 (l0.length : Int) 0 a1_0 l1_1 l1_2 a1_3 := by
  refine Is.lim (g := fun k => impl_keptExts_with_impl_PassBox_1.f k l0 a1_0 l1_1 l1_2 a1_3) ?_
  · unfold impl_keptExts_with_impl_PassBox_1.f
    repeat' first
    | with_reducible exact impl_keptExts_with_impl_PassBox_1.l0_is _ _ _ _ _ _ _ _
    | with_reducible exact Is.now _
    | with_reducible refine Is.ite ?_ ?_
    | with_reducible refine Is.bind ?_ (fun _ => ?_)
end Go.Proofs.Ytpoandlbmaljhaa.Print

/- Written by a program of this session (limx.py): the equations of what the printed functions come to. No condition. -/
namespace Go.Proofs.Ytpoandlbmaljhaa.Print
open Go.RowKit Go.Proofs.YtpoandlbmaljhaaW.PrintWords Go.Proofs.YtpoandlbmaljhaaW.PrintLast Go.Proofs.Ytpoandlbmaljhaa.Base
set_option linter.unusedVariables false
set_option maxRecDepth 20000
noncomputable def impl_PassBox.j0v (x18 : Bool) (x477000 : Int) (x477001 : List Int) (x477002 : List Int) (x477003 : Bool) (x478000 : List Int) (x478001 : List (S69)) : Option (List Int × (List (S69)) × Bool) := Lim fun k => impl_PassBox.j0 k x18 x477000 x477001 x477002 x477003 x478000 x478001
noncomputable def impl_PassBox.fv (a0_0 : Int) (l0_1 : List Int) (l0_2 : List Int) (a0_3 : Bool) (l1_0 : List Int) (l1_1 : List (S69)) : Option (List Int × (List (S69)) × Bool) := Lim fun k => impl_PassBox.f k a0_0 l0_1 l0_2 a0_3 l1_0 l1_1
theorem impl_PassBox.j0_is (x18 : Bool) (x477000 : Int) (x477001 : List Int) (x477002 : List Int) (x477003 : Bool) (x478000 : List Int) (x478001 : List (S69)) : Is (fun k => impl_PassBox.j0 k x18 x477000 x477001 x477002 x477003 x478000 x478001) (impl_PassBox.j0v x18 x477000 x477001 x477002 x477003 x478000 x478001) := ⟨fun k => (impl_PassBox.mono_l k) x18 x477000 x477001 x477002 x477003 x478000 x478001, rfl⟩
theorem impl_PassBox.f_is (a0_0 : Int) (l0_1 : List Int) (l0_2 : List Int) (a0_3 : Bool) (l1_0 : List Int) (l1_1 : List (S69)) : Is (fun k => impl_PassBox.f k a0_0 l0_1 l0_2 a0_3 l1_0 l1_1) (impl_PassBox.fv a0_0 l0_1 l0_2 a0_3 l1_0 l1_1) := ⟨fun k => impl_PassBox.mono a0_0 l0_1 l0_2 a0_3 l1_0 l1_1 k, rfl⟩
theorem impl_PassBox.j0v_eq (x18 : Bool) (x477000 : Int) (x477001 : List Int) (x477002 : List Int) (x477003 : Bool) (x478000 : List Int) (x478001 : List (S69)) : impl_PassBox.j0v x18 x477000 x477001 x477002 x477003 x478000 x478001 = if x18 = true then (some (([] : List Int), ([] : List (S69)), false)) else ((slices_Clone_int_int.f x478000).bind fun t482 => ((impl_keptExts_with_impl_PassBox_1.fv x478001 x477000 x477001 x477002 x477003).bind fun t485 => (some (t482, t485, true)))) := by
  refine Is.step (impl_PassBox.j0_is x18 x477000 x477001 x477002 x477003 x478000 x478001).mo (fun k => by rw [impl_PassBox.j0]) ?_
  · skip
    repeat' first
    | with_reducible exact impl_keptExts_with_impl_PassBox_1.f_is _ _ _ _ _
    | with_reducible exact Is.now _
    | with_reducible refine Is.ite ?_ ?_
    | with_reducible refine Is.bind ?_ (fun _ => ?_)
theorem impl_PassBox.fv_eq (a0_0 : Int) (l0_1 : List Int) (l0_2 : List Int) (a0_3 : Bool) (l1_0 : List Int) (l1_1 : List (S69)) : impl_PassBox.fv a0_0 l0_1 l0_2 a0_3 l1_0 l1_1 = (impl_IsBox.fv a0_0 l0_1 l0_2 a0_3).bind fun t479 => (if t479 = true then ((impl_IsHello.fv l1_0 l1_1).bind fun t480 => (if t480 = true then ((impl_loses.fv a0_0 l0_1 l0_2 a0_3 l1_0 l1_1).bind fun t481 => (impl_PassBox.j0v t481 a0_0 l0_1 l0_2 a0_3 l1_0 l1_1)) else (impl_PassBox.j0v true a0_0 l0_1 l0_2 a0_3 l1_0 l1_1))) else (impl_PassBox.j0v true a0_0 l0_1 l0_2 a0_3 l1_0 l1_1)) := by
  refine Is.lim (g := fun k => impl_PassBox.f k a0_0 l0_1 l0_2 a0_3 l1_0 l1_1) ?_
  · unfold impl_PassBox.f
    repeat' first
    | with_reducible exact impl_IsBox.f_is _ _ _ _
    | with_reducible exact impl_IsHello.f_is _ _
    | with_reducible exact impl_PassBox.j0_is _ _ _ _ _ _ _
    | with_reducible exact impl_loses.f_is _ _ _ _ _ _
    | with_reducible exact Is.now _
    | with_reducible refine Is.ite ?_ ?_
    | with_reducible refine Is.bind ?_ (fun _ => ?_)
noncomputable def impl_PassPath.j0v (x0 : List (S50)) (x16 : Bool) (x489000 : List Int) (x489001 : List (S69)) : Option (List Int × (List (S69)) × Bool) := Lim fun k => impl_PassPath.j0 k x0 x16 x489000 x489001
noncomputable def impl_PassPath.l0v (x0 : List (S50)) (x7 : Bool) (x8 : Int) (x498000 : List Int) (x498001 : List (S69)) : Option (List Int × (List (S69)) × Bool) := Lim fun k => impl_PassPath.l0 k x0 x7 x8 x498000 x498001
noncomputable def impl_PassPath.fv (l0 : List (S50)) (l1_0 : List Int) (l1_1 : List (S69)) : Option (List Int × (List (S69)) × Bool) := Lim fun k => impl_PassPath.f k l0 l1_0 l1_1
theorem impl_PassPath.j0_is (x0 : List (S50)) (x16 : Bool) (x489000 : List Int) (x489001 : List (S69)) : Is (fun k => impl_PassPath.j0 k x0 x16 x489000 x489001) (impl_PassPath.j0v x0 x16 x489000 x489001) := ⟨fun k => (impl_PassPath.mono_l k).1 x0 x16 x489000 x489001, rfl⟩
theorem impl_PassPath.l0_is (x0 : List (S50)) (x7 : Bool) (x8 : Int) (x498000 : List Int) (x498001 : List (S69)) : Is (fun k => impl_PassPath.l0 k x0 x7 x8 x498000 x498001) (impl_PassPath.l0v x0 x7 x8 x498000 x498001) := ⟨fun k => (impl_PassPath.mono_l k).2 x0 x7 x8 x498000 x498001, rfl⟩
theorem impl_PassPath.f_is (l0 : List (S50)) (l1_0 : List Int) (l1_1 : List (S69)) : Is (fun k => impl_PassPath.f k l0 l1_0 l1_1) (impl_PassPath.fv l0 l1_0 l1_1) := ⟨fun k => impl_PassPath.mono l0 l1_0 l1_1 k, rfl⟩
theorem impl_PassPath.j0v_eq (x0 : List (S50)) (x16 : Bool) (x489000 : List Int) (x489001 : List (S69)) : impl_PassPath.j0v x0 x16 x489000 x489001 = if x16 = true then (some (([] : List Int), ([] : List (S69)), false)) else ((impl_copyHello.fv x489000 x489001).bind fun bt491 => (impl_PassPath.l0v x0 true 0 bt491.1 bt491.2)) := by
  refine Is.step (impl_PassPath.j0_is x0 x16 x489000 x489001).mo (fun k => by rw [impl_PassPath.j0]) ?_
  · skip
    repeat' first
    | with_reducible exact impl_PassPath.l0_is _ _ _ _ _
    | with_reducible exact impl_copyHello.f_is _ _
    | with_reducible exact Is.now _
    | with_reducible refine Is.ite ?_ ?_
    | with_reducible refine Is.bind ?_ (fun _ => ?_)
theorem impl_PassPath.l0v_eq (x0 : List (S50)) (x7 : Bool) (x8 : Int) (x498000 : List Int) (x498001 : List (S69)) : impl_PassPath.l0v x0 x7 x8 x498000 x498001 = if x8 < (x0.length : Int) then (if x7 = true then (if 0 ≤ x8 then ((impl_PassBox.fv ((rd_T50 x0 x8).f0) ((rd_T50 x0 x8).f1) ((rd_T50 x0 x8).f2) ((rd_T50 x0 x8).f3) x498000 x498001).bind fun bt499 => (impl_PassPath.l0v x0 bt499.2.2 (wrap64 (x8 + 1)) bt499.1 bt499.2.1)) else (none)) else (some (x498000, x498001, x7))) else (some (x498000, x498001, x7)) := by
  refine Is.step (impl_PassPath.l0_is x0 x7 x8 x498000 x498001).mo (fun k => by rw [impl_PassPath.l0]) ?_
  · skip
    repeat' first
    | with_reducible exact impl_PassBox.f_is _ _ _ _ _ _
    | with_reducible exact impl_PassPath.l0_is _ _ _ _ _
    | with_reducible exact Is.now _
    | with_reducible refine Is.ite ?_ ?_
    | with_reducible refine Is.bind ?_ (fun _ => ?_)
theorem impl_PassPath.fv_eq (l0 : List (S50)) (l1_0 : List Int) (l1_1 : List (S69)) : impl_PassPath.fv l0 l1_0 l1_1 = (impl_IsHello.fv l1_0 l1_1).bind fun t490 => (if t490 = true then (impl_PassPath.j0v l0 (decide ((l0.length : Int) > 4)) l1_0 l1_1) else (impl_PassPath.j0v l0 true l1_0 l1_1)) := by
  refine Is.lim (g := fun k => impl_PassPath.f k l0 l1_0 l1_1) ?_
  · unfold impl_PassPath.f
    repeat' first
    | with_reducible exact impl_IsHello.f_is _ _
    | with_reducible exact impl_PassPath.j0_is _ _ _ _
    | with_reducible exact Is.now _
    | with_reducible refine Is.ite ?_ ?_
    | with_reducible refine Is.bind ?_ (fun _ => ?_)
end Go.Proofs.Ytpoandlbmaljhaa.Print

/- Written by a program of this session (limx.py): the equations of what the printed functions come to. No condition. -/
namespace Go.Proofs.Ytpoandlbmaljhaa.Print
open Go.RowKit Go.Proofs.YtpoandlbmaljhaaW.PrintWords Go.Proofs.YtpoandlbmaljhaaW.PrintLast Go.Proofs.Ytpoandlbmaljhaa.Base
set_option linter.unusedVariables false
set_option maxRecDepth 20000
noncomputable def impl_LostVersions.l0v (x0 : List (S50)) (x5 : List Int) (x15 : List Int) (x16 : Int) (x17 : Int) : Option (List Int) := Lim fun k => impl_LostVersions.l0 k x0 x5 x15 x16 x17
noncomputable def impl_LostVersions.fv (l0 : List (S50)) (l1 : List Int) : Option (List Int) := Lim fun k => impl_LostVersions.f k l0 l1
theorem impl_LostVersions.l0_is (x0 : List (S50)) (x5 : List Int) (x15 : List Int) (x16 : Int) (x17 : Int) : Is (fun k => impl_LostVersions.l0 k x0 x5 x15 x16 x17) (impl_LostVersions.l0v x0 x5 x15 x16 x17) := ⟨fun k => (impl_LostVersions.mono_l k) x0 x5 x15 x16 x17, rfl⟩
theorem impl_LostVersions.f_is (l0 : List (S50)) (l1 : List Int) : Is (fun k => impl_LostVersions.f k l0 l1) (impl_LostVersions.fv l0 l1) := ⟨fun k => impl_LostVersions.mono l0 l1 k, rfl⟩
theorem impl_LostVersions.l0v_eq (x0 : List (S50)) (x5 : List Int) (x15 : List Int) (x16 : Int) (x17 : Int) : impl_LostVersions.l0v x0 x5 x15 x16 x17 = if x17 < x16 then (if 0 ≤ x17 then (if x17 < (x15.length : Int) then ((impl_PlainHello.f (([rd x15 x17] : List Int))).bind fun bt521 => ((impl_PassPath.fv x0 bt521.1 bt521.2).bind fun bt527 => (if bt527.2.2 = true then (impl_LostVersions.l0v x0 x5 x15 x16 (wrap64 (x17 + 1))) else (if x5.length < 17592186044416 then (impl_LostVersions.l0v x0 (x5 ++ [rd x15 x17]) x15 x16 (wrap64 (x17 + 1))) else (none))))) else (none)) else (none)) else (some x5) := by
  refine Is.step (impl_LostVersions.l0_is x0 x5 x15 x16 x17).mo (fun k => by rw [impl_LostVersions.l0]) ?_
  · skip
    repeat' first
    | with_reducible exact impl_LostVersions.l0_is _ _ _ _ _
    | with_reducible exact impl_PassPath.f_is _ _ _
    | with_reducible exact Is.now _
    | with_reducible refine Is.ite ?_ ?_
    | with_reducible refine Is.bind ?_ (fun _ => ?_)
theorem impl_LostVersions.fv_eq (l0 : List (S50)) (l1 : List Int) : impl_LostVersions.fv l0 l1 = (some (([] : List Int) : List Int)).bind fun y513 => ((impl_AreVersions.fv l1).bind fun t516 => (if t516 = true then (impl_LostVersions.l0v l0 y513 l1 (l1.length : Int) 0) else (some y513))) := by
  refine Is.lim (g := fun k => impl_LostVersions.f k l0 l1) ?_
  · unfold impl_LostVersions.f
    repeat' first
    | with_reducible exact impl_AreVersions.f_is _
    | with_reducible exact impl_LostVersions.l0_is _ _ _ _ _
    | with_reducible exact Is.now _
    | with_reducible refine Is.ite ?_ ?_
    | with_reducible refine Is.bind ?_ (fun _ => ?_)
noncomputable def impl_BestFor.fv (l0_0 : List Int) (l0_1 : List Int) (l0_2 : List (S50)) (a0_3 : Int) (l1 : List Int) : Option (Int) := Lim fun k => impl_BestFor.f k l0_0 l0_1 l0_2 a0_3 l1
theorem impl_BestFor.f_is (l0_0 : List Int) (l0_1 : List Int) (l0_2 : List (S50)) (a0_3 : Int) (l1 : List Int) : Is (fun k => impl_BestFor.f k l0_0 l0_1 l0_2 a0_3 l1) (impl_BestFor.fv l0_0 l0_1 l0_2 a0_3 l1) := ⟨fun k => impl_BestFor.mono l0_0 l0_1 l0_2 a0_3 l1 k, rfl⟩
theorem impl_BestFor.fv_eq (l0_0 : List Int) (l0_1 : List Int) (l0_2 : List (S50)) (a0_3 : Int) (l1 : List Int) : impl_BestFor.fv l0_0 l0_1 l0_2 a0_3 l1 = (impl_IsEndpoint.fv l0_0 l0_1 l0_2 a0_3).bind fun t539 => (if t539 = true then ((impl_LostVersions.fv l0_2 l0_0).bind fun t540 => ((impl_without.fv l0_0 t540).bind fun t543 => ((impl_BestCommon.fv l1 t543).bind fun t546 => (some t546)))) else (some 0)) := by
  refine Is.lim (g := fun k => impl_BestFor.f k l0_0 l0_1 l0_2 a0_3 l1) ?_
  · unfold impl_BestFor.f
    repeat' first
    | with_reducible exact impl_BestCommon.f_is _ _
    | with_reducible exact impl_IsEndpoint.f_is _ _ _ _
    | with_reducible exact impl_LostVersions.f_is _ _
    | with_reducible exact impl_without.f_is _ _
    | with_reducible exact Is.now _
    | with_reducible refine Is.ite ?_ ?_
    | with_reducible refine Is.bind ?_ (fun _ => ?_)
noncomputable def laws_eqBox.fv (a0_0 : Int) (l0_1 : List Int) (l0_2 : List Int) (a0_3 : Bool) (a1_0 : Int) (l1_1 : List Int) (l1_2 : List Int) (a1_3 : Bool) : Option (Bool) := Lim fun k => laws_eqBox.f k a0_0 l0_1 l0_2 a0_3 a1_0 l1_1 l1_2 a1_3
theorem laws_eqBox.f_is (a0_0 : Int) (l0_1 : List Int) (l0_2 : List Int) (a0_3 : Bool) (a1_0 : Int) (l1_1 : List Int) (l1_2 : List Int) (a1_3 : Bool) : Is (fun k => laws_eqBox.f k a0_0 l0_1 l0_2 a0_3 a1_0 l1_1 l1_2 a1_3) (laws_eqBox.fv a0_0 l0_1 l0_2 a0_3 a1_0 l1_1 l1_2 a1_3) := ⟨fun k => laws_eqBox.mono a0_0 l0_1 l0_2 a0_3 a1_0 l1_1 l1_2 a1_3 k, rfl⟩
theorem laws_eqBox.fv_eq (a0_0 : Int) (l0_1 : List Int) (l0_2 : List Int) (a0_3 : Bool) (a1_0 : Int) (l1_1 : List Int) (l1_2 : List Int) (a1_3 : Bool) : laws_eqBox.fv a0_0 l0_1 l0_2 a0_3 a1_0 l1_1 l1_2 a1_3 = if a0_0 = a1_0 then ((laws_eqIntS.fv l0_1 l1_1).bind fun t549 => (if t549 = true then ((laws_eqIntS.fv l0_2 l1_2).bind fun t550 => (if t550 = true then (if a0_3 = true then (if a1_3 = true then (some true) else (some false)) else (if a1_3 = true then (some false) else (some true))) else (some false))) else (some false))) else (some false) := by
  refine Is.lim (g := fun k => laws_eqBox.f k a0_0 l0_1 l0_2 a0_3 a1_0 l1_1 l1_2 a1_3) ?_
  · unfold laws_eqBox.f
    repeat' first
    | with_reducible exact laws_eqIntS.f_is _ _
    | with_reducible exact Is.now _
    | with_reducible refine Is.ite ?_ ?_
    | with_reducible refine Is.bind ?_ (fun _ => ?_)
noncomputable def laws_eqBoxS.l0v (x0 : List (S50)) (x1 : List (S50)) (x5 : Int) : Option (Bool) := Lim fun k => laws_eqBoxS.l0 k x0 x1 x5
noncomputable def laws_eqBoxS.fv (l0 : List (S50)) (l1 : List (S50)) : Option (Bool) := Lim fun k => laws_eqBoxS.f k l0 l1
theorem laws_eqBoxS.l0_is (x0 : List (S50)) (x1 : List (S50)) (x5 : Int) : Is (fun k => laws_eqBoxS.l0 k x0 x1 x5) (laws_eqBoxS.l0v x0 x1 x5) := ⟨fun k => (laws_eqBoxS.mono_l k) x0 x1 x5, rfl⟩
theorem laws_eqBoxS.f_is (l0 : List (S50)) (l1 : List (S50)) : Is (fun k => laws_eqBoxS.f k l0 l1) (laws_eqBoxS.fv l0 l1) := ⟨fun k => laws_eqBoxS.mono l0 l1 k, rfl⟩
theorem laws_eqBoxS.l0v_eq (x0 : List (S50)) (x1 : List (S50)) (x5 : Int) : laws_eqBoxS.l0v x0 x1 x5 = if x5 < (x0.length : Int) then (if 0 ≤ x5 then (if x5 < (x1.length : Int) then ((laws_eqBox.fv ((rd_T50 x0 x5).f0) ((rd_T50 x0 x5).f1) ((rd_T50 x0 x5).f2) ((rd_T50 x0 x5).f3) ((rd_T50 x1 x5).f0) ((rd_T50 x1 x5).f1) ((rd_T50 x1 x5).f2) ((rd_T50 x1 x5).f3)).bind fun t553 => (if t553 = true then (laws_eqBoxS.l0v x0 x1 (wrap64 (x5 + 1))) else (some false))) else (none)) else (none)) else (some true) := by
  refine Is.step (laws_eqBoxS.l0_is x0 x1 x5).mo (fun k => by rw [laws_eqBoxS.l0]) ?_
  · skip
    repeat' first
    | with_reducible exact laws_eqBox.f_is _ _ _ _ _ _ _ _
    | with_reducible exact laws_eqBoxS.l0_is _ _ _
    | with_reducible exact Is.now _
    | with_reducible refine Is.ite ?_ ?_
    | with_reducible refine Is.bind ?_ (fun _ => ?_)
theorem laws_eqBoxS.fv_eq (l0 : List (S50)) (l1 : List (S50)) : laws_eqBoxS.fv l0 l1 = if (l0.length : Int) = (l1.length : Int) then (laws_eqBoxS.l0v l0 l1 0) else (some false) := by
  refine Is.lim (g := fun k => laws_eqBoxS.f k l0 l1) ?_
  · unfold laws_eqBoxS.f
    repeat' first
    | with_reducible exact laws_eqBoxS.l0_is _ _ _
    | with_reducible exact Is.now _
    | with_reducible refine Is.ite ?_ ?_
    | with_reducible refine Is.bind ?_ (fun _ => ?_)
end Go.Proofs.Ytpoandlbmaljhaa.Print

/- Boxes: their sizes, copies and equality, as the law's helpers tell them. Condition: at most 10 to the 12 of each. -/
set_option linter.unusedSimpArgs false
set_option linter.unusedVariables false
namespace Go.Proofs.Ytpoandlbmaljhaa.Plain
open Go.RowKit Go.Proofs.YtpoandlbmaljhaaW.PrintWords Go.Proofs.Ytpoandlbmaljhaa.Base Go.Proofs.Ytpoandlbmaljhaa.Print

theorem rdBoxL_mid (pre suf : List S46) (x : S46) : rd_T46 (pre ++ x :: suf) (pre.length : Int) = x := by simp [rd_T46]
/-- The law's box as the program's. -/
def toB (b : S46) : S50 := ⟨b.f0, b.f1, b.f2, b.f3⟩
def szB (b : S46) : Nat := b.f1.length + b.f2.length
theorem szBox_f (a : Int) (l m : List Int) (f : Bool) (n : Int) (h0 : 0 ≤ n) (h : n ≤ 1048576) (hl : l.length ≤ 1000000000000000000) (hm : m.length ≤ 1000000000000000000) : laws_szBox.f a l m f n = some (if n < ((l.length + m.length : Nat) : Int) then -1 else n - ((l.length + m.length : Nat) : Int)) := by
  unfold laws_szBox.f
  rw [szIntS_f l n h0 h hl]
  simp only [Option.bind_some]
  by_cases hc : n < (l.length : Int)
  · rw [if_pos hc, if_pos (by omega), if_pos (by omega)]
  · rw [if_neg hc, if_neg (by omega), szIntS_f m _ (by omega) (by omega) hm]
    simp only [Option.bind_some]
    by_cases hd : n - (l.length : Int) < (m.length : Int)
    · rw [if_pos hd, if_pos (by omega), if_pos (by omega)]
    · rw [if_neg hd, if_neg (by omega), if_neg (by omega)]
      congr 1
      omega
theorem szBoxS_l0 (suf : List S46) : ∀ (pre : List S46) (n : Int), (pre ++ suf).length ≤ 1000000000000 → 0 ≤ n → n ≤ 1048576 → (∀ x ∈ suf, x.f1.length ≤ 1000000000000000000 ∧ x.f2.length ≤ 1000000000000000000) →
    laws_szBoxS.l0v (pre ++ suf) n (pre.length : Int) = some (sizes szB suf n) := by
  induction suf with
  | nil =>
    intro pre n _ _ _ _
    rw [laws_szBoxS.l0v_eq, if_neg (nlt_end pre)]
    rfl
  | cons x suf ih =>
    intro pre n hl h0 h1 hs
    have hn : pre.length < (pre ++ x :: suf).length := by simp
    have hx := hs x List.mem_cons_self
    rw [laws_szBoxS.l0v_eq, if_pos (lt_mid pre suf x), if_pos (by omega), rdBoxL_mid, szBox_f _ _ _ _ n h0 h1 hx.1 hx.2]
    simp only [Option.bind_some, sizes]
    have e : ((x.f1.length + x.f2.length : Nat) : Int) = (szB x : Int) := rfl
    rw [e]
    by_cases hc : n < (szB x : Int)
    · rw [if_pos hc, if_pos (by omega), if_pos hc]
    · rw [if_neg hc, if_neg (by omega), if_neg hc, up_mid pre x hn hl]
      rw [mid_snoc pre suf x] at hl ⊢
      exact ih (pre ++ [x]) _ hl (by omega) (by omega) (fun y hy => hs y (List.mem_cons_of_mem _ hy))
theorem szBoxS_v (l : List S46) (n : Int) (h0 : 0 ≤ n) (h1 : n ≤ 1048576) (hl : l.length ≤ 100000000000000000) (hs : ∀ x ∈ l, x.f1.length ≤ 1000000000000000000 ∧ x.f2.length ≤ 1000000000000000000) :
    laws_szBoxS.fv l n = some (sizeOf1 szB l n) := by
  rw [laws_szBoxS.fv_eq, w64 (by omega) (by omega)]
  unfold sizeOf1
  by_cases hc : n < (l.length : Int)
  · rw [if_pos (by omega), if_pos hc]
  · rw [if_neg (by omega), if_neg hc]
    have h := szBoxS_l0 l [] (n - (l.length : Int)) (by simp; omega) (by omega) (by omega) hs
    simpa using h
theorem toBox_v (a : Int) (l m : List Int) (f : Bool) (hl : l.length ≤ 1000000000000) (hm : m.length ≤ 1000000000000) : laws_toBox.fv a l m f = some (a, l, m, f) := by
  rw [laws_toBox.fv_eq, toIntS_v l hl, toIntS_v m hm]
  rfl
theorem toBoxS_l0 (suf : List S46) : ∀ (pre : List S46) (q rest : List S50), q.length = pre.length → rest.length = suf.length → (pre ++ suf).length ≤ 1000000000000 → (∀ x ∈ suf, okB (toB x)) → laws_toBoxS.l0v (pre ++ suf) (q ++ rest) (pre.length : Int) = some (q ++ suf.map toB) := by
  induction suf with
  | nil =>
    intro pre q rest _ hr _ _
    rw [laws_toBoxS.l0v_eq, if_neg (nlt_end pre)]
    simp at hr
    simp [hr]
  | cons x suf ih =>
    intro pre q rest hq hr hl hs
    cases rest with
    | nil => simp at hr
    | cons y rest =>
      have hn : pre.length < (pre ++ x :: suf).length := by simp
      have hx : x.f1.length ≤ 1000000000000 ∧ x.f2.length ≤ 1000000000000 := hs x List.mem_cons_self
      rw [laws_toBoxS.l0v_eq, if_pos (lt_mid pre suf x), if_pos (by omega), rdBoxL_mid, toBox_v _ _ _ _ hx.1 hx.2]
      simp only [Option.bind_some]
      rw [up_mid pre x hn hl, ← hq, if_pos (lt_mid q rest y), set_mid]
      rw [mid_snoc pre suf x] at hl ⊢
      rw [show (⟨x.f0, x.f1, x.f2, x.f3⟩ : S50) = toB x from rfl, ih (pre ++ [x]) (q ++ [toB x]) rest (by simp [hq]) (by simpa using hr) hl (fun y hy => hs y (List.mem_cons_of_mem _ hy))]
      simp
theorem toBoxS_v (l : List S46) (hl : l.length ≤ 1000000000000) (hs : ∀ x ∈ l, okB (toB x)) : laws_toBoxS.fv l = some (l.map toB) := by
  rw [laws_toBoxS.fv_eq, if_pos (by omega), if_pos (by omega)]
  have h := toBoxS_l0 l [] [] (List.replicate ((l.length : Int) : Int).toNat z50) rfl (by simp) (by simpa using hl) hs
  simpa using h
theorem eqBox_v (b : S50) (h : okB b) : laws_eqBox.fv b.f0 b.f1 b.f2 b.f3 b.f0 b.f1 b.f2 b.f3 = some true := by
  rw [laws_eqBox.fv_eq, if_pos rfl, eqIntS_v _ _ h.1, eqIntS_v _ _ h.2]
  first | (simp; done) | (rcases Bool.eq_false_or_eq_true b.f3 with h3 | h3 <;> simp [h3])
theorem eqBoxS_l0 (sa : List S50) : ∀ (pre : List S50), (pre ++ sa).length ≤ 1000000000000 → (∀ x ∈ sa, okB x) → laws_eqBoxS.l0v (pre ++ sa) (pre ++ sa) (pre.length : Int) = some true := by
  induction sa with
  | nil =>
    intro pre _ _
    rw [laws_eqBoxS.l0v_eq, if_neg (nlt_end pre)]
  | cons x sa ih =>
    intro pre hl hs
    have hn : pre.length < (pre ++ x :: sa).length := by simp
    rw [laws_eqBoxS.l0v_eq, if_pos (lt_mid pre sa x), if_pos (by omega), if_pos (lt_mid pre sa x), rdBox_mid, eqBox_v x (hs x List.mem_cons_self), up_mid pre x hn hl]
    simp only [Option.bind_some, if_true]
    rw [mid_snoc pre sa x] at hl ⊢
    exact ih (pre ++ [x]) hl (fun y hy => hs y (List.mem_cons_of_mem _ hy))
theorem eqBoxS_v (l : List S50) (hl : l.length ≤ 1000000000000) (hs : ∀ x ∈ l, okB x) : laws_eqBoxS.fv l l = some true := by
  rw [laws_eqBoxS.fv_eq, if_pos rfl]
  exact eqBoxS_l0 l [] (by simpa using hl) hs
end Go.Proofs.Ytpoandlbmaljhaa.Plain

/- Written by a program of this session (limx.py): the equations of what the printed functions come to. No condition. -/
namespace Go.Proofs.Ytpoandlbmaljhaa.Print
open Go.RowKit Go.Proofs.YtpoandlbmaljhaaW.PrintWords Go.Proofs.YtpoandlbmaljhaaW.PrintLast Go.Proofs.Ytpoandlbmaljhaa.Base
set_option linter.unusedVariables false
set_option maxRecDepth 20000
noncomputable def laws_eqEndpoint.fv (l0_0 : List Int) (l0_1 : List Int) (l0_2 : List (S50)) (a0_3 : Int) (l1_0 : List Int) (l1_1 : List Int) (l1_2 : List (S50)) (a1_3 : Int) : Option (Bool) := Lim fun k => laws_eqEndpoint.f k l0_0 l0_1 l0_2 a0_3 l1_0 l1_1 l1_2 a1_3
theorem laws_eqEndpoint.f_is (l0_0 : List Int) (l0_1 : List Int) (l0_2 : List (S50)) (a0_3 : Int) (l1_0 : List Int) (l1_1 : List Int) (l1_2 : List (S50)) (a1_3 : Int) : Is (fun k => laws_eqEndpoint.f k l0_0 l0_1 l0_2 a0_3 l1_0 l1_1 l1_2 a1_3) (laws_eqEndpoint.fv l0_0 l0_1 l0_2 a0_3 l1_0 l1_1 l1_2 a1_3) := ⟨fun k => laws_eqEndpoint.mono l0_0 l0_1 l0_2 a0_3 l1_0 l1_1 l1_2 a1_3 k, rfl⟩
theorem laws_eqEndpoint.fv_eq (l0_0 : List Int) (l0_1 : List Int) (l0_2 : List (S50)) (a0_3 : Int) (l1_0 : List Int) (l1_1 : List Int) (l1_2 : List (S50)) (a1_3 : Int) : laws_eqEndpoint.fv l0_0 l0_1 l0_2 a0_3 l1_0 l1_1 l1_2 a1_3 = (laws_eqIntS.fv l0_0 l1_0).bind fun t556 => (if t556 = true then ((laws_eqIntS.fv l0_1 l1_1).bind fun t557 => (if t557 = true then ((laws_eqBoxS.fv l0_2 l1_2).bind fun t558 => (if t558 = true then (if a0_3 = a1_3 then (some true) else (some false)) else (some false))) else (some false))) else (some false)) := by
  refine Is.lim (g := fun k => laws_eqEndpoint.f k l0_0 l0_1 l0_2 a0_3 l1_0 l1_1 l1_2 a1_3) ?_
  · unfold laws_eqEndpoint.f
    repeat' first
    | with_reducible exact laws_eqBoxS.f_is _ _
    | with_reducible exact laws_eqIntS.f_is _ _
    | with_reducible exact Is.now _
    | with_reducible refine Is.ite ?_ ?_
    | with_reducible refine Is.bind ?_ (fun _ => ?_)
end Go.Proofs.Ytpoandlbmaljhaa.Print

/- Endpoints: their sizes, copies and equality, as the law's helpers tell them. Condition: at most 10 to the 12 of each. -/
set_option linter.unusedSimpArgs false
set_option linter.unusedVariables false
namespace Go.Proofs.Ytpoandlbmaljhaa.Plain
open Go.RowKit Go.Proofs.YtpoandlbmaljhaaW.PrintWords Go.Proofs.Ytpoandlbmaljhaa.Base Go.Proofs.Ytpoandlbmaljhaa.Print

/-- What is left of n behind an endpoint. -/
def sizeE (v t : List Int) (p : List S46) (n : Int) : Int :=
  if n < (v.length : Int) then -1 else if n - (v.length : Int) < (t.length : Int) then -1 else if sizeOf1 szB p (n - (v.length : Int) - (t.length : Int)) < 0 then -1 else sizeOf1 szB p (n - (v.length : Int) - (t.length : Int))
/-- Its rows are not too long. -/
def okE (v t : List Int) (p : List S46) : Prop := v.length ≤ 1000000000000 ∧ t.length ≤ 1000000000000 ∧ p.length ≤ 1000000000000 ∧ ∀ x ∈ p, okB (toB x)
theorem szEnd_v (v t : List Int) (p : List S46) (c n : Int) (h0 : 0 ≤ n) (h : n ≤ 1048576) (hv : v.length ≤ 1000000000000000000) (ht : t.length ≤ 1000000000000000000) (hp : p.length ≤ 100000000000000000) (hs : ∀ x ∈ p, x.f1.length ≤ 1000000000000000000 ∧ x.f2.length ≤ 1000000000000000000) : laws_szEndpoint.fv v t p c n = some (sizeE v t p n) := by
  rw [laws_szEndpoint.fv_eq, szIntS_f v n h0 h hv]
  simp only [Option.bind_some, sizeE]
  by_cases h1 : n < (v.length : Int)
  · rw [if_pos h1, if_pos (by omega), if_pos h1]
  · rw [if_neg h1, if_neg (by omega), if_neg h1, szIntS_f t _ (by omega) (by omega) ht]
    simp only [Option.bind_some]
    by_cases h2 : n - (v.length : Int) < (t.length : Int)
    · rw [if_pos h2, if_pos (by omega), if_pos h2]
    · rw [if_neg h2, if_neg (by omega), if_neg h2, szBoxS_v p _ (by omega) (by omega) hp hs]
      simp only [Option.bind_some]
      split <;> rfl
theorem sizeE_le {v t : List Int} {p : List S46} {n : Int} (h1 : n ≤ 1048576) (h : 0 ≤ sizeE v t p n) : sizeE v t p n ≤ n ∧ okE v t p := by
  unfold sizeE at h ⊢
  by_cases h2 : n < (v.length : Int)
  · rw [if_pos h2] at h
    omega
  · rw [if_neg h2] at h ⊢
    by_cases h3 : n - (v.length : Int) < (t.length : Int)
    · rw [if_pos h3] at h
      omega
    · rw [if_neg h3] at h ⊢
      by_cases h4 : sizeOf1 szB p (n - (v.length : Int) - (t.length : Int)) < 0
      · rw [if_pos h4] at h
        omega
      · rw [if_neg h4] at h ⊢
        obtain ⟨a, b, c⟩ := sizeOf1_le szB p _ h
        refine ⟨by omega, by omega, by omega, by omega, fun x hx => ?_⟩
        have h5 := c x hx
        unfold szB at h5
        exact ⟨by show x.f1.length ≤ _; omega, by show x.f2.length ≤ _; omega⟩
theorem toEnd_v (v t : List Int) (p : List S46) (c : Int) (h : okE v t p) : laws_toEndpoint.fv v t p c = some (v, t, p.map toB, c) := by
  obtain ⟨h1, h2, h3, h4⟩ := h
  rw [laws_toEndpoint.fv_eq, toIntS_v v h1, toIntS_v t h2, toBoxS_v p h3 h4]
  rfl
theorem eqEnd_v (v t : List Int) (p : List S46) (c : Int) (h : okE v t p) : laws_eqEndpoint.fv v t (p.map toB) c v t (p.map toB) c = some true := by
  obtain ⟨h1, h2, h3, h4⟩ := h
  have h5 : ∀ x ∈ p.map toB, okB x := by
    intro x hx
    obtain ⟨y, hy, rfl⟩ := List.mem_map.1 hx
    exact h4 y hy
  rw [laws_eqEndpoint.fv_eq, eqIntS_v v v h1, eqIntS_v t t h2, eqBoxS_v (p.map toB) (by rw [List.length_map]; exact h3) h5]
  simp
theorem okE_boxes {v t : List Int} {p : List S46} (h : okE v t p) : ∀ x ∈ p.map toB, okB x := by
  intro x hx
  obtain ⟨y, hy, rfl⟩ := List.mem_map.1 hx
  exact h.2.2.2 y hy
end Go.Proofs.Ytpoandlbmaljhaa.Plain

/- Ranges, of the program and of the reference. No condition. -/
set_option linter.unusedSimpArgs false
set_option linter.unusedVariables false
namespace Go.Proofs.Ytpoandlbmaljhaa.Plain
open Go.RowKit Go.Proofs.YtpoandlbmaljhaaW.PrintWords Go.Proofs.Ytpoandlbmaljhaa.Base Go.Proofs.Ytpoandlbmaljhaa.Print

/-- lo ≤ n ≤ hi -/
def inR (lo hi n : Int) : Bool := decide (lo ≤ n) && decide (n ≤ hi)
theorem inR_true {lo hi n : Int} : inR lo hi n = true ↔ lo ≤ n ∧ n ≤ hi := by simp [inR]
theorem inR_false {lo hi n : Int} : inR lo hi n = false ↔ n < lo ∨ hi < n := by
  simp only [inR, Bool.and_eq_false_iff, decide_eq_false_iff_not]
  omega
theorem inRange_f (n lo hi : Int) : impl_InRange.f n lo hi = some (inR lo hi n) := by
  unfold impl_InRange.f inR
  by_cases h : lo ≤ n <;> simp [h]
theorem l1In_f (n lo hi : Int) : spec_l1In.f n lo hi = some (inR lo hi n) := by
  unfold spec_l1In.f inR
  by_cases h : lo ≤ n <;> simp [h]
end Go.Proofs.Ytpoandlbmaljhaa.Plain

/- Lists of versions: ascending, from 1 to 9; membership; what two lists share. No program. No condition. -/
set_option linter.unusedSimpArgs false
set_option linter.unusedVariables false
namespace Go.Proofs.Ytpoandlbmaljhaa.Plain
open Go.RowKit Go.Proofs.YtpoandlbmaljhaaW.PrintWords Go.Proofs.Ytpoandlbmaljhaa.Base Go.Proofs.Ytpoandlbmaljhaa.Print

/-- Versions that grow, all above p. -/
def vers : Int → List Int → Bool
  | _, [] => true
  | p, x :: l => inR 1 9 x && (decide (p < x) && vers x l)
/-- A list of versions, and not empty. -/
def areV (l : List Int) : Bool := vers 0 l && decide (0 < l.length)
/-- Is x in the list? -/
def mem (l : List Int) (x : Int) : Bool := decide (x ∈ l)
/-- What two lists share. -/
def com (a b : List Int) : List Int := a.filter (mem b)
/-- The best version that two lists share. -/
def best (a b : List Int) : Int := if areV a && areV b then (com a b).getLastD 0 else 0
theorem mem_cons (x y : Int) (l : List Int) : mem (y :: l) x = (decide (y = x) || mem l x) := by
  by_cases h : y = x
  · simp [mem, h]
  · have h' : ¬ x = y := fun e => h e.symm
    simp [mem, h, h']
theorem mem_nil (x : Int) : mem [] x = false := by simp [mem]
theorem vers_le {p q : Int} {l : List Int} (h : vers p l = true) (hq : q ≤ p) : vers q l = true := by
  cases l with
  | nil => rfl
  | cons x l =>
    simp only [vers, Bool.and_eq_true, decide_eq_true_eq] at h ⊢
    exact ⟨h.1, by omega, h.2.2⟩
theorem vers_filter (f : Int → Bool) {l : List Int} : ∀ {p : Int}, vers p l = true → vers p (l.filter f) = true := by
  induction l with
  | nil =>
    intro p h
    rfl
  | cons x l ih =>
    intro p h
    simp only [vers, Bool.and_eq_true, decide_eq_true_eq] at h
    cases hf : f x with
    | true =>
      rw [List.filter_cons_of_pos hf]
      simp only [vers, Bool.and_eq_true, decide_eq_true_eq]
      exact ⟨h.1, h.2.1, ih h.2.2⟩
    | false =>
      rw [List.filter_cons_of_neg (by simp [hf])]
      exact vers_le (ih h.2.2) (by omega)
theorem vers_len {l : List Int} : ∀ {p : Int}, vers p l = true → p ≤ 9 → (l.length : Int) ≤ 9 - p := by
  induction l with
  | nil =>
    intro p _ hp
    simp
    omega
  | cons x l ih =>
    intro p h hp
    simp only [vers, Bool.and_eq_true, decide_eq_true_eq, inR_true] at h
    have := ih h.2.2 (by omega)
    simp only [List.length_cons]
    omega
theorem areV_len {l : List Int} (h : areV l = true) : l.length ≤ 9 := by
  simp only [areV, Bool.and_eq_true] at h
  have := vers_len h.1 (by omega)
  omega
theorem vers_mem {l : List Int} : ∀ {p : Int}, vers p l = true → ∀ x ∈ l, 1 ≤ x ∧ x ≤ 9 ∧ p < x := by
  induction l with
  | nil =>
    intro p _ x hx
    cases hx
  | cons y l ih =>
    intro p h x hx
    simp only [vers, Bool.and_eq_true, decide_eq_true_eq, inR_true] at h
    cases hx with
    | head => omega
    | tail _ hx =>
      have := ih h.2.2 x hx
      omega
theorem areV_mem {l : List Int} (h : areV l = true) : ∀ x ∈ l, 1 ≤ x ∧ x ≤ 9 := by
  simp only [areV, Bool.and_eq_true] at h
  intro x hx
  have := vers_mem h.1 x hx
  omega
theorem com_len (a b : List Int) : (com a b).length ≤ a.length := List.length_filter_le _ _
theorem lastD_cons (x : Int) (l : List Int) (d : Int) : (x :: l).getLastD d = l.getLastD x := by
  cases l <;> rfl
theorem rd_lastD (pre suf : List Int) (h : pre ≠ []) : rd (pre ++ suf) ((pre.length : Int) - 1) = pre.getLastD 0 := by
  have hl : 0 < pre.length := List.length_pos_iff.mpr h
  have e : ((pre.length : Int) - 1).toNat = pre.length - 1 := by omega
  have h1 : pre.length - 1 < pre.length := by omega
  simp [rd, e, List.getD_eq_getElem?_getD, List.getElem?_append_left h1, List.getLastD_eq_getLast?, List.getLast?_eq_getElem?]
theorem lastD_mem (l : List Int) (h : l ≠ []) (d : Int) : l.getLastD d ∈ l := by
  cases l with
  | nil => exact absurd rfl h
  | cons x l => exact List.getLast_mem _
end Go.Proofs.Ytpoandlbmaljhaa.Plain

/- When a box, a list of tags and an endpoint are in form. No program. No condition. -/
set_option linter.unusedSimpArgs false
set_option linter.unusedVariables false
namespace Go.Proofs.Ytpoandlbmaljhaa.Plain
open Go.RowKit Go.Proofs.YtpoandlbmaljhaaW.PrintWords Go.Proofs.Ytpoandlbmaljhaa.Base Go.Proofs.Ytpoandlbmaljhaa.Print

def isB (b : S50) : Bool := inR 0 9 b.f0 && (decide (b.f1.length ≤ 6) && (decide (b.f2.length ≤ 6) && (b.f1.all (inR 0 255) && b.f2.all (inR 0 255))))
/-- Is a tag one of those that mean nothing? -/
def res (x : Int) : Bool := inR 0 255 x && (Int.tmod x 16 == 10)
/-- Is x above the one before it? -/
def above : Option Int → Int → Bool
  | none, _ => true
  | some p, x => decide (p < x)
def asc : Option Int → List Int → Bool
  | _, [] => true
  | o, x :: l => above o x && asc (some x) l
/-- The same with all that the reference asks of a tag. -/
def tagsS : Option Int → List Int → Bool
  | _, [] => true
  | o, x :: l => inR 0 255 x && (!res x && (above o x && tagsS (some x) l))
theorem tagsS_eq (l : List Int) : ∀ o, tagsS o l = ((asc o l && l.all (inR 0 255)) && !(l.any res)) := by
  induction l with
  | nil =>
    intro o
    rfl
  | cons x l ih =>
    intro o
    simp only [tagsS, asc, List.all_cons, List.any_cons, ih]
    cases inR 0 255 x <;> cases res x <;> cases above o x <;> cases asc (some x) l <;> cases l.all (inR 0 255) <;> cases l.any res <;> rfl
/-- Is an endpoint in form? -/
def isE (v t : List Int) (p : List S50) (c : Int) : Bool :=
  areV v && (decide (t.length ≤ 5) && ((asc none t && t.all (inR 0 255)) && (!(t.any res) && (decide (p.length ≤ 4) && (p.all isB && inR 0 5 c)))))
theorem lastO (pre suf : List Int) (h : pre ≠ []) : pre.getLast? = some (rd (pre ++ suf) ((pre.length : Int) - 1)) := by
  rw [rd_lastD pre suf h, List.getLast?_eq_some_getLast h]
  cases pre with
  | nil => exact absurd rfl h
  | cons x l => rfl
end Go.Proofs.Ytpoandlbmaljhaa.Plain

/- Lists of numbers in a range. Condition: the slice has at most 10 to the 12 numbers. -/
set_option linter.unusedSimpArgs false
set_option linter.unusedVariables false
namespace Go.Proofs.Ytpoandlbmaljhaa.Plain
open Go.RowKit Go.Proofs.YtpoandlbmaljhaaW.PrintWords Go.Proofs.Ytpoandlbmaljhaa.Base Go.Proofs.Ytpoandlbmaljhaa.Print

theorem areNumbers_l0 (lo hi : Int) (suf : List Int) : ∀ (pre : List Int), (pre ++ suf).length ≤ 1000000000000 →
    ∃ r, slices_IndexFunc_int_int_with_impl_areNumbers_1.l0v (pre ++ suf) ((pre ++ suf).length : Int) (pre.length : Int) lo hi = some r ∧ decide (r ≥ 0) = !(suf.all (inR lo hi)) := by
  induction suf with
  | nil =>
    intro pre _
    refine ⟨-1, ?_, by simp⟩
    rw [slices_IndexFunc_int_int_with_impl_areNumbers_1.l0v_eq, if_neg (nlt_end pre)]
  | cons x suf ih =>
    intro pre hl
    have hn : pre.length < (pre ++ x :: suf).length := by simp
    rw [slices_IndexFunc_int_int_with_impl_areNumbers_1.l0v_eq, if_pos (lt_mid pre suf x), if_pos (by omega), if_pos (lt_mid pre suf x), rd_mid]
    unfold impl_areNumbers_1.f
    rw [inRange_f]
    simp only [Option.bind_some]
    cases hx : inR lo hi x with
    | false =>
      refine ⟨(pre.length : Int), by simp, ?_⟩
      simp [hx]
    | true =>
      rw [up_mid pre x hn hl]
      simp only [Bool.not_true, Bool.false_eq_true, if_false]
      rw [mid_snoc pre suf x] at hl ⊢
      obtain ⟨r, h1, h2⟩ := ih (pre ++ [x]) hl
      exact ⟨r, h1, by rw [h2]; simp [hx]⟩

theorem areNumbers_v (l : List Int) (lo hi : Int) (hl : l.length ≤ 1000000000000) : impl_areNumbers.fv l lo hi = some (l.all (inR lo hi)) := by
  obtain ⟨r, h1, h2⟩ := areNumbers_l0 lo hi l [] (by simpa using hl)
  rw [impl_areNumbers.fv_eq, slices_ContainsFunc_int_int_with_impl_areNumbers_1.fv_eq, slices_IndexFunc_int_int_with_impl_areNumbers_1.fv_eq]
  simp only [List.nil_append, List.length_nil, Int.natCast_zero] at h1
  rw [h1]
  simp [h2]
end Go.Proofs.Ytpoandlbmaljhaa.Plain

/- IsBox, of the program. Condition: at most 10 to the 12 of each. -/
set_option linter.unusedSimpArgs false
set_option linter.unusedVariables false
namespace Go.Proofs.Ytpoandlbmaljhaa.Plain
open Go.RowKit Go.Proofs.YtpoandlbmaljhaaW.PrintWords Go.Proofs.Ytpoandlbmaljhaa.Base Go.Proofs.Ytpoandlbmaljhaa.Print

theorem implIsB_v (b : S50) (h : okB b) : impl_IsBox.fv b.f0 b.f1 b.f2 b.f3 = some (isB b) := by
  rw [impl_IsBox.fv_eq, inRange_f, areNumbers_v _ _ _ h.1, areNumbers_v _ _ _ h.2]
  simp only [Option.bind_some, isB]
  simp only [show ((b.f1.length : Int) ≤ 6) ↔ (b.f1.length ≤ 6) from by omega, show ((b.f2.length : Int) ≤ 6) ↔ (b.f2.length ≤ 6) from by omega]
  generalize inR 0 9 b.f0 = x
  generalize b.f1.all (inR 0 255) = y
  generalize b.f2.all (inR 0 255) = z
  by_cases h1 : b.f1.length ≤ 6 <;> by_cases h2 : b.f2.length ≤ 6 <;> cases x <;> cases y <;> cases z <;> simp [h1, h2]
end Go.Proofs.Ytpoandlbmaljhaa.Plain

/- AreVersions, of the program. Condition: at most 10 to the 12 numbers. -/
set_option linter.unusedSimpArgs false
set_option linter.unusedVariables false
namespace Go.Proofs.Ytpoandlbmaljhaa.Plain
open Go.RowKit Go.Proofs.YtpoandlbmaljhaaW.PrintWords Go.Proofs.Ytpoandlbmaljhaa.Base Go.Proofs.Ytpoandlbmaljhaa.Print

theorem implVers_l0 (suf : List Int) : ∀ pre : List Int, (pre ++ suf).length ≤ 1000000000000 →
    impl_AreVersions.l0v (pre ++ suf) (pre ++ suf) ((pre ++ suf).length : Int) (pre.length : Int) = some (vers (pre.getLastD 0) suf && decide (0 < (pre ++ suf).length)) := by
  induction suf with
  | nil =>
    intro pre hl
    rw [impl_AreVersions.l0v_eq, if_neg (nlt_end pre)]
    by_cases h : 0 < pre.length <;> simp [vers, h]
  | cons x suf ih =>
    intro pre hl
    have hn : pre.length < (pre ++ x :: suf).length := by simp
    rw [impl_AreVersions.l0v_eq, if_pos (lt_mid pre suf x), if_pos (by omega), if_pos (lt_mid pre suf x), rd_mid, inRange_f]
    simp only [Option.bind_some, vers]
    cases hx : inR 1 9 x with
    | false => simp
    | true =>
      rw [if_pos rfl, up_mid pre x hn hl]
      have h1 := ih (pre ++ [x]) (by simpa using hl)
      rw [← mid_snoc pre suf x] at h1
      rw [h1]
      have hr := inR_true.mp hx
      by_cases hp : pre = []
      · subst hp
        rw [if_neg (by simp)]
        have h0 : (0 : Int) < x := by omega
        simp [h0]
      · have hpl : 0 < pre.length := List.length_pos_iff.mpr hp
        rw [if_pos (by omega), w64 (x := (pre.length : Int) - 1) (by omega) (by omega), if_pos (by omega), if_pos (by omega), rd_lastD pre _ hp]
        by_cases hlt : pre.getLastD 0 < x
        · rw [if_neg (by omega)]
          generalize pre.getLastD 0 = q at hlt
          simp [hlt]
        · rw [if_pos (by omega)]
          generalize pre.getLastD 0 = q at hlt
          simp [hlt]
theorem implVers_v (l : List Int) (hl : l.length ≤ 1000000000000) : impl_AreVersions.fv l = some (areV l) := by
  rw [impl_AreVersions.fv_eq]
  simpa [areV] using implVers_l0 l [] (by simpa using hl)
end Go.Proofs.Ytpoandlbmaljhaa.Plain

/- IsBox, areTags, IsHardened and IsEndpoint, of the program. Condition: at most 10 to the 12 of each. -/
set_option linter.unusedSimpArgs false
set_option linter.unusedVariables false
namespace Go.Proofs.Ytpoandlbmaljhaa.Plain
open Go.RowKit Go.Proofs.YtpoandlbmaljhaaW.PrintWords Go.Proofs.Ytpoandlbmaljhaa.Base Go.Proofs.Ytpoandlbmaljhaa.Print

theorem implRes_f (x : Int) : impl_IsReserved.f x = some (res x) := by
  unfold impl_IsReserved.f res
  rw [inRange_f]
  cases inR 0 255 x <;> simp
theorem implHard_l0 (suf : List Int) : ∀ (pre : List Int), (pre ++ suf).length ≤ 1000000000000 →
    ∃ r, slices_IndexFunc_int_int_with_impl_IsReserved.l0v (pre ++ suf) ((pre ++ suf).length : Int) (pre.length : Int) = some r ∧ decide (r ≥ 0) = suf.any res := by
  induction suf with
  | nil =>
    intro pre _
    refine ⟨-1, ?_, by simp⟩
    rw [slices_IndexFunc_int_int_with_impl_IsReserved.l0v_eq, if_neg (nlt_end pre)]
  | cons x suf ih =>
    intro pre hl
    have hn : pre.length < (pre ++ x :: suf).length := by simp
    rw [slices_IndexFunc_int_int_with_impl_IsReserved.l0v_eq, if_pos (lt_mid pre suf x), if_pos (by omega), if_pos (lt_mid pre suf x), rd_mid, implRes_f]
    simp only [Option.bind_some]
    cases hx : res x with
    | true =>
      rw [if_pos rfl]
      exact ⟨(pre.length : Int), rfl, by simp [hx]⟩
    | false =>
      rw [if_neg (by simp), up_mid pre x hn hl]
      rw [mid_snoc pre suf x] at hl ⊢
      obtain ⟨r, h1, h2⟩ := ih (pre ++ [x]) hl
      exact ⟨r, h1, by rw [h2]; simp [hx]⟩
theorem implHard_v (l : List Int) (hl : l.length ≤ 1000000000000) : impl_IsHardened.fv l = some (l.any res) := by
  obtain ⟨r, h1, h2⟩ := implHard_l0 l [] (by simpa using hl)
  rw [impl_IsHardened.fv_eq, slices_ContainsFunc_int_int_with_impl_IsReserved.fv_eq, slices_IndexFunc_int_int_with_impl_IsReserved.fv_eq]
  simp only [List.nil_append, List.length_nil, Int.natCast_zero] at h1
  rw [h1]
  simp [h2]
theorem implTags_l0 (suf : List Int) : ∀ (pre : List Int), (pre ++ suf).length ≤ 1000000000000 →
    impl_areTags.l0v (pre ++ suf) (pre ++ suf) ((pre ++ suf).length : Int) (pre.length : Int) = some (asc pre.getLast? suf && (pre ++ suf).all (inR 0 255)) := by
  induction suf with
  | nil =>
    intro pre hl
    rw [impl_areTags.l0v_eq, if_neg (nlt_end pre), areNumbers_v _ _ _ hl]
    simp only [Option.bind_some, asc, Bool.true_and]
  | cons x suf ih =>
    intro pre hl
    have hn : pre.length < (pre ++ x :: suf).length := by simp
    have hp : (pre ++ x :: suf).length ≤ 1000000000000 := hl
    rw [impl_areTags.l0v_eq, if_pos (lt_mid pre suf x), if_pos (by omega), if_pos (lt_mid pre suf x), rd_mid, up_mid pre x hn hl]
    have h1 := ih (pre ++ [x]) (by simpa using hl)
    rw [← mid_snoc pre suf x] at h1
    rw [h1, List.getLast?_concat]
    simp only [asc]
    by_cases he : pre = []
    · subst he
      rw [if_neg (by simp)]
      simp [above]
    · have hpl : 0 < pre.length := List.length_pos_iff.mpr he
      rw [if_pos (by omega), w64 (x := (pre.length : Int) - 1) (by omega) (by omega), if_pos (by omega), if_pos (by omega), lastO pre (x :: suf) he]
      simp only [above]
      by_cases hlt : rd (pre ++ x :: suf) ((pre.length : Int) - 1) < x
      · rw [if_neg (by omega)]
        simp [hlt]
      · rw [if_pos (by omega)]
        simp [hlt]
theorem implTags_v (l : List Int) (hl : l.length ≤ 1000000000000) : impl_areTags.fv l = some (asc none l && l.all (inR 0 255)) := by
  rw [impl_areTags.fv_eq]
  simpa using implTags_l0 l [] (by simpa using hl)
theorem implBs_l0 (suf : List S50) : ∀ (pre : List S50), (pre ++ suf).length ≤ 1000000000000 → (∀ x ∈ suf, okB x) →
    ∃ r, slices_IndexFunc_impl_Box_impl_Box_with_impl_IsEndpoint_1.l0v (pre ++ suf) ((pre ++ suf).length : Int) (pre.length : Int) = some r ∧ decide (r ≥ 0) = !(suf.all isB) := by
  induction suf with
  | nil =>
    intro pre _ _
    refine ⟨-1, ?_, by simp⟩
    rw [slices_IndexFunc_impl_Box_impl_Box_with_impl_IsEndpoint_1.l0v_eq, if_neg (nlt_end pre)]
  | cons x suf ih =>
    intro pre hl hs
    have hn : pre.length < (pre ++ x :: suf).length := by simp
    rw [slices_IndexFunc_impl_Box_impl_Box_with_impl_IsEndpoint_1.l0v_eq, if_pos (lt_mid pre suf x), if_pos (by omega), if_pos (lt_mid pre suf x), rdBox_mid, impl_IsEndpoint_1.fv_eq, implIsB_v x (hs x List.mem_cons_self)]
    simp only [Option.bind_some]
    cases hx : isB x with
    | false =>
      rw [if_pos (show (!false) = true from rfl)]
      exact ⟨(pre.length : Int), rfl, by simp [hx]⟩
    | true =>
      rw [if_neg (by simp), up_mid pre x hn hl]
      rw [mid_snoc pre suf x] at hl ⊢
      obtain ⟨r, h1, h2⟩ := ih (pre ++ [x]) hl (fun y hy => hs y (List.mem_cons_of_mem _ hy))
      exact ⟨r, h1, by rw [h2]; simp [hx]⟩
theorem implBs_v (l : List S50) (hl : l.length ≤ 1000000000000) (hs : ∀ x ∈ l, okB x) : slices_ContainsFunc_impl_Box_impl_Box_with_impl_IsEndpoint_1.fv l = some (!(l.all isB)) := by
  obtain ⟨r, h1, h2⟩ := implBs_l0 l [] (by simpa using hl) hs
  rw [slices_ContainsFunc_impl_Box_impl_Box_with_impl_IsEndpoint_1.fv_eq, slices_IndexFunc_impl_Box_impl_Box_with_impl_IsEndpoint_1.fv_eq]
  simp only [List.nil_append, List.length_nil, Int.natCast_zero] at h1
  rw [h1]
  simp only [Option.bind_some, h2]
theorem implIsE_v (v t : List Int) (p : List S50) (c : Int) (hv : v.length ≤ 1000000000000) (ht : t.length ≤ 1000000000000) (hp : p.length ≤ 1000000000000) (hs : ∀ x ∈ p, okB x) : impl_IsEndpoint.fv v t p c = some (isE v t p c) := by
  rw [impl_IsEndpoint.fv_eq, implVers_v v hv, implTags_v t ht, implHard_v t ht, implBs_v p hp hs, inRange_f]
  simp only [Option.bind_some, isE, show ((t.length : Int) ≤ 5) ↔ (t.length ≤ 5) from by omega, show ((p.length : Int) ≤ 4) ↔ (p.length ≤ 4) from by omega]
  generalize areV v = x0
  generalize asc none t = x1
  generalize t.all (inR 0 255) = x2
  generalize t.any res = x3
  generalize p.all isB = x4
  by_cases h1 : t.length ≤ 5 <;> by_cases h2 : p.length ≤ 4 <;> cases x0 <;> cases x1 <;> cases x2 <;> cases x3 <;> cases x4 <;> simp [h1, h2]
end Go.Proofs.Ytpoandlbmaljhaa.Plain

/- Lists of bytes, of the reference. Condition: at most 10 to the 12 numbers. -/
set_option linter.unusedSimpArgs false
set_option linter.unusedVariables false
namespace Go.Proofs.Ytpoandlbmaljhaa.Plain
open Go.RowKit Go.Proofs.YtpoandlbmaljhaaW.PrintWords Go.Proofs.Ytpoandlbmaljhaa.Base Go.Proofs.Ytpoandlbmaljhaa.Print

theorem specByte_l0 (suf : List Int) : ∀ (pre : List Int), (pre ++ suf).length ≤ 1000000000000 → spec_l9Byte.l0v (pre ++ suf) (pre.length : Int) = some (suf.all (inR 0 255)) := by
  induction suf with
  | nil =>
    intro pre _
    rw [spec_l9Byte.l0v_eq, if_neg (nlt_end pre)]
    rfl
  | cons x suf ih =>
    intro pre hl
    have hn : pre.length < (pre ++ x :: suf).length := by simp
    rw [spec_l9Byte.l0v_eq, if_pos (lt_mid pre suf x), if_pos (by omega), rd_mid, l1In_f, up_mid pre x hn hl]
    simp only [Option.bind_some, List.all_cons]
    cases inR 0 255 x with
    | false => simp
    | true =>
      rw [if_pos rfl]
      rw [mid_snoc pre suf x] at hl ⊢
      rw [ih (pre ++ [x]) hl, Bool.true_and]
theorem specByte_v (l : List Int) (hl : l.length ≤ 1000000000000) : spec_l9Byte.fv l = some (l.all (inR 0 255)) := by
  rw [spec_l9Byte.fv_eq]
  simpa using specByte_l0 l [] (by simpa using hl)
end Go.Proofs.Ytpoandlbmaljhaa.Plain

/- IsBox, of the reference. Condition: at most 10 to the 12 of each. -/
set_option linter.unusedSimpArgs false
set_option linter.unusedVariables false
namespace Go.Proofs.Ytpoandlbmaljhaa.Plain
open Go.RowKit Go.Proofs.YtpoandlbmaljhaaW.PrintWords Go.Proofs.Ytpoandlbmaljhaa.Base Go.Proofs.Ytpoandlbmaljhaa.Print

theorem specIsB_v (b : S50) (h : okB b) : spec_IsBox.fv b.f0 b.f1 b.f2 b.f3 = some (isB b) := by
  rw [spec_IsBox.fv_eq, l1In_f, specByte_v _ h.1, specByte_v _ h.2]
  simp only [Option.bind_some, isB]
  simp only [show ((b.f1.length : Int) ≤ 6) ↔ (b.f1.length ≤ 6) from by omega, show ((b.f2.length : Int) ≤ 6) ↔ (b.f2.length ≤ 6) from by omega]
  generalize inR 0 9 b.f0 = x
  generalize b.f1.all (inR 0 255) = y
  generalize b.f2.all (inR 0 255) = z
  by_cases h1 : b.f1.length ≤ 6 <;> by_cases h2 : b.f2.length ≤ 6 <;> cases x <;> cases y <;> cases z <;> simp [h1, h2]
end Go.Proofs.Ytpoandlbmaljhaa.Plain

/- AreVersions, of the reference. Condition: at most 10 to the 12 numbers. -/
set_option linter.unusedSimpArgs false
set_option linter.unusedVariables false
namespace Go.Proofs.Ytpoandlbmaljhaa.Plain
open Go.RowKit Go.Proofs.YtpoandlbmaljhaaW.PrintWords Go.Proofs.Ytpoandlbmaljhaa.Base Go.Proofs.Ytpoandlbmaljhaa.Print

theorem specVers_l0 (suf : List Int) : ∀ pre : List Int, (pre ++ suf).length ≤ 1000000000000 →
    spec_AreVersions.l0v (pre ++ suf) (pre.length : Int) = some (vers (pre.getLastD 0) suf && decide (0 < (pre ++ suf).length)) := by
  induction suf with
  | nil =>
    intro pre hl
    rw [spec_AreVersions.l0v_eq, if_neg (nlt_end pre)]
    by_cases h : 0 < pre.length <;> simp [vers, h]
  | cons x suf ih =>
    intro pre hl
    have hn : pre.length < (pre ++ x :: suf).length := by simp
    rw [spec_AreVersions.l0v_eq, if_pos (lt_mid pre suf x), if_pos (by omega), rd_mid, l1In_f]
    simp only [Option.bind_some, vers]
    cases hx : inR 1 9 x with
    | false => simp
    | true =>
      rw [if_pos rfl, up_mid pre x hn hl]
      have h1 := ih (pre ++ [x]) (by simpa using hl)
      rw [← mid_snoc pre suf x] at h1
      rw [h1]
      have hr := inR_true.mp hx
      by_cases hp : pre = []
      · subst hp
        rw [if_neg (by simp)]
        have h0 : (0 : Int) < x := by omega
        simp [h0]
      · have hpl : 0 < pre.length := List.length_pos_iff.mpr hp
        rw [if_pos (by omega), w64 (x := (pre.length : Int) - 1) (by omega) (by omega), if_pos (by omega), if_pos (by omega), rd_lastD pre _ hp]
        by_cases hlt : pre.getLastD 0 < x
        · rw [if_neg (by omega)]
          generalize pre.getLastD 0 = q at hlt
          simp [hlt]
        · rw [if_pos (by omega)]
          generalize pre.getLastD 0 = q at hlt
          simp [hlt]
theorem specVers_v (l : List Int) (hl : l.length ≤ 1000000000000) : spec_AreVersions.fv l = some (areV l) := by
  rw [spec_AreVersions.fv_eq]
  simpa [areV] using specVers_l0 l [] (by simpa using hl)
end Go.Proofs.Ytpoandlbmaljhaa.Plain

/- IsBox and IsEndpoint, of the reference. Condition: at most 10 to the 12 of each. -/
set_option linter.unusedSimpArgs false
set_option linter.unusedVariables false
namespace Go.Proofs.Ytpoandlbmaljhaa.Plain
open Go.RowKit Go.Proofs.YtpoandlbmaljhaaW.PrintWords Go.Proofs.Ytpoandlbmaljhaa.Base Go.Proofs.Ytpoandlbmaljhaa.Print

theorem specRes_f (x : Int) : spec_IsReserved.f x = some (res x) := by
  unfold spec_IsReserved.f res
  rw [l1In_f]
  cases inR 0 255 x <;> simp
theorem specIsE_l1 (v t : List Int) (c : Int) (hv : v.length ≤ 1000000000000) (suf : List S50) : ∀ (pre : List S50), (pre ++ suf).length ≤ 1000000000000 → (∀ x ∈ suf, okB x) →
    spec_IsEndpoint.l1v (pre.length : Int) v t (pre ++ suf) c = some (suf.all isB && (areV v && (decide (t.length ≤ 5) && (decide ((pre ++ suf).length ≤ 4) && inR 0 5 c)))) := by
  induction suf with
  | nil =>
    intro pre hl _
    rw [spec_IsEndpoint.l1v_eq, if_neg (nlt_end pre), specVers_v v hv, l1In_f]
    simp only [Option.bind_some, List.all_nil, Bool.true_and]
    cases areV v with
    | false => simp
    | true =>
      by_cases h1 : t.length ≤ 5
      · rw [if_pos rfl, if_pos (by omega)]
        by_cases h2 : (pre ++ []).length ≤ 4
        · rw [if_pos (by omega)]
          simp only [h1, h2, decide_true, Bool.true_and]
        · rw [if_neg (by omega)]
          simp only [h1, h2, decide_true, decide_false, Bool.true_and, Bool.false_and]
      · rw [if_pos rfl, if_neg (by omega)]
        simp [h1]
  | cons x suf ih =>
    intro pre hl hs
    have hn : pre.length < (pre ++ x :: suf).length := by simp
    rw [spec_IsEndpoint.l1v_eq, if_pos (lt_mid pre suf x), if_pos (by omega), rdBox_mid, specIsB_v x (hs x List.mem_cons_self), up_mid pre x hn hl]
    simp only [Option.bind_some, List.all_cons]
    cases isB x with
    | false => simp
    | true =>
      rw [if_pos rfl]
      rw [mid_snoc pre suf x] at hl ⊢
      rw [ih (pre ++ [x]) hl (fun y hy => hs y (List.mem_cons_of_mem _ hy)), Bool.true_and]
theorem specIsE_l0 (v : List Int) (p : List S50) (c : Int) (hv : v.length ≤ 1000000000000) (hp : p.length ≤ 1000000000000) (hs : ∀ x ∈ p, okB x) (suf : List Int) : ∀ (pre : List Int), (pre ++ suf).length ≤ 1000000000000 →
    spec_IsEndpoint.l0v (pre.length : Int) v (pre ++ suf) p c = some (tagsS pre.getLast? suf && (p.all isB && (areV v && (decide ((pre ++ suf).length ≤ 5) && (decide (p.length ≤ 4) && inR 0 5 c))))) := by
  induction suf with
  | nil =>
    intro pre hl
    have h := specIsE_l1 v (pre ++ []) c hv p [] (by simpa using hp) hs
    simp only [List.nil_append, List.length_nil, Int.natCast_zero] at h
    rw [spec_IsEndpoint.l0v_eq, if_neg (nlt_end pre), h]
    simp only [tagsS, Bool.true_and]
  | cons x suf ih =>
    intro pre hl
    have hn : pre.length < (pre ++ x :: suf).length := by simp
    rw [spec_IsEndpoint.l0v_eq, if_pos (lt_mid pre suf x), if_pos (by omega), rd_mid, l1In_f, specRes_f, up_mid pre x hn hl]
    have h1 := ih (pre ++ [x]) (by simpa using hl)
    rw [← mid_snoc pre suf x] at h1
    rw [h1, List.getLast?_concat]
    simp only [Option.bind_some, tagsS]
    cases inR 0 255 x with
    | false => simp
    | true =>
      cases res x with
      | true => simp
      | false =>
        rw [if_pos rfl, if_neg (by simp)]
        by_cases he : pre = []
        · subst he
          rw [if_neg (by simp)]
          simp [above]
        · have hpl : 0 < pre.length := List.length_pos_iff.mpr he
          rw [if_pos (by omega), w64 (x := (pre.length : Int) - 1) (by omega) (by omega), if_pos (by omega), if_pos (by omega), lastO pre (x :: suf) he]
          simp only [above]
          by_cases hlt : rd (pre ++ x :: suf) ((pre.length : Int) - 1) < x
          · rw [if_neg (by omega)]
            simp [hlt]
          · rw [if_pos (by omega)]
            simp [hlt]
theorem specIsE_v (v t : List Int) (p : List S50) (c : Int) (hv : v.length ≤ 1000000000000) (ht : t.length ≤ 1000000000000) (hp : p.length ≤ 1000000000000) (hs : ∀ x ∈ p, okB x) : spec_IsEndpoint.fv v t p c = some (isE v t p c) := by
  rw [spec_IsEndpoint.fv_eq]
  have h := specIsE_l0 v p c hv hp hs t [] (by simpa using ht)
  simp only [List.nil_append, List.length_nil, Int.natCast_zero] at h
  rw [h, tagsS_eq]
  unfold isE
  rw [List.getLast?_nil]
  congr 1
  cases asc none t <;> cases t.all (inR 0 255) <;> cases t.any res <;> cases p.all isB <;> cases areV v <;> cases inR 0 5 c <;> cases decide (t.length ≤ 5) <;> cases decide (p.length ≤ 4) <;> rfl
end Go.Proofs.Ytpoandlbmaljhaa.Plain

/- Extensions and hellos in form, and what a box does to a hello. No program. No condition. -/
set_option linter.unusedSimpArgs false
set_option linter.unusedVariables false
namespace Go.Proofs.Ytpoandlbmaljhaa.Plain
open Go.RowKit Go.Proofs.YtpoandlbmaljhaaW.PrintWords Go.Proofs.Ytpoandlbmaljhaa.Base Go.Proofs.Ytpoandlbmaljhaa.Print

theorem rdExt_mid (pre suf : List S69) (x : S69) : rd_T69 (pre ++ x :: suf) (pre.length : Int) = x := by simp [rd_T69]
def hasT (l : List S69) (t : Int) : Bool := l.any (fun y => decide (y.f0 = t))
/-- Are these extensions in form, behind others? -/
def areX : List S69 → List S69 → Bool
  | _, [] => true
  | pre, x :: l => inR 0 255 x.f0 && (!hasT pre x.f0 && (decide (x.f1.length ≤ 4) && (x.f1.all (inR 0 255) && areX (pre ++ [x]) l)))
def isX (l : List S69) : Bool := areX [] l && decide (l.length ≤ 6)
def isH (v : List Int) (l : List S69) : Bool := areV v && isX l
/-- Its bodies are not too long. -/
def okXs (l : List S69) : Prop := ∀ x ∈ l, x.f1.length ≤ 1000000000000
/-- Does a box drop what has this tag? -/
def drops (b : S50) (t : Int) : Bool := mem b.f1 t || (b.f3 && (!mem b.f2 t && !inR 1 3 t))
/-- Does a box lose a hello? -/
def lose (b : S50) (v : List Int) (l : List S69) : Bool := (!decide (b.f0 = 0) && decide (v.getLastD 0 > b.f0)) || l.any (fun x => drops b x.f0)
/-- What a box leaves of the extensions. -/
def kept (b : S50) (l : List S69) : List S69 := l.filter (fun x => !mem b.f2 x.f0)
def pass (b : S50) (v : List Int) (l : List S69) : List Int × List S69 × Bool :=
  if isB b && (isH v l && !lose b v l) then (v, kept b l, true) else ([], [], false)
theorem areX_body {l : List S69} : ∀ {pre}, areX pre l = true → ∀ x ∈ l, x.f1.length ≤ 4 := by
  induction l with
  | nil =>
    intro pre _ x hx
    cases hx
  | cons y l ih =>
    intro pre h x hx
    simp only [areX, Bool.and_eq_true, decide_eq_true_eq] at h
    cases hx with
    | head => exact h.2.2.1
    | tail _ hx => exact ih h.2.2.2.2 x hx
end Go.Proofs.Ytpoandlbmaljhaa.Plain

/- What a path does to a hello, and what it loses. No program. No condition. -/
set_option linter.unusedSimpArgs false
set_option linter.unusedVariables false
namespace Go.Proofs.Ytpoandlbmaljhaa.Plain
open Go.RowKit Go.Proofs.YtpoandlbmaljhaaW.PrintWords Go.Proofs.Ytpoandlbmaljhaa.Base Go.Proofs.Ytpoandlbmaljhaa.Print

def goP : List S50 → Bool → List Int → List S69 → List Int × List S69 × Bool
  | [], o, v, l => (v, l, o)
  | b :: p, o, v, l => if o then goP p (pass b v l).2.2 (pass b v l).1 (pass b v l).2.1 else (v, l, o)
def passP (p : List S50) (v : List Int) (l : List S69) : List Int × List S69 × Bool := if isH v l && decide (p.length ≤ 4) then goP p true v l else ([], [], false)
def openP (p : List S50) (v : List Int) : Bool := areV v && (passP p (v.take 1) []).2.2
def eqX (a b : S69) : Bool := decide (a.f0 = b.f0) && decide (a.f1 = b.f1)
def eqXs : List S69 → List S69 → Bool
  | [], [] => true
  | a :: l, b :: m => eqX a b && eqXs l m
  | _, _ => false
def whole (v : List Int) (l : List S69) (p : List S50) : Bool := (passP p v l).2.2 && (decide ((passP p v l).1 = v) && eqXs (passP p v l).2.1 l)
/-- The tags that a path loses. -/
def lostT (p : List S50) (v : List Int) (l : List S69) : List Int := if openP p v && isX l then (l.filter (fun x => !whole (v.take 1) [x] p)).map (·.f0) else []
theorem eqXs_len {l m : List S69} : l.length ≠ m.length → eqXs l m = false := by
  induction l generalizing m with
  | nil =>
    intro h
    cases m with
    | nil => exact absurd rfl h
    | cons b m => rfl
  | cons a l ih =>
    intro h
    cases m with
    | nil => rfl
    | cons b m =>
      simp only [eqXs]
      rw [ih (by simpa using h), Bool.and_false]
theorem kept_len (b : S50) (l : List S69) : (kept b l).length ≤ l.length := List.length_filter_le _ _
theorem kept_ok {b : S50} {l : List S69} (h : okXs l) : okXs (kept b l) := fun x hx => h x (List.mem_filter.mp hx).1
theorem pass_ok (b : S50) (v : List Int) (l : List S69) (h : okXs l) : (pass b v l).1.length ≤ v.length ∧ (pass b v l).2.1.length ≤ l.length ∧ okXs (pass b v l).2.1 := by
  unfold pass
  split
  · exact ⟨Nat.le_refl _, kept_len b l, kept_ok h⟩
  · exact ⟨Nat.zero_le _, Nat.zero_le _, fun x hx => by cases hx⟩
theorem goP_ok (p : List S50) : ∀ (o : Bool) (v : List Int) (l : List S69), okXs l → (goP p o v l).1.length ≤ v.length ∧ (goP p o v l).2.1.length ≤ l.length ∧ okXs (goP p o v l).2.1 := by
  induction p with
  | nil =>
    intro o v l h
    exact ⟨Nat.le_refl _, Nat.le_refl _, h⟩
  | cons b p ih =>
    intro o v l h
    unfold goP
    split
    · obtain ⟨a1, a2, a3⟩ := pass_ok b v l h
      obtain ⟨b1, b2, b3⟩ := ih (pass b v l).2.2 (pass b v l).1 (pass b v l).2.1 a3
      exact ⟨Nat.le_trans b1 a1, Nat.le_trans b2 a2, b3⟩
    · exact ⟨Nat.le_refl _, Nat.le_refl _, h⟩
theorem passP_ok (p : List S50) (v : List Int) (l : List S69) (h : okXs l) : (passP p v l).1.length ≤ v.length ∧ (passP p v l).2.1.length ≤ l.length ∧ okXs (passP p v l).2.1 := by
  unfold passP
  split
  · exact goP_ok p true v l h
  · exact ⟨Nat.zero_le _, Nat.zero_le _, fun x hx => by cases hx⟩
end Go.Proofs.Ytpoandlbmaljhaa.Plain

/- The versions that a path loses. No program. No condition. -/
set_option linter.unusedSimpArgs false
set_option linter.unusedVariables false
namespace Go.Proofs.Ytpoandlbmaljhaa.Plain
open Go.RowKit Go.Proofs.YtpoandlbmaljhaaW.PrintWords Go.Proofs.Ytpoandlbmaljhaa.Base Go.Proofs.Ytpoandlbmaljhaa.Print

def lostV (p : List S50) (v : List Int) : List Int := if areV v then v.filter (fun x => !(passP p [x] []).2.2) else []
/-- The first without the second. -/
def wo (a b : List Int) : List Int := a.filter (fun x => !mem b x)
theorem wo_len (a b : List Int) : (wo a b).length ≤ a.length := List.length_filter_le _ _
theorem lostV_len (p : List S50) (v : List Int) : (lostV p v).length ≤ v.length := by
  unfold lostV
  split
  · exact List.length_filter_le _ _
  · exact Nat.zero_le _
/-- A version is a list of versions by itself. -/
theorem areV_one {v : List Int} (h : areV v = true) {x : Int} (hx : x ∈ v) : areV [x] = true := by
  have := areV_mem h x hx
  simp only [areV, vers, Bool.and_true, Bool.and_eq_true, inR_true, decide_eq_true_eq]
  exact ⟨⟨⟨by omega, by omega⟩, by omega⟩, by simp⟩
/-- The reference asks whether the path is open for a version alone. -/
theorem openP_one {p : List S50} {x : Int} (h : areV [x] = true) : openP p [x] = (passP p [x] []).2.2 := by
  unfold openP
  rw [h]
  rfl
end Go.Proofs.Ytpoandlbmaljhaa.Plain

/- ExtOf, AreExts and IsHello, of the program. Condition: at most 10 to the 12 of each. -/
set_option linter.unusedSimpArgs false
set_option linter.unusedVariables false
namespace Go.Proofs.Ytpoandlbmaljhaa.Plain
open Go.RowKit Go.Proofs.YtpoandlbmaljhaaW.PrintWords Go.Proofs.Ytpoandlbmaljhaa.Base Go.Proofs.Ytpoandlbmaljhaa.Print

theorem implExtOf_l0 (t : Int) (suf : List S69) : ∀ (pre : List S69), (pre ++ suf).length ≤ 1000000000000 →
    ∃ r, slices_IndexFunc_impl_Ext_impl_Ext_with_impl_ExtOf_1.l0v (pre ++ suf) ((pre ++ suf).length : Int) (pre.length : Int) t = some r ∧ decide (r ≥ 0) = hasT suf t := by
  induction suf with
  | nil =>
    intro pre _
    refine ⟨-1, ?_, by simp [hasT]⟩
    rw [slices_IndexFunc_impl_Ext_impl_Ext_with_impl_ExtOf_1.l0v_eq, if_neg (nlt_end pre)]
  | cons x suf ih =>
    intro pre hl
    have hn : pre.length < (pre ++ x :: suf).length := by simp
    rw [slices_IndexFunc_impl_Ext_impl_Ext_with_impl_ExtOf_1.l0v_eq, if_pos (lt_mid pre suf x), if_pos (by omega), if_pos (lt_mid pre suf x), rdExt_mid]
    unfold impl_ExtOf_1.f
    simp only [Option.bind_some, beq_iff_eq]
    by_cases hx : x.f0 = t
    · rw [if_pos hx]
      exact ⟨(pre.length : Int), rfl, by simp [hasT, hx]⟩
    · rw [if_neg hx, up_mid pre x hn hl]
      rw [mid_snoc pre suf x] at hl ⊢
      obtain ⟨r, h1, h2⟩ := ih (pre ++ [x]) hl
      exact ⟨r, h1, by rw [h2]; simp [hasT, hx]⟩
theorem implExtOf_ex (l : List S69) (t : Int) (hl : l.length ≤ 1000000000000) : ∃ r, impl_ExtOf.fv l t = some r ∧ decide (r ≥ 0) = hasT l t := by
  obtain ⟨r, h1, h2⟩ := implExtOf_l0 t l [] (by simpa using hl)
  refine ⟨r, ?_, h2⟩
  rw [impl_ExtOf.fv_eq, slices_IndexFunc_impl_Ext_impl_Ext_with_impl_ExtOf_1.fv_eq]
  simp only [List.nil_append, List.length_nil, Int.natCast_zero] at h1
  rw [h1]
  rfl
theorem implExts_l0 (suf : List S69) : ∀ (pre : List S69), (pre ++ suf).length ≤ 1000000000000 → okXs suf →
    impl_AreExts.l0v (pre ++ suf) (pre ++ suf) ((pre ++ suf).length : Int) (pre.length : Int) = some (areX pre suf && decide ((pre ++ suf).length ≤ 6)) := by
  induction suf with
  | nil =>
    intro pre _ _
    rw [impl_AreExts.l0v_eq, if_neg (nlt_end pre)]
    simp only [areX, Bool.true_and, show (((pre ++ []).length : Int) ≤ 6) ↔ ((pre ++ []).length ≤ 6) from by omega]
  | cons x suf ih =>
    intro pre hl hs
    have hn : pre.length < (pre ++ x :: suf).length := by simp
    have ht : (pre ++ x :: suf).take ((pre.length : Int)).toNat = pre := by simp
    obtain ⟨r, e1, e2⟩ := implExtOf_ex pre x.f0 (by omega)
    have h1 := ih (pre ++ [x]) (by simpa using hl) (fun y hy => hs y (List.mem_cons_of_mem _ hy))
    rw [← mid_snoc pre suf x] at h1
    rw [impl_AreExts.l0v_eq, if_pos (lt_mid pre suf x), if_pos (by omega), if_pos (lt_mid pre suf x), rdExt_mid, inRange_f, ht, e1, areNumbers_v _ _ _ (hs x List.mem_cons_self), up_mid pre x hn hl, h1]
    simp only [Option.bind_some, areX]
    rw [← e2]
    generalize areX (pre ++ [x]) suf = z
    generalize decide ((pre ++ x :: suf).length ≤ 6) = q
    generalize x.f1.all (inR 0 255) = y
    cases inR 0 255 x.f0 with
    | false => simp
    | true =>
      rw [if_pos rfl, if_pos (by omega)]
      by_cases h2 : r ≥ 0
      · simp [h2]
      · by_cases h3 : x.f1.length ≤ 4
        · rw [if_neg h2, if_neg (by omega)]
          cases y <;> simp [h2, h3]
        · rw [if_neg h2, if_pos (by omega)]
          simp [h3]
theorem implExts_v (l : List S69) (hl : l.length ≤ 1000000000000) (hs : okXs l) : impl_AreExts.fv l = some (isX l) := by
  rw [impl_AreExts.fv_eq]
  simpa [isX] using implExts_l0 l [] (by simpa using hl) hs
theorem implHello_v (v : List Int) (l : List S69) (hv : v.length ≤ 1000000000000) (hl : l.length ≤ 1000000000000) (hs : okXs l) : impl_IsHello.fv v l = some (isH v l) := by
  rw [impl_IsHello.fv_eq, implVers_v v hv, implExts_v l hl hs]
  simp only [Option.bind_some, isH]
  cases areV v <;> simp
end Go.Proofs.Ytpoandlbmaljhaa.Plain

/- slices.Contains on whole numbers. Condition: at most 10 to the 12 numbers. -/
set_option linter.unusedSimpArgs false
set_option linter.unusedVariables false
namespace Go.Proofs.Ytpoandlbmaljhaa.Plain
open Go.RowKit Go.Proofs.YtpoandlbmaljhaaW.PrintWords Go.Proofs.Ytpoandlbmaljhaa.Base Go.Proofs.Ytpoandlbmaljhaa.Print

theorem slIndex_l0 (x : Int) (suf : List Int) : ∀ (pre : List Int), (pre ++ suf).length ≤ 1000000000000 →
    ∃ r, slices_Index_int_int.l0v (pre ++ suf) x ((pre ++ suf).length : Int) (pre.length : Int) = some r ∧ decide (r ≥ 0) = mem suf x := by
  induction suf with
  | nil =>
    intro pre _
    refine ⟨-1, ?_, by simp [mem]⟩
    rw [slices_Index_int_int.l0v_eq, if_neg (nlt_end pre)]
  | cons y suf ih =>
    intro pre hl
    have hn : pre.length < (pre ++ y :: suf).length := by simp
    rw [slices_Index_int_int.l0v_eq, if_pos (lt_mid pre suf y), if_pos (by omega), if_pos (lt_mid pre suf y), rd_mid]
    by_cases hxy : x = y
    · rw [if_pos hxy]
      refine ⟨(pre.length : Int), rfl, ?_⟩
      rw [mem_cons, hxy]
      simp
    · rw [if_neg hxy, up_mid pre y hn hl]
      rw [mid_snoc pre suf y] at hl ⊢
      obtain ⟨r, h1, h2⟩ := ih (pre ++ [y]) hl
      refine ⟨r, h1, ?_⟩
      rw [h2, mem_cons]
      simp [show ¬ y = x from fun e => hxy e.symm]
theorem slHas_v (l : List Int) (x : Int) (hl : l.length ≤ 1000000000000) : slices_Contains_int_int.fv l x = some (mem l x) := by
  obtain ⟨r, h1, h2⟩ := slIndex_l0 x l [] (by simpa using hl)
  rw [slices_Contains_int_int.fv_eq, slices_Index_int_int.fv_eq]
  simp only [List.nil_append, List.length_nil, Int.natCast_zero] at h1
  rw [h1]
  simp [h2]
end Go.Proofs.Ytpoandlbmaljhaa.Plain

/- PassBox, of the program. Condition: at most 10 to the 12 of each. -/
set_option linter.unusedSimpArgs false
set_option linter.unusedVariables false
namespace Go.Proofs.Ytpoandlbmaljhaa.Plain
open Go.RowKit Go.Proofs.YtpoandlbmaljhaaW.PrintWords Go.Proofs.Ytpoandlbmaljhaa.Base Go.Proofs.Ytpoandlbmaljhaa.Print

theorem slMax_l0 (suf : List Int) : ∀ (pre : List Int) (m : Int), (pre ++ suf).length ≤ 1000000000000 → vers m suf = true → slices_Max_int_int.l0v (pre ++ suf) m (pre.length : Int) = some (suf.getLastD m) := by
  induction suf with
  | nil =>
    intro pre m _ _
    rw [slices_Max_int_int.l0v_eq, if_neg (nlt_end pre)]
    rfl
  | cons x suf ih =>
    intro pre m hl hv
    have hn : pre.length < (pre ++ x :: suf).length := by simp
    simp only [vers, Bool.and_eq_true, decide_eq_true_eq] at hv
    have hm : mx m x = x := by
      unfold mx
      split <;> omega
    rw [slices_Max_int_int.l0v_eq, if_pos (lt_mid pre suf x), if_pos (by omega), rd_mid, up_mid pre x hn hl, hm]
    rw [mid_snoc pre suf x] at hl ⊢
    rw [ih (pre ++ [x]) x hl hv.2.2, lastD_cons]
theorem slMax_v (l : List Int) (hl : l.length ≤ 1000000000000) (h : areV l = true) : slices_Max_int_int.fv l = some (l.getLastD 0) := by
  cases l with
  | nil => simp [areV] at h
  | cons x l =>
    simp only [areV, vers, Bool.and_eq_true] at h
    have h1 := slMax_l0 l [x] x (by simpa using hl) h.1.2.2
    have h0 : rd (x :: l) 0 = x := by simp [rd]
    rw [slices_Max_int_int.fv_eq, if_neg (by simp only [List.length_cons]; omega), if_pos (by simp only [List.length_cons]; omega), h0, lastD_cons]
    simpa using h1
theorem slClone_f (l : List Int) (hl : l.length ≤ 1000000000000) : slices_Clone_int_int.f l = some l := by
  unfold slices_Clone_int_int.f
  simp only [Option.bind_some, List.nil_append, List.length_nil, Nat.zero_add]
  rw [if_pos (by omega)]
theorem implLose1_v (b : S50) (t : Int) (l : List Int) (h : okB b) : impl_loses_1.fv t l b.f0 b.f1 b.f2 b.f3 = some (drops b t) := by
  rw [impl_loses_1.fv_eq, slHas_v _ _ h.1, slHas_v _ _ h.2, inRange_f]
  simp only [Option.bind_some, drops]
  generalize mem b.f1 t = x
  generalize mem b.f2 t = y
  generalize inR 1 3 t = z
  generalize b.f3 = u
  cases x <;> cases y <;> cases z <;> cases u <;> rfl
theorem implLose_l0 (b : S50) (h : okB b) (suf : List S69) : ∀ (pre : List S69), (pre ++ suf).length ≤ 1000000000000 →
    ∃ r, slices_IndexFunc_impl_Ext_impl_Ext_with_impl_loses_1.l0v (pre ++ suf) ((pre ++ suf).length : Int) (pre.length : Int) b.f0 b.f1 b.f2 b.f3 = some r ∧ decide (r ≥ 0) = suf.any (fun x => drops b x.f0) := by
  induction suf with
  | nil =>
    intro pre _
    refine ⟨-1, ?_, by simp⟩
    rw [slices_IndexFunc_impl_Ext_impl_Ext_with_impl_loses_1.l0v_eq, if_neg (nlt_end pre)]
  | cons x suf ih =>
    intro pre hl
    have hn : pre.length < (pre ++ x :: suf).length := by simp
    rw [slices_IndexFunc_impl_Ext_impl_Ext_with_impl_loses_1.l0v_eq, if_pos (lt_mid pre suf x), if_pos (by omega), if_pos (lt_mid pre suf x), rdExt_mid, implLose1_v b _ _ h]
    simp only [Option.bind_some, List.any_cons]
    cases hx : drops b x.f0 with
    | true =>
      rw [if_pos rfl]
      exact ⟨(pre.length : Int), rfl, by simp⟩
    | false =>
      rw [if_neg (by simp), up_mid pre x hn hl]
      rw [mid_snoc pre suf x] at hl ⊢
      obtain ⟨r, h1, h2⟩ := ih (pre ++ [x]) hl
      exact ⟨r, h1, by rw [h2]; rfl⟩
theorem implLoseX_v (b : S50) (h : okB b) (l : List S69) (hl : l.length ≤ 1000000000000) : slices_ContainsFunc_impl_Ext_impl_Ext_with_impl_loses_1.fv l b.f0 b.f1 b.f2 b.f3 = some (l.any (fun x => drops b x.f0)) := by
  obtain ⟨r, h1, h2⟩ := implLose_l0 b h l [] (by simpa using hl)
  rw [slices_ContainsFunc_impl_Ext_impl_Ext_with_impl_loses_1.fv_eq, slices_IndexFunc_impl_Ext_impl_Ext_with_impl_loses_1.fv_eq]
  simp only [List.nil_append, List.length_nil, Int.natCast_zero] at h1
  rw [h1]
  simp only [Option.bind_some, h2]
theorem implLose_v (b : S50) (v : List Int) (l : List S69) (h : okB b) (hv : v.length ≤ 1000000000000) (hl : l.length ≤ 1000000000000) (ha : areV v = true) : impl_loses.fv b.f0 b.f1 b.f2 b.f3 v l = some (lose b v l) := by
  rw [impl_loses.fv_eq, implLoseX_v b h l hl, slMax_v v hv ha]
  simp only [Option.bind_some, lose]
  by_cases h0 : b.f0 = 0
  · simp [h0]
  · by_cases h1 : v.getLastD 0 > b.f0
    · rw [if_neg h0, if_pos h1]
      simp only [h0, h1, decide_true, decide_false, Bool.not_false, Bool.and_self, Bool.true_or]
    · rw [if_neg h0, if_neg h1]
      simp only [h1, decide_false, Bool.and_false, Bool.false_or]
theorem implKept_l0 (b : S50) (h : okB b) (suf : List S69) : ∀ (pre out : List S69), (pre ++ suf).length ≤ 1000000000000 → out.length ≤ pre.length → okXs suf →
    impl_keptExts_with_impl_PassBox_1.l0v out (pre ++ suf) ((pre ++ suf).length : Int) (pre.length : Int) b.f0 b.f1 b.f2 b.f3 = some (out ++ kept b suf) := by
  induction suf with
  | nil =>
    intro pre out _ _ _
    rw [impl_keptExts_with_impl_PassBox_1.l0v_eq, if_neg (nlt_end pre)]
    simp [kept]
  | cons x suf ih =>
    intro pre out hl ho hs
    have hn : pre.length < (pre ++ x :: suf).length := by simp
    have hp : pre.length < 1000000000000 := by omega
    have hx := hs x List.mem_cons_self
    have hs' : okXs suf := fun y hy => hs y (List.mem_cons_of_mem _ hy)
    rw [impl_keptExts_with_impl_PassBox_1.l0v_eq, if_pos (lt_mid pre suf x), if_pos (by omega), if_pos (lt_mid pre suf x), rdExt_mid, impl_PassBox_1.fv_eq, slHas_v _ _ h.2, up_mid pre x hn hl]
    simp only [Option.bind_some, List.nil_append, List.length_nil, Nat.zero_add]
    rw [mid_snoc pre suf x] at hl ⊢
    cases hm : mem b.f2 x.f0 with
    | true =>
      rw [if_neg (by simp), ih (pre ++ [x]) out hl (by simp; omega) hs']
      simp [kept, hm]
    | false =>
      rw [if_pos (show (!false) = true from rfl), if_pos (by omega), if_pos (by omega), ih (pre ++ [x]) _ hl (by simp; omega) hs']
      simp [kept, hm]
theorem implKept_v (b : S50) (h : okB b) (l : List S69) (hl : l.length ≤ 1000000000000) (hs : okXs l) : impl_keptExts_with_impl_PassBox_1.fv l b.f0 b.f1 b.f2 b.f3 = some (kept b l) := by
  rw [impl_keptExts_with_impl_PassBox_1.fv_eq]
  simpa using implKept_l0 b h l [] [] (by simpa using hl) (by simp) hs
theorem implPass_v (b : S50) (v : List Int) (l : List S69) (h : okB b) (hv : v.length ≤ 1000000000000) (hl : l.length ≤ 1000000000000) (hs : okXs l) : impl_PassBox.fv b.f0 b.f1 b.f2 b.f3 v l = some (pass b v l) := by
  rw [impl_PassBox.fv_eq, implIsB_v b h, implHello_v v l hv hl hs]
  simp only [Option.bind_some, impl_PassBox.j0v_eq, slClone_f v hv, implKept_v b h l hl hs, pass]
  cases isB b with
  | false => simp
  | true =>
    cases hh : isH v l with
    | false => simp
    | true =>
      have ha : areV v = true := by
        simp only [isH, Bool.and_eq_true] at hh
        exact hh.1
      rw [if_pos rfl, if_pos rfl, implLose_v b v l h hv hl ha]
      simp only [Option.bind_some]
      cases lose b v l <;> simp
end Go.Proofs.Ytpoandlbmaljhaa.Plain

/- PassPath, of the program. Condition: at most 10 to the 12 of each. -/
set_option linter.unusedSimpArgs false
set_option linter.unusedVariables false
namespace Go.Proofs.Ytpoandlbmaljhaa.Plain
open Go.RowKit Go.Proofs.YtpoandlbmaljhaaW.PrintWords Go.Proofs.Ytpoandlbmaljhaa.Base Go.Proofs.Ytpoandlbmaljhaa.Print

theorem implCopy_l0 (suf : List S69) : ∀ (pre out : List S69), (pre ++ suf).length ≤ 1000000000000 → out.length ≤ pre.length → okXs suf →
    impl_keptExts_with_impl_copyExts_1.l0v out (pre ++ suf) ((pre ++ suf).length : Int) (pre.length : Int) = some (out ++ suf) := by
  induction suf with
  | nil =>
    intro pre out _ _ _
    rw [impl_keptExts_with_impl_copyExts_1.l0v_eq, if_neg (nlt_end pre)]
    simp
  | cons x suf ih =>
    intro pre out hl ho hs
    have hn : pre.length < (pre ++ x :: suf).length := by simp
    have hp : pre.length < 1000000000000 := by omega
    have hx := hs x List.mem_cons_self
    have hs' : okXs suf := fun y hy => hs y (List.mem_cons_of_mem _ hy)
    rw [impl_keptExts_with_impl_copyExts_1.l0v_eq, if_pos (lt_mid pre suf x), if_pos (by omega), if_pos (lt_mid pre suf x), rdExt_mid, up_mid pre x hn hl]
    unfold impl_copyExts_1.f
    simp only [Option.bind_some, List.nil_append, List.length_nil, Nat.zero_add, if_true]
    rw [mid_snoc pre suf x] at hl ⊢
    rw [if_pos (by omega), if_pos (by omega), ih (pre ++ [x]) _ hl (by simp; omega) hs']
    simp
theorem implCopyH_v (v : List Int) (l : List S69) (hv : v.length ≤ 1000000000000) (hl : l.length ≤ 1000000000000) (hs : okXs l) : impl_copyHello.fv v l = some (v, l) := by
  have h := implCopy_l0 l [] [] (by simpa using hl) (by simp) hs
  simp only [List.nil_append, List.length_nil, Int.natCast_zero] at h
  rw [impl_copyHello.fv_eq, impl_copyExts.fv_eq, impl_keptExts_with_impl_copyExts_1.fv_eq]
  simp only [Option.bind_some, List.nil_append, List.length_nil, Nat.zero_add, h, show v.length < 17592186044416 by omega, if_true]
theorem implGoP_l0 (suf : List S50) : ∀ (pre : List S50) (o : Bool) (v : List Int) (l : List S69), (pre ++ suf).length ≤ 1000000000000 → (∀ x ∈ suf, okB x) → v.length ≤ 1000000000000 → l.length ≤ 1000000000000 → okXs l →
    impl_PassPath.l0v (pre ++ suf) o (pre.length : Int) v l = some (goP suf o v l) := by
  induction suf with
  | nil =>
    intro pre o v l _ _ _ _ _
    rw [impl_PassPath.l0v_eq, if_neg (nlt_end pre)]
    rfl
  | cons b suf ih =>
    intro pre o v l hp hs hv hl hx
    have hn : pre.length < (pre ++ b :: suf).length := by simp
    rw [impl_PassPath.l0v_eq, if_pos (lt_mid pre suf b)]
    cases o with
    | false =>
      rw [if_neg (by simp)]
      rfl
    | true =>
      obtain ⟨a1, a2, a3⟩ := pass_ok b v l hx
      rw [if_pos rfl, if_pos (by omega), rdBox_mid, implPass_v b v l (hs b List.mem_cons_self) hv hl hx, up_mid pre b hn hp]
      simp only [Option.bind_some]
      rw [mid_snoc pre suf b] at hp ⊢
      rw [ih (pre ++ [b]) _ _ _ hp (fun y hy => hs y (List.mem_cons_of_mem _ hy)) (by omega) (by omega) a3]
      rfl
theorem implPassP_v (p : List S50) (v : List Int) (l : List S69) (hp : p.length ≤ 1000000000000) (hs : ∀ x ∈ p, okB x) (hv : v.length ≤ 1000000000000) (hl : l.length ≤ 1000000000000) (hx : okXs l) : impl_PassPath.fv p v l = some (passP p v l) := by
  have h := implGoP_l0 p [] true v l (by simpa using hp) hs hv hl hx
  simp only [List.nil_append, List.length_nil, Int.natCast_zero] at h
  rw [impl_PassPath.fv_eq, implHello_v v l hv hl hx]
  simp only [Option.bind_some, impl_PassPath.j0v_eq, implCopyH_v v l hv hl hx, h, passP]
  cases isH v l with
  | false => simp
  | true =>
    by_cases h4 : p.length ≤ 4
    · rw [if_pos rfl, if_neg (by simp; omega)]
      simp [h4]
    · rw [if_pos rfl, if_pos (by simp; omega)]
      simp [h4]
end Go.Proofs.Ytpoandlbmaljhaa.Plain

/- LostVersions and without, of the program. Condition: at most 10 to the 12 of each. -/
set_option linter.unusedSimpArgs false
set_option linter.unusedVariables false
namespace Go.Proofs.Ytpoandlbmaljhaa.Plain
open Go.RowKit Go.Proofs.YtpoandlbmaljhaaW.PrintWords Go.Proofs.Ytpoandlbmaljhaa.Base Go.Proofs.Ytpoandlbmaljhaa.Print

theorem implPlain_f (v : List Int) (hv : v.length ≤ 1000000000000) : impl_PlainHello.f v = some (v, []) := by
  unfold impl_PlainHello.f
  simp only [Option.bind_some, List.nil_append, List.length_nil, Nat.zero_add]
  rw [if_pos (by omega)]
theorem implLostV_l0 (p : List S50) (hp : p.length ≤ 1000000000000) (hs : ∀ x ∈ p, okB x) (suf : List Int) : ∀ (pre out : List Int), (pre ++ suf).length ≤ 1000000000000 → out.length ≤ pre.length →
    impl_LostVersions.l0v p out (pre ++ suf) ((pre ++ suf).length : Int) (pre.length : Int) = some (out ++ suf.filter (fun x => !(passP p [x] []).2.2)) := by
  induction suf with
  | nil =>
    intro pre out _ _
    rw [impl_LostVersions.l0v_eq, if_neg (nlt_end pre)]
    simp
  | cons x suf ih =>
    intro pre out hl ho
    have hn : pre.length < (pre ++ x :: suf).length := by simp
    have hq : pre.length < 1000000000000 := by omega
    rw [impl_LostVersions.l0v_eq, if_pos (lt_mid pre suf x), if_pos (by omega), if_pos (lt_mid pre suf x), rd_mid, implPlain_f [x] (by simp), up_mid pre x hn hl]
    simp only [Option.bind_some]
    rw [implPassP_v p [x] [] hp hs (by simp) (by simp) (fun x hx => by cases hx)]
    simp only [Option.bind_some]
    rw [mid_snoc pre suf x] at hl ⊢
    cases hw : (passP p [x] []).2.2 with
    | true =>
      rw [if_pos rfl, ih (pre ++ [x]) out hl (by simp; omega)]
      simp [hw]
    | false =>
      rw [if_neg (by simp), if_pos (by omega), ih (pre ++ [x]) _ hl (by simp; omega)]
      simp [hw]
theorem implLostV_v (p : List S50) (v : List Int) (hp : p.length ≤ 1000000000000) (hs : ∀ x ∈ p, okB x) (hv : v.length ≤ 1000000000000) : impl_LostVersions.fv p v = some (lostV p v) := by
  have h := implLostV_l0 p hp hs v [] [] (by simpa using hv) (by simp)
  simp only [List.nil_append, List.length_nil, Int.natCast_zero] at h
  rw [impl_LostVersions.fv_eq, implVers_v v hv]
  simp only [Option.bind_some, h, lostV]
  cases areV v <;> simp
theorem implWo_l0 (b : List Int) (hb : b.length ≤ 1000000000000) (suf : List Int) : ∀ (pre out : List Int), (pre ++ suf).length ≤ 1000000000000 → out.length ≤ pre.length →
    impl_without.l0v b out (pre ++ suf) ((pre ++ suf).length : Int) (pre.length : Int) = some (out ++ wo suf b) := by
  induction suf with
  | nil =>
    intro pre out _ _
    rw [impl_without.l0v_eq, if_neg (nlt_end pre)]
    simp [wo]
  | cons x suf ih =>
    intro pre out hl ho
    have hn : pre.length < (pre ++ x :: suf).length := by simp
    have hp : pre.length < 1000000000000 := by omega
    rw [impl_without.l0v_eq, if_pos (lt_mid pre suf x), if_pos (by omega), if_pos (lt_mid pre suf x), rd_mid, slHas_v b x hb, up_mid pre x hn hl]
    simp only [Option.bind_some]
    rw [mid_snoc pre suf x] at hl ⊢
    cases hx : mem b x with
    | true =>
      rw [if_pos rfl, ih (pre ++ [x]) out hl (by simp; omega)]
      simp [wo, hx]
    | false =>
      rw [if_neg (by simp), if_pos (by omega), ih (pre ++ [x]) (out ++ [x]) hl (by simp; omega)]
      simp [wo, hx]
theorem implWo_v (a b : List Int) (ha : a.length ≤ 1000000000000) (hb : b.length ≤ 1000000000000) : impl_without.fv a b = some (wo a b) := by
  rw [impl_without.fv_eq]
  simpa using implWo_l0 b hb a [] [] (by simpa using ha) (by simp)
end Go.Proofs.Ytpoandlbmaljhaa.Plain

/- ExtOf, AreExts and IsHello, of the reference. Condition: at most 10 to the 12 of each. -/
set_option linter.unusedSimpArgs false
set_option linter.unusedVariables false
namespace Go.Proofs.Ytpoandlbmaljhaa.Plain
open Go.RowKit Go.Proofs.YtpoandlbmaljhaaW.PrintWords Go.Proofs.Ytpoandlbmaljhaa.Base Go.Proofs.Ytpoandlbmaljhaa.Print

/-- The first extension with a tag is behind these, or among them. -/
theorem specExtOf_l0 (t : Int) (n : Nat) (suf : List S69) : ∀ (pre : List S69), (pre ++ suf).length ≤ 1000000000000 → (∃ x, suf[n]? = some x ∧ x.f0 = t) →
    ∃ r, spec_ExtOf.l0v (pre ++ suf) t (pre.length : Int) = some r ∧ decide (r < ((pre.length + n : Nat) : Int)) = hasT (suf.take n) t := by
  induction n generalizing suf with
  | zero =>
    intro pre hl hx
    obtain ⟨x, hx, ht⟩ := hx
    cases suf with
    | nil => simp at hx
    | cons y suf =>
      obtain rfl : y = x := by simpa using hx
      rw [spec_ExtOf.l0v_eq, if_pos (lt_mid pre suf y), if_pos (by omega), rdExt_mid, if_pos ht]
      exact ⟨_, rfl, by simp [hasT]⟩
  | succ n ih =>
    intro pre hl hx
    cases suf with
    | nil =>
      obtain ⟨x, hx, _⟩ := hx
      simp at hx
    | cons y suf =>
      have hn : pre.length < (pre ++ y :: suf).length := by simp
      rw [spec_ExtOf.l0v_eq, if_pos (lt_mid pre suf y), if_pos (by omega), rdExt_mid]
      by_cases hy : y.f0 = t
      · rw [if_pos hy]
        refine ⟨_, rfl, ?_⟩
        simp only [List.take_succ_cons, hasT, List.any_cons, hy, decide_true, Bool.true_or, decide_eq_true_eq]
        omega
      · rw [if_neg hy, up_mid pre y hn hl]
        rw [mid_snoc pre suf y] at hl ⊢
        obtain ⟨r, h1, h2⟩ := ih suf (pre ++ [y]) hl (by simpa using hx)
        refine ⟨r, h1, ?_⟩
        simp only [List.length_append, List.length_cons, List.length_nil] at h2
        rw [show pre.length + (n + 1) = pre.length + (0 + 1) + n by omega, h2]
        simp [hasT, hy]
theorem specExtOf_ex (pre suf : List S69) (x : S69) (hl : (pre ++ x :: suf).length ≤ 1000000000000) : ∃ r, spec_ExtOf.fv (pre ++ x :: suf) x.f0 = some r ∧ decide (r < (pre.length : Int)) = hasT pre x.f0 := by
  obtain ⟨r, h1, h2⟩ := specExtOf_l0 x.f0 pre.length (pre ++ x :: suf) [] (by simpa using hl) ⟨x, by simp, rfl⟩
  refine ⟨r, ?_, ?_⟩
  · rw [spec_ExtOf.fv_eq]
    simpa using h1
  · simpa using h2
theorem specExts_l0 (suf : List S69) : ∀ (pre : List S69), (pre ++ suf).length ≤ 1000000000000 → okXs suf →
    spec_AreExts.l0v (pre ++ suf) (pre.length : Int) = some (areX pre suf && decide ((pre ++ suf).length ≤ 6)) := by
  induction suf with
  | nil =>
    intro pre _ _
    rw [spec_AreExts.l0v_eq, if_neg (nlt_end pre)]
    simp only [areX, Bool.true_and, show (((pre ++ []).length : Int) ≤ 6) ↔ ((pre ++ []).length ≤ 6) from by omega]
  | cons x suf ih =>
    intro pre hl hs
    have hn : pre.length < (pre ++ x :: suf).length := by simp
    obtain ⟨r, e1, e2⟩ := specExtOf_ex pre suf x hl
    have h1 := ih (pre ++ [x]) (by simpa using hl) (fun y hy => hs y (List.mem_cons_of_mem _ hy))
    rw [← mid_snoc pre suf x] at h1
    rw [spec_AreExts.l0v_eq, if_pos (lt_mid pre suf x), if_pos (by omega), rdExt_mid, l1In_f, e1, specByte_v _ (hs x List.mem_cons_self), up_mid pre x hn hl, h1]
    simp only [Option.bind_some, areX]
    rw [← e2]
    generalize areX (pre ++ [x]) suf = z
    generalize decide ((pre ++ x :: suf).length ≤ 6) = q
    generalize x.f1.all (inR 0 255) = y
    cases inR 0 255 x.f0 with
    | false => simp
    | true =>
      rw [if_pos rfl]
      by_cases h3 : x.f1.length ≤ 4
      · rw [if_neg (by omega)]
        by_cases h2 : r < (pre.length : Int) <;> cases y <;> simp [h2, h3]
      · rw [if_pos (by omega)]
        simp [h3]
theorem specExts_v (l : List S69) (hl : l.length ≤ 1000000000000) (hs : okXs l) : spec_AreExts.fv l = some (isX l) := by
  rw [spec_AreExts.fv_eq]
  simpa [isX] using specExts_l0 l [] (by simpa using hl) hs
theorem specHello_v (v : List Int) (l : List S69) (hv : v.length ≤ 1000000000000) (hl : l.length ≤ 1000000000000) (hs : okXs l) : spec_IsHello.fv v l = some (isH v l) := by
  rw [spec_IsHello.fv_eq, specVers_v v hv, specExts_v l hl hs]
  simp only [Option.bind_some, isH]
  cases areV v <;> simp
end Go.Proofs.Ytpoandlbmaljhaa.Plain

/- Membership, of the reference. Condition: at most 10 to the 12 numbers. -/
set_option linter.unusedSimpArgs false
set_option linter.unusedVariables false
namespace Go.Proofs.Ytpoandlbmaljhaa.Plain
open Go.RowKit Go.Proofs.YtpoandlbmaljhaaW.PrintWords Go.Proofs.Ytpoandlbmaljhaa.Base Go.Proofs.Ytpoandlbmaljhaa.Print

theorem l9Has_l0 (x : Int) (suf : List Int) : ∀ (pre : List Int), (pre ++ suf).length ≤ 1000000000000 →
    spec_l9Has.l0v (pre ++ suf) x (pre.length : Int) = some (mem suf x) := by
  induction suf with
  | nil =>
    intro pre _
    rw [spec_l9Has.l0v_eq, if_neg (nlt_end pre)]
    simp [mem]
  | cons y suf ih =>
    intro pre hl
    have hn : pre.length < (pre ++ y :: suf).length := by simp
    rw [spec_l9Has.l0v_eq, if_pos (lt_mid pre suf y), if_pos (by omega), rd_mid, mem_cons]
    by_cases hxy : y = x
    · rw [if_pos hxy]
      simp [hxy]
    · rw [if_neg hxy, up_mid pre y hn hl]
      rw [mid_snoc pre suf y] at hl ⊢
      rw [ih (pre ++ [y]) hl]
      simp [hxy]
theorem l9Has_v (l : List Int) (x : Int) (hl : l.length ≤ 1000000000000) : spec_l9Has.fv l x = some (mem l x) := by
  rw [spec_l9Has.fv_eq]
  simpa using l9Has_l0 x l [] (by simpa using hl)
end Go.Proofs.Ytpoandlbmaljhaa.Plain

/- PassBox, of the reference. Condition: at most 10 to the 12 of each. -/
set_option linter.unusedSimpArgs false
set_option linter.unusedVariables false
namespace Go.Proofs.Ytpoandlbmaljhaa.Plain
open Go.RowKit Go.Proofs.YtpoandlbmaljhaaW.PrintWords Go.Proofs.Ytpoandlbmaljhaa.Base Go.Proofs.Ytpoandlbmaljhaa.Print

theorem specPass_l0 (b : S50) (v v' : List Int) (h : okB b) (suf : List S69) : ∀ (pre out : List S69), (pre ++ suf).length ≤ 1000000000000 → out.length ≤ pre.length → okXs suf →
    spec_PassBox.l0v (pre.length : Int) b.f0 b.f1 b.f2 b.f3 v (pre ++ suf) v' out = some (if suf.any (fun x => drops b x.f0) then ([], [], false) else (v', out ++ kept b suf, true)) := by
  induction suf with
  | nil =>
    intro pre out _ _ _
    rw [spec_PassBox.l0v_eq, if_neg (nlt_end pre)]
    simp [kept]
  | cons x suf ih =>
    intro pre out hl ho hs
    have hn : pre.length < (pre ++ x :: suf).length := by simp
    have hp : pre.length < 1000000000000 := by omega
    have hx := hs x List.mem_cons_self
    have hs' : okXs suf := fun y hy => hs y (List.mem_cons_of_mem _ hy)
    have hlt := lt_mid pre suf x
    rw [spec_PassBox.l0v_eq, if_pos hlt, if_pos (by omega), rdExt_mid, l9Has_v _ _ h.1, l9Has_v _ _ h.2, l1In_f]
    simp only [spec_PassBox.j2v_eq, Option.bind_some, List.nil_append, List.length_nil, Nat.zero_add, rdExt_mid]
    rw [up_mid pre x hn hl]
    have e1 := ih (pre ++ [x]) out (by simpa using hl) (by simp; omega) hs'
    have e2 := ih (pre ++ [x]) (out ++ [x]) (by simpa using hl) (by simp; omega) hs'
    rw [← mid_snoc pre suf x] at e1 e2
    have e3 : (0 : Int) ≤ (pre.length : Int) := by omega
    have e4 : x.f1.length < 17592186044416 := by omega
    have e5 : out.length < 4398046511104 := by omega
    simp only [e1, hlt, e3, e4, e5, if_true, show (⟨x.f0, x.f1⟩ : S69) = x from rfl, e2, List.any_cons]
    unfold kept
    simp only [List.filter_cons, drops]
    generalize mem b.f1 x.f0 = p
    cases mem b.f2 x.f0 <;> cases inR 1 3 x.f0 <;> rcases Bool.eq_false_or_eq_true b.f3 with h3 | h3 <;> cases p <;> simp [h3]
theorem specPass_v (b : S50) (v : List Int) (l : List S69) (h : okB b) (hv : v.length ≤ 1000000000000) (hl : l.length ≤ 1000000000000) (hs : okXs l) : spec_PassBox.fv b.f0 b.f1 b.f2 b.f3 v l = some (pass b v l) := by
  have h1 := specPass_l0 b v v h l [] [] (by simpa using hl) (by simp) hs
  simp only [List.nil_append, List.length_nil, Int.natCast_zero] at h1
  rw [spec_PassBox.fv_eq, specIsB_v b h, specHello_v v l hv hl hs]
  simp only [Option.bind_some, spec_PassBox.j0v_eq, List.nil_append, List.length_nil, Nat.zero_add, show v.length < 17592186044416 by omega, if_true, h1, pass, lose]
  cases hb : isB b with
  | false => simp
  | true =>
    cases hh : isH v l with
    | false => simp
    | true =>
      have ha : areV v = true := by
        simp only [isH, Bool.and_eq_true] at hh
        exact hh.1
      have hb0 : 0 ≤ b.f0 := by
        simp only [isB, Bool.and_eq_true, inR_true] at hb
        exact hb.1.1
      have hne : v ≠ [] := by
        intro e
        rw [e] at ha
        simp [areV] at ha
      have hp := List.length_pos_iff.mpr hne
      have hd := rd_lastD v [] hne
      rw [List.append_nil] at hd
      rw [w64 (by omega) (by omega), hd, if_pos rfl, if_pos rfl]
      by_cases h0 : b.f0 = 0
      · rw [if_neg (by omega)]
        have d0 : decide (b.f0 = 0) = true := decide_eq_true h0
        rcases Bool.eq_false_or_eq_true (l.any fun x => drops b x.f0) with hq | hq
        · simp only [hq, d0]
          simp
        · simp only [hq, d0]
          simp
      · rw [if_pos (by omega), if_pos (by omega), if_pos (by omega)]
        have d0 : decide (b.f0 = 0) = false := decide_eq_false h0
        rcases Bool.eq_false_or_eq_true (l.any fun x => drops b x.f0) with hq | hq
        · rcases Bool.eq_false_or_eq_true (decide (v.getLastD 0 > b.f0)) with hm | hm
          · simp only [hq, hm, d0]
            simp
          · simp only [hq, hm, d0]
            simp
        · rcases Bool.eq_false_or_eq_true (decide (v.getLastD 0 > b.f0)) with hm | hm
          · simp only [hq, hm, d0]
            simp
          · simp only [hq, hm, d0]
            simp
end Go.Proofs.Ytpoandlbmaljhaa.Plain

/- PassPath, IsOpenPath and LostTags, of the reference. Condition: at most 10 to the 12 of each. -/
set_option linter.unusedSimpArgs false
set_option linter.unusedVariables false
namespace Go.Proofs.Ytpoandlbmaljhaa.Plain
open Go.RowKit Go.Proofs.YtpoandlbmaljhaaW.PrintWords Go.Proofs.Ytpoandlbmaljhaa.Base Go.Proofs.Ytpoandlbmaljhaa.Print

theorem specTags_l0 (suf : List S69) : ∀ (pre : List S69) (out : List Int), (pre ++ suf).length ≤ 1000000000000 → out.length ≤ pre.length →
    spec_TagsOf.l0v (pre ++ suf) out (pre.length : Int) = some (out ++ suf.map (·.f0)) := by
  induction suf with
  | nil =>
    intro pre out _ _
    rw [spec_TagsOf.l0v_eq, if_neg (nlt_end pre)]
    simp
  | cons x suf ih =>
    intro pre out hl ho
    have hn : pre.length < (pre ++ x :: suf).length := by simp
    have hp : pre.length < 1000000000000 := by omega
    rw [spec_TagsOf.l0v_eq, if_pos (lt_mid pre suf x), if_pos (by omega), rdExt_mid, if_pos (by omega), up_mid pre x hn hl]
    rw [mid_snoc pre suf x] at hl ⊢
    rw [ih (pre ++ [x]) _ hl (by simp; omega)]
    simp
theorem specTags_v (l : List S69) (hl : l.length ≤ 1000000000000) : spec_TagsOf.fv l = some (l.map (·.f0)) := by
  rw [spec_TagsOf.fv_eq]
  simpa using specTags_l0 l [] [] (by simpa using hl) (by simp)
theorem specKnown_l0 (t : List Int) (ht : t.length ≤ 1000000000000) (suf : List S69) : ∀ (pre out : List S69), (pre ++ suf).length ≤ 1000000000000 → out.length ≤ pre.length → okXs suf →
    spec_KnownOf.l0v (pre ++ suf) t out (pre.length : Int) = some (out ++ suf.filter (fun x => mem t x.f0)) := by
  induction suf with
  | nil =>
    intro pre out _ _ _
    rw [spec_KnownOf.l0v_eq, if_neg (nlt_end pre)]
    simp
  | cons x suf ih =>
    intro pre out hl ho hs
    have hn : pre.length < (pre ++ x :: suf).length := by simp
    have hp : pre.length < 1000000000000 := by omega
    have hx := hs x List.mem_cons_self
    have hs' : okXs suf := fun y hy => hs y (List.mem_cons_of_mem _ hy)
    have hlt := lt_mid pre suf x
    rw [spec_KnownOf.l0v_eq, if_pos hlt, if_pos (by omega), rdExt_mid, l9Has_v t _ ht, up_mid pre x hn hl]
    simp only [Option.bind_some, List.nil_append, List.length_nil, Nat.zero_add, rdExt_mid]
    rw [mid_snoc pre suf x] at hl ⊢
    cases hm : mem t x.f0 with
    | true =>
      rw [if_pos rfl, if_pos (by omega), if_pos (by omega), ih (pre ++ [x]) _ hl (by simp; omega) hs']
      simp [hm]
    | false =>
      rw [if_neg (by simp), ih (pre ++ [x]) out hl (by simp; omega) hs']
      simp [hm]
theorem specKnown_v (l : List S69) (t : List Int) (ht : t.length ≤ 1000000000000) (hl : l.length ≤ 1000000000000) (hs : okXs l) : spec_KnownOf.fv l t = some (l.filter (fun x => mem t x.f0)) := by
  rw [spec_KnownOf.fv_eq]
  simpa using specKnown_l0 t ht l [] [] (by simpa using hl) (by simp) hs
theorem known_all (l : List S69) : l.filter (fun x => mem (l.map (·.f0)) x.f0) = l := by
  rw [List.filter_eq_self]
  intro x hx
  simp only [mem, decide_eq_true_eq]
  exact List.mem_map.mpr ⟨x, hx, rfl⟩
theorem specCopyH_v (v : List Int) (l : List S69) (hv : v.length ≤ 1000000000000) (hl : l.length ≤ 1000000000000) (hs : okXs l) : spec_l18Hello.fv v l = some (v, l) := by
  rw [spec_l18Hello.fv_eq, spec_l11Copy.fv_eq, specTags_v l hl]
  simp only [Option.bind_some, List.nil_append, List.length_nil, Nat.zero_add, show v.length < 17592186044416 by omega, if_true]
  rw [specKnown_v l _ (by rw [List.length_map]; exact hl) hl hs, known_all]
  simp
theorem goP_off' (p : List S50) (v : List Int) (l : List S69) : goP p false v l = (v, l, false) := by
  cases p <;> simp [goP]
theorem pass_fail {b : S50} {v : List Int} {l : List S69} (h : (pass b v l).2.2 = false) : pass b v l = ([], [], false) := by
  unfold pass at h ⊢
  split
  · rename_i hc
    rw [if_pos hc] at h
    cases h
  · rfl
theorem specGoP_l0 (suf : List S50) : ∀ (pre : List S50) (v : List Int) (l : List S69), (pre ++ suf).length ≤ 1000000000000 → (∀ x ∈ suf, okB x) → v.length ≤ 1000000000000 → l.length ≤ 1000000000000 → okXs l →
    spec_PassPath.l0v (pre ++ suf) (pre.length : Int) v l = some (goP suf true v l) := by
  induction suf with
  | nil =>
    intro pre v l _ _ _ _ _
    rw [spec_PassPath.l0v_eq, if_neg (nlt_end pre)]
    rfl
  | cons b suf ih =>
    intro pre v l hp hs hv hl hx
    have hn : pre.length < (pre ++ b :: suf).length := by simp
    obtain ⟨a1, a2, a3⟩ := pass_ok b v l hx
    rw [spec_PassPath.l0v_eq, if_pos (lt_mid pre suf b), if_pos (by omega), rdBox_mid, specPass_v b v l (hs b List.mem_cons_self) hv hl hx, up_mid pre b hn hp]
    simp only [Option.bind_some, goP, if_true]
    rw [mid_snoc pre suf b] at hp ⊢
    cases ho : (pass b v l).2.2 with
    | true =>
      rw [if_pos rfl]
      exact ih (pre ++ [b]) _ _ hp (fun y hy => hs y (List.mem_cons_of_mem _ hy)) (by omega) (by omega) a3
    | false =>
      rw [if_neg (by simp), goP_off', pass_fail ho]
theorem specPassP_v (p : List S50) (v : List Int) (l : List S69) (hp : p.length ≤ 1000000000000) (hs : ∀ x ∈ p, okB x) (hv : v.length ≤ 1000000000000) (hl : l.length ≤ 1000000000000) (hx : okXs l) : spec_PassPath.fv p v l = some (passP p v l) := by
  have h := specGoP_l0 p [] v l (by simpa using hp) hs hv hl hx
  simp only [List.nil_append, List.length_nil, Int.natCast_zero] at h
  rw [spec_PassPath.fv_eq, specHello_v v l hv hl hx]
  simp only [Option.bind_some, spec_PassPath.j0v_eq, specCopyH_v v l hv hl hx, h, passP]
  by_cases h4 : p.length ≤ 4
  · rw [if_neg (by omega)]
    cases isH v l <;> simp [h4]
  · rw [if_pos (by omega)]
    simp [h4]
theorem specPlain_f (v : List Int) (hv : v.length ≤ 1000000000000) : spec_PlainHello.f v = some (v, []) := by
  unfold spec_PlainHello.f
  simp only [Option.bind_some, List.nil_append, List.length_nil, Nat.zero_add]
  rw [if_pos (by omega)]
theorem specOpen_v (p : List S50) (v : List Int) (hp : p.length ≤ 1000000000000) (hs : ∀ x ∈ p, okB x) (hv : v.length ≤ 1000000000000) : spec_IsOpenPath.fv p v = some (openP p v) := by
  have ht : (v.take 1).length ≤ 1000000000000 := by
    rw [List.length_take]
    omega
  rw [spec_IsOpenPath.fv_eq, specVers_v v hv]
  simp only [Option.bind_some, openP]
  cases ha : areV v with
  | false => simp
  | true =>
    have h1 : 0 < v.length := by
      simp only [areV, Bool.and_eq_true, decide_eq_true_eq] at ha
      exact ha.2
    rw [if_pos rfl, if_pos (by omega), specPlain_f _ ht]
    simp only [Option.bind_some]
    rw [specPassP_v p _ [] hp hs ht (by simp) (fun x hx => by cases hx)]
    simp
end Go.Proofs.Ytpoandlbmaljhaa.Plain

/- LostVersions and what is left, of the reference. Condition: at most 10 to the 12 of each. -/
set_option linter.unusedSimpArgs false
set_option linter.unusedVariables false
namespace Go.Proofs.Ytpoandlbmaljhaa.Plain
open Go.RowKit Go.Proofs.YtpoandlbmaljhaaW.PrintWords Go.Proofs.Ytpoandlbmaljhaa.Base Go.Proofs.Ytpoandlbmaljhaa.Print

theorem take_mid (pre suf : List Int) (x : Int) : ((pre ++ x :: suf).take ((pre ++ [x]).length : Int).toNat).drop ((pre.length : Int)).toNat = [x] := by
  rw [Int.toNat_natCast, Int.toNat_natCast, mid_snoc pre suf x, List.take_append_of_le_length (Nat.le_refl _), List.take_length]
  simp
theorem specLostV_l0 (p : List S50) (hp : p.length ≤ 1000000000000) (hs : ∀ x ∈ p, okB x) (suf : List Int) : ∀ (pre out : List Int), (pre ++ suf).length ≤ 1000000000000 → out.length ≤ pre.length → areV (pre ++ suf) = true →
    spec_LostVersions.l0v p (pre ++ suf) out (pre.length : Int) = some (out ++ suf.filter (fun x => !(passP p [x] []).2.2)) := by
  induction suf with
  | nil =>
    intro pre out _ _ _
    rw [spec_LostVersions.l0v_eq, if_neg (nlt_end pre), spec_LostVersions.j1v_eq, if_neg (by simp)]
    simp
  | cons x suf ih =>
    intro pre out hl ho ha
    have hn : pre.length < (pre ++ x :: suf).length := by simp
    have hq : pre.length < 1000000000000 := by omega
    have h1 : areV [x] = true := areV_one ha (by simp)
    have e1 : ((pre ++ [x]).length : Int) = (pre.length : Int) + 1 := by simp
    have e2 : (pre ++ [x]).length ≤ (pre ++ x :: suf).length := by simp
    rw [spec_LostVersions.l0v_eq, if_pos (lt_mid pre suf x), specVers_v _ hl, ha]
    rw [Option.bind_some, spec_LostVersions.j1v_eq, if_pos rfl]
    rw [up_mid pre x hn hl, if_pos (by omega), if_pos (by omega), if_pos (by omega), take_mid, specOpen_v p [x] hp hs (by simp), openP_one h1, if_pos (lt_mid pre suf x), rd_mid]
    simp only [Option.bind_some]
    rw [mid_snoc pre suf x] at hl ha ⊢
    cases hw : (passP p [x] []).2.2 with
    | true =>
      rw [if_pos rfl, ih (pre ++ [x]) out hl (by simp; omega) ha]
      simp [hw]
    | false =>
      rw [if_neg (by simp), if_pos (by omega), ih (pre ++ [x]) _ hl (by simp; omega) ha]
      simp [hw]
theorem specLostV_v (p : List S50) (v : List Int) (hp : p.length ≤ 1000000000000) (hs : ∀ x ∈ p, okB x) (hv : v.length ≤ 1000000000000) : spec_LostVersions.fv p v = some (lostV p v) := by
  rw [spec_LostVersions.fv_eq]
  unfold lostV
  cases ha : areV v with
  | true => simpa using specLostV_l0 p hp hs v [] [] (by simpa using hv) (by simp) ha
  | false =>
    rw [spec_LostVersions.l0v_eq, specVers_v v hv, ha]
    simp only [Option.bind_some, spec_LostVersions.j1v_eq, Bool.false_eq_true, if_false, ite_self]
theorem specWo_l0 (b : List Int) (hb : b.length ≤ 1000000000000) (suf : List Int) : ∀ (pre out : List Int), (pre ++ suf).length ≤ 1000000000000 → out.length ≤ pre.length →
    spec_l21Left.l0v (pre ++ suf) b out (pre.length : Int) = some (out ++ wo suf b) := by
  induction suf with
  | nil =>
    intro pre out _ _
    rw [spec_l21Left.l0v_eq, if_neg (nlt_end pre)]
    simp [wo]
  | cons x suf ih =>
    intro pre out hl ho
    have hn : pre.length < (pre ++ x :: suf).length := by simp
    have hp : pre.length < 1000000000000 := by omega
    rw [spec_l21Left.l0v_eq, if_pos (lt_mid pre suf x), if_pos (by omega), rd_mid, l9Has_v b x hb, up_mid pre x hn hl]
    simp only [Option.bind_some]
    rw [mid_snoc pre suf x] at hl ⊢
    cases hx : mem b x with
    | true =>
      rw [if_pos rfl, ih (pre ++ [x]) out hl (by simp; omega)]
      simp [wo, hx]
    | false =>
      rw [if_neg (by simp), if_pos (by omega), ih (pre ++ [x]) (out ++ [x]) hl (by simp; omega)]
      simp [wo, hx]
theorem specWo_v (a b : List Int) (ha : a.length ≤ 1000000000000) (hb : b.length ≤ 1000000000000) : spec_l21Left.fv a b = some (wo a b) := by
  rw [spec_l21Left.fv_eq]
  simpa using specWo_l0 b hb a [] [] (by simpa using ha) (by simp)
end Go.Proofs.Ytpoandlbmaljhaa.Plain

/- CommonOf, BestCommon and without, of the program. Condition: at most 10 to the 12 numbers each. -/
set_option linter.unusedSimpArgs false
set_option linter.unusedVariables false
namespace Go.Proofs.Ytpoandlbmaljhaa.Plain
open Go.RowKit Go.Proofs.YtpoandlbmaljhaaW.PrintWords Go.Proofs.Ytpoandlbmaljhaa.Base Go.Proofs.Ytpoandlbmaljhaa.Print

theorem implCom_l0 (b : List Int) (hb : b.length ≤ 1000000000000) (suf : List Int) : ∀ (pre out : List Int), (pre ++ suf).length ≤ 1000000000000 → out.length ≤ pre.length →
    impl_CommonOf.l0v b out (pre ++ suf) ((pre ++ suf).length : Int) (pre.length : Int) = some (out ++ com suf b) := by
  induction suf with
  | nil =>
    intro pre out _ _
    rw [impl_CommonOf.l0v_eq, if_neg (nlt_end pre)]
    simp [com]
  | cons x suf ih =>
    intro pre out hl ho
    have hn : pre.length < (pre ++ x :: suf).length := by simp
    have hp : pre.length < 1000000000000 := by omega
    rw [impl_CommonOf.l0v_eq, if_pos (lt_mid pre suf x), if_pos (by omega), if_pos (lt_mid pre suf x), rd_mid, slHas_v b x hb, up_mid pre x hn hl]
    simp only [Option.bind_some]
    rw [mid_snoc pre suf x] at hl ⊢
    cases hx : mem b x with
    | true =>
      rw [if_pos rfl, if_pos (by omega), ih (pre ++ [x]) (out ++ [x]) hl (by simp; omega)]
      simp [com, hx]
    | false =>
      rw [if_neg (by simp), ih (pre ++ [x]) out hl (by simp; omega)]
      simp [com, hx]
theorem implCom_v (a b : List Int) (ha : a.length ≤ 1000000000000) (hb : b.length ≤ 1000000000000) : impl_CommonOf.fv a b = some (com a b) := by
  rw [impl_CommonOf.fv_eq]
  simpa using implCom_l0 b hb a [] [] (by simpa using ha) (by simp)
theorem implMax_l0 (suf : List Int) : ∀ (pre : List Int) (m : Int), (pre ++ suf).length ≤ 1000000000000 → vers m suf = true →
    impl_BestCommon.l0v m (pre ++ suf) ((pre ++ suf).length : Int) (pre.length : Int) = some (suf.getLastD m) := by
  induction suf with
  | nil =>
    intro pre m _ _
    rw [impl_BestCommon.l0v_eq, if_neg (nlt_end pre)]
    simp
  | cons x suf ih =>
    intro pre m hl hv
    have hn : pre.length < (pre ++ x :: suf).length := by simp
    have hp : pre.length < 1000000000000 := by omega
    simp only [vers, Bool.and_eq_true, decide_eq_true_eq] at hv
    have hm : mx m x = x := by
      unfold mx
      split <;> omega
    rw [impl_BestCommon.l0v_eq, if_pos (lt_mid pre suf x), if_pos (by omega), if_pos (lt_mid pre suf x), rd_mid, up_mid pre x hn hl, hm]
    rw [mid_snoc pre suf x] at hl ⊢
    rw [ih (pre ++ [x]) x hl hv.2.2]
    rw [lastD_cons]
theorem implBest_v (a b : List Int) (ha : a.length ≤ 1000000000000) (hb : b.length ≤ 1000000000000) : impl_BestCommon.fv a b = some (best a b) := by
  rw [impl_BestCommon.fv_eq, implVers_v a ha, implVers_v b hb]
  simp only [Option.bind_some, impl_BestCommon.j0v_eq, implCom_v a b ha hb]
  unfold best
  cases h1 : areV a with
  | false => simp
  | true =>
    cases areV b with
    | false => simp
    | true =>
      have hc := com_len a b
      have hv : vers 0 (com a b) = true := vers_filter _ (by simp only [areV, Bool.and_eq_true] at h1; exact h1.1)
      have h := implMax_l0 (com a b) [] 0 (by simp; omega) hv
      simp only [List.nil_append, List.length_nil, Int.natCast_zero] at h
      simp [h]
end Go.Proofs.Ytpoandlbmaljhaa.Plain

/- CommonOf and BestCommon, of the reference. Condition: at most 10 to the 12 numbers each. -/
set_option linter.unusedSimpArgs false
set_option linter.unusedVariables false
namespace Go.Proofs.Ytpoandlbmaljhaa.Plain
open Go.RowKit Go.Proofs.YtpoandlbmaljhaaW.PrintWords Go.Proofs.Ytpoandlbmaljhaa.Base Go.Proofs.Ytpoandlbmaljhaa.Print

theorem specCom_l0 (b : List Int) (hb : b.length ≤ 1000000000000) (suf : List Int) : ∀ (pre out : List Int), (pre ++ suf).length ≤ 1000000000000 → out.length ≤ pre.length →
    spec_CommonOf.l0v (pre ++ suf) b out (pre.length : Int) = some (out ++ com suf b) := by
  induction suf with
  | nil =>
    intro pre out _ _
    rw [spec_CommonOf.l0v_eq, if_neg (nlt_end pre)]
    simp [com]
  | cons x suf ih =>
    intro pre out hl ho
    have hn : pre.length < (pre ++ x :: suf).length := by simp
    have hp : pre.length < 1000000000000 := by omega
    rw [spec_CommonOf.l0v_eq, if_pos (lt_mid pre suf x), if_pos (by omega), rd_mid, l9Has_v b x hb, up_mid pre x hn hl]
    simp only [Option.bind_some]
    rw [mid_snoc pre suf x] at hl ⊢
    cases hx : mem b x with
    | true =>
      rw [if_pos rfl, if_pos (by omega), ih (pre ++ [x]) (out ++ [x]) hl (by simp; omega)]
      simp [com, hx]
    | false =>
      rw [if_neg (by simp), ih (pre ++ [x]) out hl (by simp; omega)]
      simp [com, hx]
theorem specCom_v (a b : List Int) (ha : a.length ≤ 1000000000000) (hb : b.length ≤ 1000000000000) : spec_CommonOf.fv a b = some (com a b) := by
  rw [spec_CommonOf.fv_eq]
  simpa using specCom_l0 b hb a [] [] (by simpa using ha) (by simp)
theorem specBest_v (a b : List Int) (ha : a.length ≤ 1000000000000) (hb : b.length ≤ 1000000000000) : spec_BestCommon.fv a b = some (best a b) := by
  rw [spec_BestCommon.fv_eq, specCom_v a b ha hb, specVers_v a ha, specVers_v b hb]
  simp only [Option.bind_some, best]
  cases areV a with
  | false => simp
  | true =>
    cases areV b with
    | false => simp
    | true =>
      have hc := com_len a b
      simp only [if_true, Bool.and_self]
      by_cases h : (com a b).length = 0
      · have h' : com a b = [] := List.length_eq_zero_iff.mp h
        simp [h']
      · have hp : com a b ≠ [] := fun e => h (by rw [e]; rfl)
        rw [if_neg (by omega), w64 (by omega) (by omega), if_pos (by omega), if_pos (by omega)]
        have := rd_lastD (com a b) [] hp
        rw [List.append_nil] at this
        rw [this]
end Go.Proofs.Ytpoandlbmaljhaa.Plain

/- Written by a program of this session (limx.py): the equations of what the printed functions come to. No condition. -/
namespace Go.Proofs.Ytpoandlbmaljhaa.Print
open Go.RowKit Go.Proofs.YtpoandlbmaljhaaW.PrintWords Go.Proofs.YtpoandlbmaljhaaW.PrintLast Go.Proofs.Ytpoandlbmaljhaa.Base
set_option linter.unusedVariables false
set_option maxRecDepth 20000
noncomputable def laws_FnExactBestFor.fv (l0_0 : List Int) (l0_1 : List Int) (l0_2 : List (S46)) (a0_3 : Int) (l1 : List Int) : Option (Bool) := Lim fun k => laws_FnExactBestFor.f k l0_0 l0_1 l0_2 a0_3 l1
theorem laws_FnExactBestFor.f_is (l0_0 : List Int) (l0_1 : List Int) (l0_2 : List (S46)) (a0_3 : Int) (l1 : List Int) : Is (fun k => laws_FnExactBestFor.f k l0_0 l0_1 l0_2 a0_3 l1) (laws_FnExactBestFor.fv l0_0 l0_1 l0_2 a0_3 l1) := ⟨fun k => laws_FnExactBestFor.mono l0_0 l0_1 l0_2 a0_3 l1 k, rfl⟩
theorem laws_FnExactBestFor.fv_eq (l0_0 : List Int) (l0_1 : List Int) (l0_2 : List (S46)) (a0_3 : Int) (l1 : List Int) : laws_FnExactBestFor.fv l0_0 l0_1 l0_2 a0_3 l1 = if (l1.length : Int) > 1048576 then (some true) else ((laws_szEndpoint.fv l0_0 l0_1 l0_2 a0_3 1048576).bind fun t560 => (if t560 < 0 then (some true) else ((laws_toEndpoint.fv l0_0 l0_1 l0_2 a0_3).bind fun bt561 => ((laws_toIntS.fv l1).bind fun t571 => ((spec_BestFor.fv bt561.1 bt561.2.1 bt561.2.2.1 bt561.2.2.2 t571).bind fun t574 => ((laws_toEndpoint.fv l0_0 l0_1 l0_2 a0_3).bind fun bt575 => ((laws_toIntS.fv l1).bind fun t586 => ((impl_BestFor.fv bt575.1 bt575.2.1 bt575.2.2.1 bt575.2.2.2 t586).bind fun t589 => (if t589 = t574 then ((laws_toEndpoint.fv l0_0 l0_1 l0_2 a0_3).bind fun bt590 => ((laws_eqEndpoint.fv bt575.1 bt575.2.1 bt575.2.2.1 bt575.2.2.2 bt590.1 bt590.2.1 bt590.2.2.1 bt590.2.2.2).bind fun t600 => (if t600 = true then ((laws_toIntS.fv l1).bind fun t601 => ((laws_eqIntS.fv t586 t601).bind fun t604 => (if t604 = true then (some true) else (some false)))) else (some false)))) else (some false)))))))))) := by
  refine Is.lim (g := fun k => laws_FnExactBestFor.f k l0_0 l0_1 l0_2 a0_3 l1) ?_
  · unfold laws_FnExactBestFor.f
    repeat' first
    | with_reducible exact impl_BestFor.f_is _ _ _ _ _
    | with_reducible exact laws_eqEndpoint.f_is _ _ _ _ _ _ _ _
    | with_reducible exact laws_eqIntS.f_is _ _
    | with_reducible exact laws_szEndpoint.f_is _ _ _ _ _
    | with_reducible exact laws_toEndpoint.f_is _ _ _ _
    | with_reducible exact laws_toIntS.f_is _
    | with_reducible exact spec_BestFor.f_is _ _ _ _ _
    | with_reducible exact Is.now _
    | with_reducible refine Is.ite ?_ ?_
    | with_reducible refine Is.bind ?_ (fun _ => ?_)
end Go.Proofs.Ytpoandlbmaljhaa.Print

/- FnExactBestFor: whatever the endpoint and the server, the program's BestFor and the reference's BestFor return the same and leave the arguments as they were. No condition. -/
set_option linter.unusedSimpArgs false
set_option linter.unusedVariables false
namespace Go.Proofs.Ytpoandlbmaljhaa.Pure
open Go.RowKit Go.Proofs.YtpoandlbmaljhaaW.PrintWords Go.Proofs.Ytpoandlbmaljhaa.Base Go.Proofs.Ytpoandlbmaljhaa.Print Go.Proofs.Ytpoandlbmaljhaa.Plain

theorem FnExactBestFor : laws_FnExactBestFor.Pure := by
  rintro ⟨v, t, p, c⟩ s ⟨⟨hv, _⟩, ⟨ht, _⟩, ⟨hp, hb⟩, _⟩ ⟨hs0, _⟩
  have hv : v.length * 8 ≤ 140737488351232 := hv
  have ht : t.length * 8 ≤ 140737488351232 := ht
  have hs : ∀ x ∈ p, x.f1.length ≤ 1000000000000000000 ∧ x.f2.length ≤ 1000000000000000000 := fun x hx => by
    obtain ⟨_, ⟨h1, _⟩, ⟨h2, _⟩, _⟩ := hb x hx
    exact ⟨by omega, by omega⟩
  have hp : p.length * 64 ≤ 140737488351232 := hp
  refine ends (g := fun k => laws_FnExactBestFor.f k v t p c s) ?_
  show laws_FnExactBestFor.fv v t p c s = some true
  rw [laws_FnExactBestFor.fv_eq]
  by_cases h0 : (s.length : Int) > 1048576
  · rw [if_pos h0]
  · rw [if_neg h0, szEnd_v v t p c 1048576 (by omega) (by omega) (by omega) (by omega) (by omega) hs]
    simp only [Option.bind_some]
    by_cases h1 : sizeE v t p 1048576 < 0
    · rw [if_pos h1]
    · obtain ⟨l1, o1⟩ := sizeE_le (by omega) (Int.not_lt.mp h1)
      have hq : (p.map toB).length ≤ 1000000000000 := by
        rw [List.length_map]
        exact o1.2.2.1
      have hm : s.length ≤ 1000000000000 := by omega
      have hvl := o1.1
      have hl1 := lostV_len (p.map toB) v
      have hw1 := wo_len v (lostV (p.map toB) v)
      have e1 : impl_BestFor.fv v t (p.map toB) c s = spec_BestFor.fv v t (p.map toB) c s := by
        rw [impl_BestFor.fv_eq, spec_BestFor.fv_eq, implIsE_v v t (p.map toB) c o1.1 o1.2.1 hq (okE_boxes o1), specIsE_v v t (p.map toB) c o1.1 o1.2.1 hq (okE_boxes o1), implLostV_v _ v hq (okE_boxes o1) hvl, specLostV_v _ v hq (okE_boxes o1) hvl]
        simp only [Option.bind_some, implWo_v v _ hvl (by omega : (lostV (p.map toB) v).length ≤ 1000000000000), specWo_v v _ hvl (by omega : (lostV (p.map toB) v).length ≤ 1000000000000), implBest_v s _ hm (by omega : (wo v (lostV (p.map toB) v)).length ≤ 1000000000000), specBest_v s _ hm (by omega : (wo v (lostV (p.map toB) v)).length ≤ 1000000000000)]
      have e2 : ∃ b, spec_BestFor.fv v t (p.map toB) c s = some b := by
        rw [spec_BestFor.fv_eq, specIsE_v v t (p.map toB) c o1.1 o1.2.1 hq (okE_boxes o1), specLostV_v _ v hq (okE_boxes o1) hvl]
        simp only [Option.bind_some, specWo_v v _ hvl (by omega : (lostV (p.map toB) v).length ≤ 1000000000000), specBest_v s _ hm (by omega : (wo v (lostV (p.map toB) v)).length ≤ 1000000000000)]
        cases isE v t (p.map toB) c
        · exact ⟨0, rfl⟩
        · exact ⟨_, rfl⟩
      obtain ⟨b, e2⟩ := e2
      rw [if_neg h1, toEnd_v v t p c o1, toIntS_v s hm]
      simp only [Option.bind_some, e1, e2, if_true, eqEnd_v v t p c o1, eqIntS_v s s hm, decide_true]
end Go.Proofs.Ytpoandlbmaljhaa.Pure
