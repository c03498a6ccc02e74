/- Written by a program of this session (merge.py): texts that the law's plain side leans on, laid together. No condition. -/
import Derived.Test.YtchnkakjjbfklaaWWords
import Derived.Test.YtchnkakjjbfklaaPrint5
import Derived.Test.YtchnkakjjbfklaaPrint9
import Derived.Test.YtchnkakjjbfklaaPrint1
import Derived.Test.YtchnkakjjbfklaaPrint10
import Derived.Test.YtchnkakjjbfklaaPrint11
import Derived.Test.YtchnkakjjbfklaaPrint2
import Derived.Test.YtchnkakjjbfklaaPrint6
import Derived.Test.YtchnkakjjbfklaaPrint12
import Derived.Test.YtchnkakjjbfklaaPrint3
import Derived.Test.YtchnkakjjbfklaaPrint7
import Derived.Test.YtchnkakjjbfklaaPrint8
import Derived.Test.YtchnkakjjbfklaaPrint4
import Derived.Test.YtchnkakjjbfklaaPrint13
/- What a function with rounds comes to when it has rounds enough, as an option: its equations hold without rounds. No condition. -/
namespace Go.Proofs.Ytchnkakjjbfklaa.Base
open Go.RowKit Go.Proofs.YtchnkakjjbfklaaW.PrintWords

/-- More rounds tell the same. -/
def Mo {α : Type} (g : Nat → Option α) : Prop := ∀ k, LeO (g k) (g (k + 1))
theorem mo_le {α : Type} {g : Nat → Option α} (h : Mo g) {k k' : Nat} (hk : k ≤ k') {r : α} (hr : g k = some r) : g k' = some r := at_rounds h hk hr
open Classical in
/-- What it comes to at last: nothing, or one answer. -/
noncomputable def Lim {α : Type} (g : Nat → Option α) : Option α := if h : ∃ r, ∃ k, g k = some r then some (Classical.choose h) else none
theorem lim_some {α : Type} {g : Nat → Option α} (h : Mo g) {k : Nat} {r : α} (hr : g k = some r) : Lim g = some r := by
  have hx : ∃ r, ∃ k, g k = some r := ⟨r, k, hr⟩
  unfold Lim
  rw [dif_pos hx]
  obtain ⟨k', hk'⟩ := Classical.choose_spec hx
  have h1 := mo_le h (Nat.le_max_left k k') hr
  have h2 := mo_le h (Nat.le_max_right k k') hk'
  rw [h1] at h2
  exact h2.symm
theorem of_lim {α : Type} {g : Nat → Option α} {r : α} (h : Lim g = some r) : ∃ k, g k = some r := by
  unfold Lim at h
  split at h
  · rename_i hx
    obtain rfl := Option.some.inj h
    exact Classical.choose_spec hx
  · cases h
theorem lim_none {α : Type} {g : Nat → Option α} (h : Lim g = none) (k : Nat) : g k = none := by
  cases hk : g k with
  | none => rfl
  | some r =>
    unfold Lim at h
    rw [dif_pos ⟨r, k, hk⟩] at h
    cases h
theorem none_lim {α : Type} {g : Nat → Option α} (h : ∀ k, g k = none) : Lim g = none := by
  unfold Lim
  rw [dif_neg]
  rintro ⟨r, k, hk⟩
  rw [h k] at hk
  cases hk
structure Is {α : Type} (g : Nat → Option α) (v : Option α) : Prop where
  mo : Mo g
  lim : Lim g = v
theorem Is.now {α : Type} (v : Option α) : Is (fun _ => v) v := by
  refine ⟨fun _ => LeO.refl _, ?_⟩
  cases v with
  | none => exact none_lim fun _ => rfl
  | some r => exact lim_some (g := fun _ => some r) (fun _ => LeO.refl _) (k := 0) rfl
theorem Is.ite {α : Type} {c : Prop} [Decidable c] {g h : Nat → Option α} {a b : Option α} (hg : Is g a) (hh : Is h b) : Is (fun k => if c then g k else h k) (if c then a else b) := by
  by_cases hc : c
  · simp only [if_pos hc]
    exact hg
  · simp only [if_neg hc]
    exact hh
theorem Is.bind {α β : Type} {g : Nat → Option α} {f : Nat → α → Option β} {a : Option α} {b : α → Option β} (hg : Is g a) (hf : ∀ x, Is (fun k => f k x) (b x)) : Is (fun k => (g k).bind (f k)) (a.bind b) := by
  have hm : Mo (fun k => (g k).bind (f k)) := fun k => LeO.bind (hg.mo k) (fun x => (hf x).mo k)
  refine ⟨hm, ?_⟩
  cases ha : a with
  | none =>
    refine none_lim fun k => ?_
    rw [lim_none (hg.lim.trans ha) k]
    rfl
  | some x =>
    obtain ⟨k, hk⟩ := of_lim (hg.lim.trans ha)
    show _ = b x
    cases hb : b x with
    | none =>
      refine none_lim fun k' => ?_
      cases hx : (g k').bind (f k') with
      | none => rfl
      | some r =>
        have h1 := mo_le hm (Nat.le_max_left k' k) hx
        have h2 := mo_le hg.mo (Nat.le_max_right k' k) hk
        simp only [h2, Option.bind_some] at h1
        rw [lim_none ((hf x).lim.trans hb)] at h1
        cases h1
    | some r =>
      obtain ⟨k', hk'⟩ := of_lim ((hf x).lim.trans hb)
      refine lim_some hm (k := max k k') ?_
      simp only [mo_le hg.mo (Nat.le_max_left k k') hk, Option.bind_some]
      exact mo_le (hf x).mo (Nat.le_max_right k k') hk'
theorem Is.step {α : Type} {g b : Nat → Option α} {v : Option α} (hg : Mo g) (h : ∀ k, g (k + 1) = b k) (hb : Is b v) : Lim g = v := by
  rw [← hb.lim]
  cases hx : Lim g with
  | none =>
    symm
    refine none_lim fun k => ?_
    rw [← h k]
    exact lim_none hx _
  | some r =>
    obtain ⟨k, hk⟩ := of_lim hx
    symm
    refine lim_some hb.mo (k := k) ?_
    rw [← h k]
    exact mo_le hg (Nat.le_succ k) hk
theorem ends {α : Type} {g : Nat → Option α} {r : α} (h : Lim g = some r) : ∃ k, g k = some r := of_lim h
theorem is0_ {q : Prop} (e : q := by repeat' first | with_reducible exact Is.now _ | with_reducible refine Is.ite ?_ ?_ | with_reducible refine Is.bind ?_ (fun _ => ?_)) : q := e
theorem is1_ {q p0 : Prop} (h0_ : p0) (e : p0 → q := by intro h0_; repeat' first | (with_reducible apply h0_) | with_reducible exact Is.now _ | with_reducible refine Is.ite ?_ ?_ | with_reducible refine Is.bind ?_ (fun _ => ?_)) : q := e h0_
theorem is2_ {q p0 p1 : Prop} (h0_ : p0) (h1_ : p1) (e : p0 → p1 → q := by intro h0_ h1_; repeat' first | (with_reducible apply h0_) | (with_reducible apply h1_) | with_reducible exact Is.now _ | with_reducible refine Is.ite ?_ ?_ | with_reducible refine Is.bind ?_ (fun _ => ?_)) : q := e h0_ h1_
theorem is3_ {q p0 p1 p2 : Prop} (h0_ : p0) (h1_ : p1) (h2_ : p2) (e : p0 → p1 → p2 → q := by intro h0_ h1_ h2_; repeat' first | (with_reducible apply h0_) | (with_reducible apply h1_) | (with_reducible apply h2_) | with_reducible exact Is.now _ | with_reducible refine Is.ite ?_ ?_ | with_reducible refine Is.bind ?_ (fun _ => ?_)) : q := e h0_ h1_ h2_
theorem is4_ {q p0 p1 p2 p3 : Prop} (h0_ : p0) (h1_ : p1) (h2_ : p2) (h3_ : p3) (e : p0 → p1 → p2 → p3 → q := by intro h0_ h1_ h2_ h3_; repeat' first | (with_reducible apply h0_) | (with_reducible apply h1_) | (with_reducible apply h2_) | (with_reducible apply h3_) | with_reducible exact Is.now _ | with_reducible refine Is.ite ?_ ?_ | with_reducible refine Is.bind ?_ (fun _ => ?_)) : q := e h0_ h1_ h2_ h3_
theorem is5_ {q p0 p1 p2 p3 p4 : Prop} (h0_ : p0) (h1_ : p1) (h2_ : p2) (h3_ : p3) (h4_ : p4) (e : p0 → p1 → p2 → p3 → p4 → q := by intro h0_ h1_ h2_ h3_ h4_; repeat' first | (with_reducible apply h0_) | (with_reducible apply h1_) | (with_reducible apply h2_) | (with_reducible apply h3_) | (with_reducible apply h4_) | with_reducible exact Is.now _ | with_reducible refine Is.ite ?_ ?_ | with_reducible refine Is.bind ?_ (fun _ => ?_)) : q := e h0_ h1_ h2_ h3_ h4_
theorem is6_ {q p0 p1 p2 p3 p4 p5 : Prop} (h0_ : p0) (h1_ : p1) (h2_ : p2) (h3_ : p3) (h4_ : p4) (h5_ : p5) (e : p0 → p1 → p2 → p3 → p4 → p5 → q := by intro h0_ h1_ h2_ h3_ h4_ h5_; repeat' first | (with_reducible apply h0_) | (with_reducible apply h1_) | (with_reducible apply h2_) | (with_reducible apply h3_) | (with_reducible apply h4_) | (with_reducible apply h5_) | with_reducible exact Is.now _ | with_reducible refine Is.ite ?_ ?_ | with_reducible refine Is.bind ?_ (fun _ => ?_)) : q := e h0_ h1_ h2_ h3_ h4_ h5_
theorem is7_ {q p0 p1 p2 p3 p4 p5 p6 : Prop} (h0_ : p0) (h1_ : p1) (h2_ : p2) (h3_ : p3) (h4_ : p4) (h5_ : p5) (h6_ : p6) (e : p0 → p1 → p2 → p3 → p4 → p5 → p6 → q := by intro h0_ h1_ h2_ h3_ h4_ h5_ h6_; repeat' first | (with_reducible apply h0_) | (with_reducible apply h1_) | (with_reducible apply h2_) | (with_reducible apply h3_) | (with_reducible apply h4_) | (with_reducible apply h5_) | (with_reducible apply h6_) | with_reducible exact Is.now _ | with_reducible refine Is.ite ?_ ?_ | with_reducible refine Is.bind ?_ (fun _ => ?_)) : q := e h0_ h1_ h2_ h3_ h4_ h5_ h6_
theorem is8_ {q p0 p1 p2 p3 p4 p5 p6 p7 : Prop} (h0_ : p0) (h1_ : p1) (h2_ : p2) (h3_ : p3) (h4_ : p4) (h5_ : p5) (h6_ : p6) (h7_ : p7) (e : p0 → p1 → p2 → p3 → p4 → p5 → p6 → p7 → q := by intro h0_ h1_ h2_ h3_ h4_ h5_ h6_ h7_; repeat' first | (with_reducible apply h0_) | (with_reducible apply h1_) | (with_reducible apply h2_) | (with_reducible apply h3_) | (with_reducible apply h4_) | (with_reducible apply h5_) | (with_reducible apply h6_) | (with_reducible apply h7_) | with_reducible exact Is.now _ | with_reducible refine Is.ite ?_ ?_ | with_reducible refine Is.bind ?_ (fun _ => ?_)) : q := e h0_ h1_ h2_ h3_ h4_ h5_ h6_ h7_
end Go.Proofs.Ytchnkakjjbfklaa.Base

/- Written by a program of this session (limx.py): the equations of what the printed functions come to. No condition. -/
namespace Go.Proofs.Ytchnkakjjbfklaa.Print
open Go.RowKit Go.Proofs.YtchnkakjjbfklaaW.PrintWords Go.Proofs.YtchnkakjjbfklaaW.PrintLast Go.Proofs.Ytchnkakjjbfklaa.Base
set_option linter.unusedVariables false
set_option maxRecDepth 20000
noncomputable def laws_toIntS.l0v (d : List Int) (e : List Int) (f : Int) : Option (List Int) := Lim fun k => laws_toIntS.l0 k d e f
noncomputable def laws_toIntS.fv (f : List Int) : Option (List Int) := Lim fun k => laws_toIntS.f k f
theorem laws_toIntS.l0_is (d : List Int) (e : List Int) (f : Int) : Is (fun k => laws_toIntS.l0 k d e f) (laws_toIntS.l0v d e f) := ⟨fun k => (laws_toIntS.mono_l k) d e f, rfl⟩
theorem laws_toIntS.f_is (f : List Int) : Is (fun k => laws_toIntS.f k f) (laws_toIntS.fv f) := ⟨fun k => laws_toIntS.mono f k, rfl⟩
theorem laws_toIntS.l0v_eq (d : List Int) (e : List Int) (f : Int) : laws_toIntS.l0v d e f = if f < (d.length : Int) then (if 0 ≤ f then (if f < (e.length : Int) then (laws_toIntS.l0v d (e.set (f : Int).toNat (rd d f)) (wrap64 (f + 1))) else (none)) else (none)) else (some e) := by
  refine Is.step (laws_toIntS.l0_is d e f).mo (fun k => by rw [laws_toIntS.l0]) ?_
  exact is1_ @laws_toIntS.l0_is
theorem laws_toIntS.fv_eq (f : List Int) : laws_toIntS.fv f = if 0 ≤ (f.length : Int) then (if ((f.length : Int) : Int).toNat ≤ 35184372088832 then (laws_toIntS.l0v f (List.replicate ((f.length : Int) : Int).toNat 0) 0) else (none)) else (none) := by
  refine Is.lim (g := fun k => laws_toIntS.f k f) ?_
  · unfold laws_toIntS.f
    exact is1_ @laws_toIntS.l0_is
section
variable (h : Int) (i j : List Int) (l : Bool)
noncomputable def laws_toBox.fv := Lim fun k => laws_toBox.f k h i j l
theorem laws_toBox.f_is : Is (fun k => laws_toBox.f k h i j l) (laws_toBox.fv h i j l) := ⟨fun k => laws_toBox.mono h i j l k, rfl⟩
theorem laws_toBox.fv_eq : laws_toBox.fv h i j l = (laws_toIntS.fv i).bind fun e => ((laws_toIntS.fv j).bind fun g => (some (h, e, g, l))) := by
  refine Is.lim (g := fun k => laws_toBox.f k h i j l) ?_
  · unfold laws_toBox.f
    exact is1_ @laws_toIntS.f_is
end
section
variable (e : List (S117)) (g : List (S95)) (h : Int) (i : List (S117))
noncomputable def laws_toBoxS.l0v := Lim fun k => laws_toBoxS.l0 k e g h
noncomputable def laws_toBoxS.fv := Lim fun k => laws_toBoxS.f k i
theorem laws_toBoxS.l0_is : Is (fun k => laws_toBoxS.l0 k e g h) (laws_toBoxS.l0v e g h) := ⟨fun k => (laws_toBoxS.mono_l k) e g h, rfl⟩
theorem laws_toBoxS.f_is : Is (fun k => laws_toBoxS.f k i) (laws_toBoxS.fv i) := ⟨fun k => laws_toBoxS.mono i k, rfl⟩
theorem laws_toBoxS.l0v_eq : laws_toBoxS.l0v e g h = if h < (e.length : Int) then (if 0 ≤ h then ((laws_toBox.fv ((rd_T117 e h).f0) ((rd_T117 e h).f1) ((rd_T117 e h).f2) ((rd_T117 e h).f3)).bind fun i => (if h < (g.length : Int) then (laws_toBoxS.l0v e (g.set (h : Int).toNat (⟨i.1, i.2.1, i.2.2.1, i.2.2.2⟩ : S95)) (wrap64 (h + 1))) else (none))) else (none)) else (some g) := by
  refine Is.step (laws_toBoxS.l0_is e g h).mo (fun k => by rw [laws_toBoxS.l0]) ?_
  exact is2_ @laws_toBox.f_is @laws_toBoxS.l0_is
theorem laws_toBoxS.fv_eq : laws_toBoxS.fv i = if 0 ≤ (i.length : Int) then (if ((i.length : Int) : Int).toNat ≤ 4398046511104 then (laws_toBoxS.l0v i (List.replicate ((i.length : Int) : Int).toNat z95) 0) else (none)) else (none) := by
  refine Is.lim (g := fun k => laws_toBoxS.f k i) ?_
  · unfold laws_toBoxS.f
    exact is1_ @laws_toBoxS.l0_is
end
section
variable (i j : List Int) (l : List (S117)) (m : Int)
noncomputable def laws_toEndpoint.fv := Lim fun k => laws_toEndpoint.f k i j l m
theorem laws_toEndpoint.f_is : Is (fun k => laws_toEndpoint.f k i j l m) (laws_toEndpoint.fv i j l m) := ⟨fun k => laws_toEndpoint.mono i j l m k, rfl⟩
theorem laws_toEndpoint.fv_eq : laws_toEndpoint.fv i j l m = (laws_toIntS.fv i).bind fun e => ((laws_toIntS.fv j).bind fun g => ((laws_toBoxS.fv l).bind fun h => (some (e, g, h, m)))) := by
  refine Is.lim (g := fun k => laws_toEndpoint.f k i j l m) ?_
  · unfold laws_toEndpoint.f
    exact is2_ @laws_toBoxS.f_is @laws_toIntS.f_is
end
section
variable (e : List (S85)) (g : List (S50)) (h : Int) (i : List (S85))
noncomputable def laws_toEndpointS.l0v := Lim fun k => laws_toEndpointS.l0 k e g h
noncomputable def laws_toEndpointS.fv := Lim fun k => laws_toEndpointS.f k i
theorem laws_toEndpointS.l0_is : Is (fun k => laws_toEndpointS.l0 k e g h) (laws_toEndpointS.l0v e g h) := ⟨fun k => (laws_toEndpointS.mono_l k) e g h, rfl⟩
theorem laws_toEndpointS.f_is : Is (fun k => laws_toEndpointS.f k i) (laws_toEndpointS.fv i) := ⟨fun k => laws_toEndpointS.mono i k, rfl⟩
theorem laws_toEndpointS.l0v_eq : laws_toEndpointS.l0v e g h = if h < (e.length : Int) then (if 0 ≤ h then ((laws_toEndpoint.fv ((rd_T85 e h).f0) ((rd_T85 e h).f1) ((rd_T85 e h).f2) ((rd_T85 e h).f3)).bind fun i => (if h < (g.length : Int) then (laws_toEndpointS.l0v e (g.set (h : Int).toNat (⟨i.1, i.2.1, i.2.2.1, i.2.2.2⟩ : S50)) (wrap64 (h + 1))) else (none))) else (none)) else (some g) := by
  refine Is.step (laws_toEndpointS.l0_is e g h).mo (fun k => by rw [laws_toEndpointS.l0]) ?_
  exact is2_ @laws_toEndpoint.f_is @laws_toEndpointS.l0_is
theorem laws_toEndpointS.fv_eq : laws_toEndpointS.fv i = if 0 ≤ (i.length : Int) then (if ((i.length : Int) : Int).toNat ≤ 3518437208883 then (laws_toEndpointS.l0v i (List.replicate ((i.length : Int) : Int).toNat z50) 0) else (none)) else (none) := by
  refine Is.lim (g := fun k => laws_toEndpointS.f k i) ?_
  · unfold laws_toEndpointS.f
    exact is1_ @laws_toEndpointS.l0_is
end
section
variable (g : Int) (h : List Int) (i : Int) (j : Bool)
noncomputable def laws_toRollout.fv := Lim fun k => laws_toRollout.f k g h i j
theorem laws_toRollout.f_is : Is (fun k => laws_toRollout.f k g h i j) (laws_toRollout.fv g h i j) := ⟨fun k => laws_toRollout.mono g h i j k, rfl⟩
theorem laws_toRollout.fv_eq : laws_toRollout.fv g h i j = (laws_toIntS.fv h).bind fun e => (some (g, e, i, j)) := by
  refine Is.lim (g := fun k => laws_toRollout.f k g h i j) ?_
  · unfold laws_toRollout.f
    exact is1_ @laws_toIntS.f_is
end
section
variable (e : Bool) (g : Int) (h : List Int)
noncomputable def laws_toDeal.fv := Lim fun k => laws_toDeal.f k e g h
theorem laws_toDeal.f_is : Is (fun k => laws_toDeal.f k e g h) (laws_toDeal.fv e g h) := ⟨fun k => laws_toDeal.mono e g h k, rfl⟩
theorem laws_toDeal.fv_eq : laws_toDeal.fv e g h = (laws_toIntS.fv h).bind fun d => (some (e, g, d)) := by
  refine Is.lim (g := fun k => laws_toDeal.f k e g h) ?_
  · unfold laws_toDeal.f
    exact is1_ @laws_toIntS.f_is
end
section
variable (i : Bool) (j : Int) (l : List Int) (m : Int) (n : List Int)
noncomputable def laws_toDialed.fv := Lim fun k => laws_toDialed.f k i j l m n
theorem laws_toDialed.f_is : Is (fun k => laws_toDialed.f k i j l m n) (laws_toDialed.fv i j l m n) := ⟨fun k => laws_toDialed.mono i j l m n k, rfl⟩
theorem laws_toDialed.fv_eq : laws_toDialed.fv i j l m n = (laws_toDeal.fv i j l).bind fun a => ((laws_toIntS.fv n).bind fun h => (some (a.1, a.2.1, a.2.2, m, h))) := by
  refine Is.lim (g := fun k => laws_toDialed.f k i j l m n) ?_
  · unfold laws_toDialed.f
    exact is2_ @laws_toDeal.f_is @laws_toIntS.f_is
end
section
variable (e : List (S89)) (g : List (S55)) (h : Int) (i : List (S89))
noncomputable def laws_toDialedS.l0v := Lim fun k => laws_toDialedS.l0 k e g h
noncomputable def laws_toDialedS.fv := Lim fun k => laws_toDialedS.f k i
theorem laws_toDialedS.l0_is : Is (fun k => laws_toDialedS.l0 k e g h) (laws_toDialedS.l0v e g h) := ⟨fun k => (laws_toDialedS.mono_l k) e g h, rfl⟩
theorem laws_toDialedS.f_is : Is (fun k => laws_toDialedS.f k i) (laws_toDialedS.fv i) := ⟨fun k => laws_toDialedS.mono i k, rfl⟩
theorem laws_toDialedS.l0v_eq : laws_toDialedS.l0v e g h = if h < (e.length : Int) then (if 0 ≤ h then ((laws_toDialed.fv ((rd_T89 e h).f0.f0) ((rd_T89 e h).f0.f1) ((rd_T89 e h).f0.f2) ((rd_T89 e h).f1) ((rd_T89 e h).f2)).bind fun i => (if h < (g.length : Int) then (laws_toDialedS.l0v e (g.set (h : Int).toNat (⟨(⟨i.1, i.2.1, i.2.2.1⟩ : S53), i.2.2.2.1, i.2.2.2.2⟩ : S55)) (wrap64 (h + 1))) else (none))) else (none)) else (some g) := by
  refine Is.step (laws_toDialedS.l0_is e g h).mo (fun k => by rw [laws_toDialedS.l0]) ?_
  exact is2_ @laws_toDialed.f_is @laws_toDialedS.l0_is
theorem laws_toDialedS.fv_eq : laws_toDialedS.fv i = if 0 ≤ (i.length : Int) then (if ((i.length : Int) : Int).toNat ≤ 3909374676536 then (laws_toDialedS.l0v i (List.replicate ((i.length : Int) : Int).toNat z55) 0) else (none)) else (none) := by
  refine Is.lim (g := fun k => laws_toDialedS.f k i) ?_
  · unfold laws_toDialedS.f
    exact is1_ @laws_toDialedS.l0_is
end
section
variable (l m : Int) (n o : Bool) (p : Int) (q : List Int) (r : Int) (s : List Int)
noncomputable def laws_toLogged.fv := Lim fun k => laws_toLogged.f k l m n o p q r s
theorem laws_toLogged.f_is : Is (fun k => laws_toLogged.f k l m n o p q r s) (laws_toLogged.fv l m n o p q r s) := ⟨fun k => laws_toLogged.mono l m n o p q r s k, rfl⟩
theorem laws_toLogged.fv_eq : laws_toLogged.fv l m n o p q r s = (laws_toDialed.fv o p q r s).bind fun a => (some (l, m, n, a.1, a.2.1, a.2.2.1, a.2.2.2.1, a.2.2.2.2)) := by
  refine Is.lim (g := fun k => laws_toLogged.f k l m n o p q r s) ?_
  · unfold laws_toLogged.f
    exact is1_ @laws_toDialed.f_is
end
end Go.Proofs.Ytchnkakjjbfklaa.Print

/- Written by a program of this session (limx.py): the equations of what the printed functions come to. No condition. -/
namespace Go.Proofs.Ytchnkakjjbfklaa.Print
open Go.RowKit Go.Proofs.YtchnkakjjbfklaaW.PrintWords Go.Proofs.YtchnkakjjbfklaaW.PrintLast Go.Proofs.Ytchnkakjjbfklaa.Base
set_option linter.unusedVariables false
set_option maxRecDepth 20000
noncomputable def laws_eqIntS.l0v (d : List Int) (e : List Int) (f : Int) : Option (Bool) := Lim fun k => laws_eqIntS.l0 k d e f
noncomputable def laws_eqIntS.fv (f : List Int) (d : List Int) : Option (Bool) := Lim fun k => laws_eqIntS.f k f d
theorem laws_eqIntS.l0_is (d : List Int) (e : List Int) (f : Int) : Is (fun k => laws_eqIntS.l0 k d e f) (laws_eqIntS.l0v d e f) := ⟨fun k => (laws_eqIntS.mono_l k) d e f, rfl⟩
theorem laws_eqIntS.f_is (f : List Int) (d : List Int) : Is (fun k => laws_eqIntS.f k f d) (laws_eqIntS.fv f d) := ⟨fun k => laws_eqIntS.mono f d k, rfl⟩
theorem laws_eqIntS.l0v_eq (d : List Int) (e : List Int) (f : Int) : laws_eqIntS.l0v d e f = if f < (d.length : Int) then (if 0 ≤ f then (if f < (e.length : Int) then (if (rd d f) = (rd e f) then (laws_eqIntS.l0v d e (wrap64 (f + 1))) else (some false)) else (none)) else (none)) else (some true) := by
  refine Is.step (laws_eqIntS.l0_is d e f).mo (fun k => by rw [laws_eqIntS.l0]) ?_
  exact is1_ @laws_eqIntS.l0_is
theorem laws_eqIntS.fv_eq (f : List Int) (d : List Int) : laws_eqIntS.fv f d = if (f.length : Int) = (d.length : Int) then (laws_eqIntS.l0v f d 0) else (some false) := by
  refine Is.lim (g := fun k => laws_eqIntS.f k f d) ?_
  · unfold laws_eqIntS.f
    exact is1_ @laws_eqIntS.l0_is
section
variable (m : Int) (n o : List Int) (p : Bool) (q : Int) (r s : List Int) (t : Bool)
noncomputable def laws_eqBox.fv := Lim fun k => laws_eqBox.f k m n o p q r s t
theorem laws_eqBox.f_is : Is (fun k => laws_eqBox.f k m n o p q r s t) (laws_eqBox.fv m n o p q r s t) := ⟨fun k => laws_eqBox.mono m n o p q r s t k, rfl⟩
theorem laws_eqBox.fv_eq : laws_eqBox.fv m n o p q r s t = if m = q then ((laws_eqIntS.fv n r).bind fun j => (if j = true then ((laws_eqIntS.fv o s).bind fun l => (if l = true then (if p = true then (if t = true then (some true) else (some false)) else (if t = true then (some false) else (some true))) else (some false))) else (some false))) else (some false) := by
  refine Is.lim (g := fun k => laws_eqBox.f k m n o p q r s t) ?_
  · unfold laws_eqBox.f
    exact is1_ @laws_eqIntS.f_is
end
noncomputable def laws_eqBoxS.l0v (e : List (S95)) (g : List (S95)) (h : Int) : Option (Bool) := Lim fun k => laws_eqBoxS.l0 k e g h
noncomputable def laws_eqBoxS.fv (h : List (S95)) (e : List (S95)) : Option (Bool) := Lim fun k => laws_eqBoxS.f k h e
theorem laws_eqBoxS.l0_is (e : List (S95)) (g : List (S95)) (h : Int) : Is (fun k => laws_eqBoxS.l0 k e g h) (laws_eqBoxS.l0v e g h) := ⟨fun k => (laws_eqBoxS.mono_l k) e g h, rfl⟩
theorem laws_eqBoxS.f_is (h : List (S95)) (e : List (S95)) : Is (fun k => laws_eqBoxS.f k h e) (laws_eqBoxS.fv h e) := ⟨fun k => laws_eqBoxS.mono h e k, rfl⟩
theorem laws_eqBoxS.l0v_eq (e : List (S95)) (g : List (S95)) (h : Int) : laws_eqBoxS.l0v e g h = if h < (e.length : Int) then (if 0 ≤ h then (if h < (g.length : Int) then ((laws_eqBox.fv ((rd_T95 e h).f0) ((rd_T95 e h).f1) ((rd_T95 e h).f2) ((rd_T95 e h).f3) ((rd_T95 g h).f0) ((rd_T95 g h).f1) ((rd_T95 g h).f2) ((rd_T95 g h).f3)).bind fun d => (if d = true then (laws_eqBoxS.l0v e g (wrap64 (h + 1))) else (some false))) else (none)) else (none)) else (some true) := by
  refine Is.step (laws_eqBoxS.l0_is e g h).mo (fun k => by rw [laws_eqBoxS.l0]) ?_
  exact is2_ @laws_eqBox.f_is @laws_eqBoxS.l0_is
theorem laws_eqBoxS.fv_eq (h : List (S95)) (e : List (S95)) : laws_eqBoxS.fv h e = if (h.length : Int) = (e.length : Int) then (laws_eqBoxS.l0v h e 0) else (some false) := by
  refine Is.lim (g := fun k => laws_eqBoxS.f k h e) ?_
  · unfold laws_eqBoxS.f
    exact is1_ @laws_eqBoxS.l0_is
section
variable (n o : List Int) (p : List (S95)) (q : Int) (r s : List Int) (t : List (S95)) (u : Int)
noncomputable def laws_eqEndpoint.fv := Lim fun k => laws_eqEndpoint.f k n o p q r s t u
theorem laws_eqEndpoint.f_is : Is (fun k => laws_eqEndpoint.f k n o p q r s t u) (laws_eqEndpoint.fv n o p q r s t u) := ⟨fun k => laws_eqEndpoint.mono n o p q r s t u k, rfl⟩
theorem laws_eqEndpoint.fv_eq : laws_eqEndpoint.fv n o p q r s t u = (laws_eqIntS.fv n r).bind fun j => (if j = true then ((laws_eqIntS.fv o s).bind fun l => (if l = true then ((laws_eqBoxS.fv p t).bind fun m => (if m = true then (if q = u then (some true) else (some false)) else (some false))) else (some false))) else (some false)) := by
  refine Is.lim (g := fun k => laws_eqEndpoint.f k n o p q r s t u) ?_
  · unfold laws_eqEndpoint.f
    exact is2_ @laws_eqBoxS.f_is @laws_eqIntS.f_is
end
end Go.Proofs.Ytchnkakjjbfklaa.Print

/- Written by a program of this session (limx.py): the equations of what the printed functions come to. No condition. -/
namespace Go.Proofs.Ytchnkakjjbfklaa.Print
open Go.RowKit Go.Proofs.YtchnkakjjbfklaaW.PrintWords Go.Proofs.YtchnkakjjbfklaaW.PrintLast Go.Proofs.Ytchnkakjjbfklaa.Base
set_option linter.unusedVariables false
set_option maxRecDepth 20000
section
variable (e : List (S117)) (g : Int) (i : List (S117)) (h : Int)
noncomputable def laws_szBoxS.l0v := Lim fun k => laws_szBoxS.l0 k e g h
noncomputable def laws_szBoxS.fv := Lim fun k => laws_szBoxS.f k i h
theorem laws_szBoxS.l0_is : Is (fun k => laws_szBoxS.l0 k e g h) (laws_szBoxS.l0v e g h) := ⟨fun k => (laws_szBoxS.mono_l k) e g h, rfl⟩
theorem laws_szBoxS.f_is : Is (fun k => laws_szBoxS.f k i h) (laws_szBoxS.fv i h) := ⟨fun k => laws_szBoxS.mono i h k, rfl⟩
theorem laws_szBoxS.l0v_eq : laws_szBoxS.l0v e g h = if h < (e.length : Int) then (if 0 ≤ h then ((laws_szBox.f ((rd_T117 e h).f0) ((rd_T117 e h).f1) ((rd_T117 e h).f2) ((rd_T117 e h).f3) g).bind fun i => (if i < 0 then (some (-1)) else (laws_szBoxS.l0v e i (wrap64 (h + 1))))) else (none)) else (some g) := by
  refine Is.step (laws_szBoxS.l0_is e g h).mo (fun k => by rw [laws_szBoxS.l0]) ?_
  exact is1_ @laws_szBoxS.l0_is
theorem laws_szBoxS.fv_eq : laws_szBoxS.fv i h = if (wrap64 (h - (i.length : Int))) < 0 then (some (-1)) else (laws_szBoxS.l0v i (wrap64 (h - (i.length : Int))) 0) := by
  refine Is.lim (g := fun k => laws_szBoxS.f k i h) ?_
  · unfold laws_szBoxS.f
    exact is1_ @laws_szBoxS.l0_is
end
section
variable (j l : List Int) (m : List (S117)) (n o : Int)
noncomputable def laws_szEndpoint.fv := Lim fun k => laws_szEndpoint.f k j l m n o
theorem laws_szEndpoint.f_is : Is (fun k => laws_szEndpoint.f k j l m n o) (laws_szEndpoint.fv j l m n o) := ⟨fun k => laws_szEndpoint.mono j l m n o k, rfl⟩
theorem laws_szEndpoint.fv_eq : laws_szEndpoint.fv j l m n o = (laws_szIntS.f j o).bind fun a => (if a < 0 then (some (-1)) else ((laws_szIntS.f l a).bind fun b => (if b < 0 then (some (-1)) else ((laws_szBoxS.fv m b).bind fun c => (if c < 0 then (some (-1)) else (some c)))))) := by
  refine Is.lim (g := fun k => laws_szEndpoint.f k j l m n o) ?_
  · unfold laws_szEndpoint.f
    exact is1_ @laws_szBoxS.f_is
end
section
variable (e : List (S85)) (g : Int) (i : List (S85)) (h : Int)
noncomputable def laws_szEndpointS.l0v := Lim fun k => laws_szEndpointS.l0 k e g h
noncomputable def laws_szEndpointS.fv := Lim fun k => laws_szEndpointS.f k i h
theorem laws_szEndpointS.l0_is : Is (fun k => laws_szEndpointS.l0 k e g h) (laws_szEndpointS.l0v e g h) := ⟨fun k => (laws_szEndpointS.mono_l k) e g h, rfl⟩
theorem laws_szEndpointS.f_is : Is (fun k => laws_szEndpointS.f k i h) (laws_szEndpointS.fv i h) := ⟨fun k => laws_szEndpointS.mono i h k, rfl⟩
theorem laws_szEndpointS.l0v_eq : laws_szEndpointS.l0v e g h = if h < (e.length : Int) then (if 0 ≤ h then ((laws_szEndpoint.fv ((rd_T85 e h).f0) ((rd_T85 e h).f1) ((rd_T85 e h).f2) ((rd_T85 e h).f3) g).bind fun i => (if i < 0 then (some (-1)) else (laws_szEndpointS.l0v e i (wrap64 (h + 1))))) else (none)) else (some g) := by
  refine Is.step (laws_szEndpointS.l0_is e g h).mo (fun k => by rw [laws_szEndpointS.l0]) ?_
  exact is2_ @laws_szEndpoint.f_is @laws_szEndpointS.l0_is
theorem laws_szEndpointS.fv_eq : laws_szEndpointS.fv i h = if (wrap64 (h - (i.length : Int))) < 0 then (some (-1)) else (laws_szEndpointS.l0v i (wrap64 (h - (i.length : Int))) 0) := by
  refine Is.lim (g := fun k => laws_szEndpointS.f k i h) ?_
  · unfold laws_szEndpointS.f
    exact is1_ @laws_szEndpointS.l0_is
end
section
variable (e : List (S89)) (g : Int) (i : List (S89)) (h : Int)
noncomputable def laws_szDialedS.l0v := Lim fun k => laws_szDialedS.l0 k e g h
noncomputable def laws_szDialedS.fv := Lim fun k => laws_szDialedS.f k i h
theorem laws_szDialedS.l0_is : Is (fun k => laws_szDialedS.l0 k e g h) (laws_szDialedS.l0v e g h) := ⟨fun k => (laws_szDialedS.mono_l k) e g h, rfl⟩
theorem laws_szDialedS.f_is : Is (fun k => laws_szDialedS.f k i h) (laws_szDialedS.fv i h) := ⟨fun k => laws_szDialedS.mono i h k, rfl⟩
theorem laws_szDialedS.l0v_eq : laws_szDialedS.l0v e g h = if h < (e.length : Int) then (if 0 ≤ h then ((laws_szDialed.f ((rd_T89 e h).f0.f0) ((rd_T89 e h).f0.f1) ((rd_T89 e h).f0.f2) ((rd_T89 e h).f1) ((rd_T89 e h).f2) g).bind fun i => (if i < 0 then (some (-1)) else (laws_szDialedS.l0v e i (wrap64 (h + 1))))) else (none)) else (some g) := by
  refine Is.step (laws_szDialedS.l0_is e g h).mo (fun k => by rw [laws_szDialedS.l0]) ?_
  exact is1_ @laws_szDialedS.l0_is
theorem laws_szDialedS.fv_eq : laws_szDialedS.fv i h = if (wrap64 (h - (i.length : Int))) < 0 then (some (-1)) else (laws_szDialedS.l0v i (wrap64 (h - (i.length : Int))) 0) := by
  refine Is.lim (g := fun k => laws_szDialedS.f k i h) ?_
  · unfold laws_szDialedS.f
    exact is1_ @laws_szDialedS.l0_is
end
end Go.Proofs.Ytchnkakjjbfklaa.Print

/- Written by a program of this session (limx.py): the equations of what the printed functions come to. No condition. -/
namespace Go.Proofs.Ytchnkakjjbfklaa.Print
open Go.RowKit Go.Proofs.YtchnkakjjbfklaaW.PrintWords Go.Proofs.YtchnkakjjbfklaaW.PrintLast Go.Proofs.Ytchnkakjjbfklaa.Base
set_option linter.unusedVariables false
set_option maxRecDepth 20000
noncomputable def laws_eqEndpointS.l0v (e : List (S50)) (g : List (S50)) (h : Int) : Option (Bool) := Lim fun k => laws_eqEndpointS.l0 k e g h
noncomputable def laws_eqEndpointS.fv (h : List (S50)) (e : List (S50)) : Option (Bool) := Lim fun k => laws_eqEndpointS.f k h e
theorem laws_eqEndpointS.l0_is (e : List (S50)) (g : List (S50)) (h : Int) : Is (fun k => laws_eqEndpointS.l0 k e g h) (laws_eqEndpointS.l0v e g h) := ⟨fun k => (laws_eqEndpointS.mono_l k) e g h, rfl⟩
theorem laws_eqEndpointS.f_is (h : List (S50)) (e : List (S50)) : Is (fun k => laws_eqEndpointS.f k h e) (laws_eqEndpointS.fv h e) := ⟨fun k => laws_eqEndpointS.mono h e k, rfl⟩
theorem laws_eqEndpointS.l0v_eq (e : List (S50)) (g : List (S50)) (h : Int) : laws_eqEndpointS.l0v e g h = if h < (e.length : Int) then (if 0 ≤ h then (if h < (g.length : Int) then ((laws_eqEndpoint.fv ((rd_T50 e h).f0) ((rd_T50 e h).f1) ((rd_T50 e h).f2) ((rd_T50 e h).f3) ((rd_T50 g h).f0) ((rd_T50 g h).f1) ((rd_T50 g h).f2) ((rd_T50 g h).f3)).bind fun d => (if d = true then (laws_eqEndpointS.l0v e g (wrap64 (h + 1))) else (some false))) else (none)) else (none)) else (some true) := by
  refine Is.step (laws_eqEndpointS.l0_is e g h).mo (fun k => by rw [laws_eqEndpointS.l0]) ?_
  exact is2_ @laws_eqEndpoint.f_is @laws_eqEndpointS.l0_is
theorem laws_eqEndpointS.fv_eq (h : List (S50)) (e : List (S50)) : laws_eqEndpointS.fv h e = if (h.length : Int) = (e.length : Int) then (laws_eqEndpointS.l0v h e 0) else (some false) := by
  refine Is.lim (g := fun k => laws_eqEndpointS.f k h e) ?_
  · unfold laws_eqEndpointS.f
    exact is1_ @laws_eqEndpointS.l0_is
section
variable (l : Int) (m : List Int) (n : Int) (o : Bool) (p : Int) (q : List Int) (r : Int) (s : Bool)
noncomputable def laws_eqRollout.fv := Lim fun k => laws_eqRollout.f k l m n o p q r s
theorem laws_eqRollout.f_is : Is (fun k => laws_eqRollout.f k l m n o p q r s) (laws_eqRollout.fv l m n o p q r s) := ⟨fun k => laws_eqRollout.mono l m n o p q r s k, rfl⟩
theorem laws_eqRollout.fv_eq : laws_eqRollout.fv l m n o p q r s = if l = p then ((laws_eqIntS.fv m q).bind fun j => (if j = true then (if n = r then (if o = true then (if s = true then (some true) else (some false)) else (if s = true then (some false) else (some true))) else (some false)) else (some false))) else (some false) := by
  refine Is.lim (g := fun k => laws_eqRollout.f k l m n o p q r s) ?_
  · unfold laws_eqRollout.f
    exact is1_ @laws_eqIntS.f_is
end
section
variable (j : Bool) (l : Int) (m : List Int) (n : Bool) (o : Int) (p : List Int)
noncomputable def laws_eqDeal.fv := Lim fun k => laws_eqDeal.f k j l m n o p
theorem laws_eqDeal.f_is : Is (fun k => laws_eqDeal.f k j l m n o p) (laws_eqDeal.fv j l m n o p) := ⟨fun k => laws_eqDeal.mono j l m n o p k, rfl⟩
theorem laws_eqDeal.fv_eq : laws_eqDeal.fv j l m n o p = if j = true then (if n = true then (if l = o then ((laws_eqIntS.fv m p).bind fun h => (if h = true then (some true) else (some false))) else (some false)) else (some false)) else (if n = true then (some false) else (if l = o then ((laws_eqIntS.fv m p).bind fun i => (if i = true then (some true) else (some false))) else (some false))) := by
  refine Is.lim (g := fun k => laws_eqDeal.f k j l m n o p) ?_
  · unfold laws_eqDeal.f
    exact is1_ @laws_eqIntS.f_is
end
section
variable (o : Bool) (p : Int) (q : List Int) (r : Int) (s : List Int) (t : Bool) (u : Int) (v : List Int) (w : Int) (x : List Int)
noncomputable def laws_eqDialed.fv := Lim fun k => laws_eqDialed.f k o p q r s t u v w x
theorem laws_eqDialed.f_is : Is (fun k => laws_eqDialed.f k o p q r s t u v w x) (laws_eqDialed.fv o p q r s t u v w x) := ⟨fun k => laws_eqDialed.mono o p q r s t u v w x k, rfl⟩
theorem laws_eqDialed.fv_eq : laws_eqDialed.fv o p q r s t u v w x = (laws_eqDeal.fv o p q t u v).bind fun m => (if m = true then (if r = w then ((laws_eqIntS.fv s x).bind fun n => (if n = true then (some true) else (some false))) else (some false)) else (some false)) := by
  refine Is.lim (g := fun k => laws_eqDialed.f k o p q r s t u v w x) ?_
  · unfold laws_eqDialed.f
    exact is2_ @laws_eqDeal.f_is @laws_eqIntS.f_is
end
end Go.Proofs.Ytchnkakjjbfklaa.Print

/- Written by a program of this session (limx.py): the equations of what the printed functions come to. No condition. -/
namespace Go.Proofs.Ytchnkakjjbfklaa.Print
open Go.RowKit Go.Proofs.YtchnkakjjbfklaaW.PrintWords Go.Proofs.YtchnkakjjbfklaaW.PrintLast Go.Proofs.Ytchnkakjjbfklaa.Base
set_option linter.unusedVariables false
set_option maxRecDepth 20000
noncomputable def laws_eqDialedS.l0v (e : List (S55)) (g : List (S55)) (h : Int) : Option (Bool) := Lim fun k => laws_eqDialedS.l0 k e g h
noncomputable def laws_eqDialedS.fv (h : List (S55)) (e : List (S55)) : Option (Bool) := Lim fun k => laws_eqDialedS.f k h e
theorem laws_eqDialedS.l0_is (e : List (S55)) (g : List (S55)) (h : Int) : Is (fun k => laws_eqDialedS.l0 k e g h) (laws_eqDialedS.l0v e g h) := ⟨fun k => (laws_eqDialedS.mono_l k) e g h, rfl⟩
theorem laws_eqDialedS.f_is (h : List (S55)) (e : List (S55)) : Is (fun k => laws_eqDialedS.f k h e) (laws_eqDialedS.fv h e) := ⟨fun k => laws_eqDialedS.mono h e k, rfl⟩
theorem laws_eqDialedS.l0v_eq (e : List (S55)) (g : List (S55)) (h : Int) : laws_eqDialedS.l0v e g h = if h < (e.length : Int) then (if 0 ≤ h then (if h < (g.length : Int) then ((laws_eqDialed.fv ((rd_T55 e h).f0.f0) ((rd_T55 e h).f0.f1) ((rd_T55 e h).f0.f2) ((rd_T55 e h).f1) ((rd_T55 e h).f2) ((rd_T55 g h).f0.f0) ((rd_T55 g h).f0.f1) ((rd_T55 g h).f0.f2) ((rd_T55 g h).f1) ((rd_T55 g h).f2)).bind fun d => (if d = true then (laws_eqDialedS.l0v e g (wrap64 (h + 1))) else (some false))) else (none)) else (none)) else (some true) := by
  refine Is.step (laws_eqDialedS.l0_is e g h).mo (fun k => by rw [laws_eqDialedS.l0]) ?_
  exact is2_ @laws_eqDialed.f_is @laws_eqDialedS.l0_is
theorem laws_eqDialedS.fv_eq (h : List (S55)) (e : List (S55)) : laws_eqDialedS.fv h e = if (h.length : Int) = (e.length : Int) then (laws_eqDialedS.l0v h e 0) else (some false) := by
  refine Is.lim (g := fun k => laws_eqDialedS.f k h e) ?_
  · unfold laws_eqDialedS.f
    exact is1_ @laws_eqDialedS.l0_is
section
variable (u v : Int) (w x : Bool) (y : Int) (z : List Int) (A : Int) (B : List Int) (C D : Int) (E F : Bool) (G : Int) (H : List Int) (I : Int) (J : List Int)
noncomputable def laws_eqLogged.fv := Lim fun k => laws_eqLogged.f k u v w x y z A B C D E F G H I J
theorem laws_eqLogged.f_is : Is (fun k => laws_eqLogged.f k u v w x y z A B C D E F G H I J) (laws_eqLogged.fv u v w x y z A B C D E F G H I J) := ⟨fun k => laws_eqLogged.mono u v w x y z A B C D E F G H I J k, rfl⟩
theorem laws_eqLogged.fv_eq : laws_eqLogged.fv u v w x y z A B C D E F G H I J = if u = C then (if v = D then (if w = true then (if E = true then ((laws_eqDialed.fv x y z A B F G H I J).bind fun s => (if s = true then (some true) else (some false))) else (some false)) else (if E = true then (some false) else ((laws_eqDialed.fv x y z A B F G H I J).bind fun t => (if t = true then (some true) else (some false))))) else (some false)) else (some false) := by
  refine Is.lim (g := fun k => laws_eqLogged.f k u v w x y z A B C D E F G H I J) ?_
  · unfold laws_eqLogged.f
    exact is1_ @laws_eqDialed.f_is
end
noncomputable def laws_eqLoggedS.l0v (e : List (S57)) (g : List (S57)) (h : Int) : Option (Bool) := Lim fun k => laws_eqLoggedS.l0 k e g h
noncomputable def laws_eqLoggedS.fv (h : List (S57)) (e : List (S57)) : Option (Bool) := Lim fun k => laws_eqLoggedS.f k h e
theorem laws_eqLoggedS.l0_is (e : List (S57)) (g : List (S57)) (h : Int) : Is (fun k => laws_eqLoggedS.l0 k e g h) (laws_eqLoggedS.l0v e g h) := ⟨fun k => (laws_eqLoggedS.mono_l k) e g h, rfl⟩
theorem laws_eqLoggedS.f_is (h : List (S57)) (e : List (S57)) : Is (fun k => laws_eqLoggedS.f k h e) (laws_eqLoggedS.fv h e) := ⟨fun k => laws_eqLoggedS.mono h e k, rfl⟩
theorem laws_eqLoggedS.l0v_eq (e : List (S57)) (g : List (S57)) (h : Int) : laws_eqLoggedS.l0v e g h = if h < (e.length : Int) then (if 0 ≤ h then (if h < (g.length : Int) then ((laws_eqLogged.fv ((rd_T57 e h).f0) ((rd_T57 e h).f1) ((rd_T57 e h).f2) ((rd_T57 e h).f3.f0.f0) ((rd_T57 e h).f3.f0.f1) ((rd_T57 e h).f3.f0.f2) ((rd_T57 e h).f3.f1) ((rd_T57 e h).f3.f2) ((rd_T57 g h).f0) ((rd_T57 g h).f1) ((rd_T57 g h).f2) ((rd_T57 g h).f3.f0.f0) ((rd_T57 g h).f3.f0.f1) ((rd_T57 g h).f3.f0.f2) ((rd_T57 g h).f3.f1) ((rd_T57 g h).f3.f2)).bind fun d => (if d = true then (laws_eqLoggedS.l0v e g (wrap64 (h + 1))) else (some false))) else (none)) else (none)) else (some true) := by
  refine Is.step (laws_eqLoggedS.l0_is e g h).mo (fun k => by rw [laws_eqLoggedS.l0]) ?_
  exact is2_ @laws_eqLogged.f_is @laws_eqLoggedS.l0_is
theorem laws_eqLoggedS.fv_eq (h : List (S57)) (e : List (S57)) : laws_eqLoggedS.fv h e = if (h.length : Int) = (e.length : Int) then (laws_eqLoggedS.l0v h e 0) else (some false) := by
  refine Is.lim (g := fun k => laws_eqLoggedS.f k h e) ?_
  · unfold laws_eqLoggedS.f
    exact is1_ @laws_eqLoggedS.l0_is
end Go.Proofs.Ytchnkakjjbfklaa.Print

/- Written by a program of this session (limx.py): the equations of what the printed functions come to. No condition. -/
namespace Go.Proofs.Ytchnkakjjbfklaa.Print
open Go.RowKit Go.Proofs.YtchnkakjjbfklaaW.PrintWords Go.Proofs.YtchnkakjjbfklaaW.PrintLast Go.Proofs.Ytchnkakjjbfklaa.Base
set_option linter.unusedVariables false
set_option maxRecDepth 20000
noncomputable def laws_szLoggedS.l0v (e : List (S92)) (g : Int) (h : Int) : Option (Int) := Lim fun k => laws_szLoggedS.l0 k e g h
noncomputable def laws_szLoggedS.fv (h : List (S92)) (e : Int) : Option (Int) := Lim fun k => laws_szLoggedS.f k h e
theorem laws_szLoggedS.l0_is (e : List (S92)) (g : Int) (h : Int) : Is (fun k => laws_szLoggedS.l0 k e g h) (laws_szLoggedS.l0v e g h) := ⟨fun k => (laws_szLoggedS.mono_l k) e g h, rfl⟩
theorem laws_szLoggedS.f_is (h : List (S92)) (e : Int) : Is (fun k => laws_szLoggedS.f k h e) (laws_szLoggedS.fv h e) := ⟨fun k => laws_szLoggedS.mono h e k, rfl⟩
theorem laws_szLoggedS.l0v_eq (e : List (S92)) (g : Int) (h : Int) : laws_szLoggedS.l0v e g h = if h < (e.length : Int) then (if 0 ≤ h then ((laws_szLogged.f ((rd_T92 e h).f0) ((rd_T92 e h).f1) ((rd_T92 e h).f2) ((rd_T92 e h).f3.f0.f0) ((rd_T92 e h).f3.f0.f1) ((rd_T92 e h).f3.f0.f2) ((rd_T92 e h).f3.f1) ((rd_T92 e h).f3.f2) g).bind fun c => (if c < 0 then (some (-1)) else (laws_szLoggedS.l0v e c (wrap64 (h + 1))))) else (none)) else (some g) := by
  refine Is.step (laws_szLoggedS.l0_is e g h).mo (fun k => by rw [laws_szLoggedS.l0]) ?_
  exact is1_ @laws_szLoggedS.l0_is
theorem laws_szLoggedS.fv_eq (h : List (S92)) (e : Int) : laws_szLoggedS.fv h e = if (wrap64 (e - (h.length : Int))) < 0 then (some (-1)) else (laws_szLoggedS.l0v h (wrap64 (e - (h.length : Int))) 0) := by
  refine Is.lim (g := fun k => laws_szLoggedS.f k h e) ?_
  · unfold laws_szLoggedS.f
    exact is1_ @laws_szLoggedS.l0_is
section
variable (y z : List Int) (A : Int) (B : List (S85)) (C : Int) (D : List Int) (E : Int) (F : Bool) (G H : Int) (I : List (S89)) (J : List (S92)) (K L M N : Int)
noncomputable def laws_szWorld.fv := Lim fun k => laws_szWorld.f k y z A B C D E F G H I J K L M N
theorem laws_szWorld.f_is : Is (fun k => laws_szWorld.f k y z A B C D E F G H I J K L M N) (laws_szWorld.fv y z A B C D E F G H I J K L M N) := ⟨fun k => laws_szWorld.mono y z A B C D E F G H I J K L M N k, rfl⟩
theorem laws_szWorld.fv_eq : laws_szWorld.fv y z A B C D E F G H I J K L M N = (laws_szIntS.f y N).bind fun a => (if a < 0 then (some (-1)) else ((laws_szIntS.f z a).bind fun b => (if b < 0 then (some (-1)) else ((laws_szEndpointS.fv B b).bind fun c => (if c < 0 then (some (-1)) else ((laws_szRollout.f C D E F c).bind fun d => (if d < 0 then (some (-1)) else ((laws_szDialedS.fv I d).bind fun e => (if e < 0 then (some (-1)) else ((laws_szLoggedS.fv J e).bind fun g => (if g < 0 then (some (-1)) else (some g)))))))))))) := by
  refine Is.lim (g := fun k => laws_szWorld.f k y z A B C D E F G H I J K L M N) ?_
  · unfold laws_szWorld.f
    exact is3_ @laws_szDialedS.f_is @laws_szEndpointS.f_is @laws_szLoggedS.f_is
end
noncomputable def spec_EqualInts.l0v (d : List Int) (e : List Int) (f : Int) : Option (Bool) := Lim fun k => spec_EqualInts.l0 k d e f
noncomputable def spec_EqualInts.fv (f : List Int) (d : List Int) : Option (Bool) := Lim fun k => spec_EqualInts.f k f d
theorem spec_EqualInts.l0_is (d : List Int) (e : List Int) (f : Int) : Is (fun k => spec_EqualInts.l0 k d e f) (spec_EqualInts.l0v d e f) := ⟨fun k => (spec_EqualInts.mono_l k) d e f, rfl⟩
theorem spec_EqualInts.f_is (f : List Int) (d : List Int) : Is (fun k => spec_EqualInts.f k f d) (spec_EqualInts.fv f d) := ⟨fun k => spec_EqualInts.mono f d k, rfl⟩
theorem spec_EqualInts.l0v_eq (d : List Int) (e : List Int) (f : Int) : spec_EqualInts.l0v d e f = if f < (d.length : Int) then (if 0 ≤ f then (if f < (e.length : Int) then (if (rd d f) = (rd e f) then (spec_EqualInts.l0v d e (wrap64 (f + 1))) else (some false)) else (none)) else (none)) else (some true) := by
  refine Is.step (spec_EqualInts.l0_is d e f).mo (fun k => by rw [spec_EqualInts.l0]) ?_
  exact is1_ @spec_EqualInts.l0_is
theorem spec_EqualInts.fv_eq (f : List Int) (d : List Int) : spec_EqualInts.fv f d = if (f.length : Int) = (d.length : Int) then (spec_EqualInts.l0v f d 0) else (some false) := by
  refine Is.lim (g := fun k => spec_EqualInts.f k f d) ?_
  · unfold spec_EqualInts.f
    exact is1_ @spec_EqualInts.l0_is
section
variable (o : Int) (p q : List Int) (r : Bool) (s : Int) (t u : List Int) (v : Bool)
noncomputable def spec_EqualBoxes.fv := Lim fun k => spec_EqualBoxes.f k o p q r s t u v
theorem spec_EqualBoxes.f_is : Is (fun k => spec_EqualBoxes.f k o p q r s t u v) (spec_EqualBoxes.fv o p q r s t u v) := ⟨fun k => spec_EqualBoxes.mono o p q r s t u v k, rfl⟩
theorem spec_EqualBoxes.fv_eq : spec_EqualBoxes.fv o p q r s t u v = if o = s then (if r = true then (if v = true then ((spec_EqualInts.fv p t).bind fun j => (if j = true then ((spec_EqualInts.fv q u).bind fun l => (some l)) else (some false))) else (some false)) else (if v = true then (some false) else ((spec_EqualInts.fv p t).bind fun m => (if m = true then ((spec_EqualInts.fv q u).bind fun n => (some n)) else (some false))))) else (some false) := by
  refine Is.lim (g := fun k => spec_EqualBoxes.f k o p q r s t u v) ?_
  · unfold spec_EqualBoxes.f
    exact is1_ @spec_EqualInts.f_is
end
end Go.Proofs.Ytchnkakjjbfklaa.Print

/- Written by a program of this session (limx.py): the equations of what the printed functions come to. No condition. -/
namespace Go.Proofs.Ytchnkakjjbfklaa.Print
open Go.RowKit Go.Proofs.YtchnkakjjbfklaaW.PrintWords Go.Proofs.YtchnkakjjbfklaaW.PrintLast Go.Proofs.Ytchnkakjjbfklaa.Base
set_option linter.unusedVariables false
set_option maxRecDepth 20000
section
variable (e : List (S92)) (g : List (S57)) (h : Int) (i : List (S92))
noncomputable def laws_toLoggedS.l0v := Lim fun k => laws_toLoggedS.l0 k e g h
noncomputable def laws_toLoggedS.fv := Lim fun k => laws_toLoggedS.f k i
theorem laws_toLoggedS.l0_is : Is (fun k => laws_toLoggedS.l0 k e g h) (laws_toLoggedS.l0v e g h) := ⟨fun k => (laws_toLoggedS.mono_l k) e g h, rfl⟩
theorem laws_toLoggedS.f_is : Is (fun k => laws_toLoggedS.f k i) (laws_toLoggedS.fv i) := ⟨fun k => laws_toLoggedS.mono i k, rfl⟩
theorem laws_toLoggedS.l0v_eq : laws_toLoggedS.l0v e g h = if h < (e.length : Int) then (if 0 ≤ h then ((laws_toLogged.fv ((rd_T92 e h).f0) ((rd_T92 e h).f1) ((rd_T92 e h).f2) ((rd_T92 e h).f3.f0.f0) ((rd_T92 e h).f3.f0.f1) ((rd_T92 e h).f3.f0.f2) ((rd_T92 e h).f3.f1) ((rd_T92 e h).f3.f2)).bind fun i => (if h < (g.length : Int) then (laws_toLoggedS.l0v e (g.set (h : Int).toNat (⟨i.1, i.2.1, i.2.2.1, (⟨(⟨i.2.2.2.1, i.2.2.2.2.1, i.2.2.2.2.2.1⟩ : S53), i.2.2.2.2.2.2.1, i.2.2.2.2.2.2.2⟩ : S55)⟩ : S57)) (wrap64 (h + 1))) else (none))) else (none)) else (some g) := by
  refine Is.step (laws_toLoggedS.l0_is e g h).mo (fun k => by rw [laws_toLoggedS.l0]) ?_
  exact is2_ @laws_toLogged.f_is @laws_toLoggedS.l0_is
theorem laws_toLoggedS.fv_eq : laws_toLoggedS.fv i = if 0 ≤ (i.length : Int) then (if ((i.length : Int) : Int).toNat ≤ 2932031007402 then (laws_toLoggedS.l0v i (List.replicate ((i.length : Int) : Int).toNat z57) 0) else (none)) else (none) := by
  refine Is.lim (g := fun k => laws_toLoggedS.f k i) ?_
  · unfold laws_toLoggedS.f
    exact is1_ @laws_toLoggedS.l0_is
end
section
variable (x y : List Int) (z : Int) (A : List (S85)) (B : Int) (C : List Int) (D : Int) (E : Bool) (F G : Int) (H : List (S89)) (I : List (S92)) (J K L : Int)
noncomputable def laws_toWorld.fv := Lim fun k => laws_toWorld.f k x y z A B C D E F G H I J K L
theorem laws_toWorld.f_is : Is (fun k => laws_toWorld.f k x y z A B C D E F G H I J K L) (laws_toWorld.fv x y z A B C D E F G H I J K L) := ⟨fun k => laws_toWorld.mono x y z A B C D E F G H I J K L k, rfl⟩
theorem laws_toWorld.fv_eq : laws_toWorld.fv x y z A B C D E F G H I J K L = (laws_toIntS.fv x).bind fun s => ((laws_toIntS.fv y).bind fun t => ((laws_toEndpointS.fv A).bind fun u => ((laws_toRollout.fv B C D E).bind fun a => ((laws_toDialedS.fv H).bind fun v => ((laws_toLoggedS.fv I).bind fun w => (some (s, t, z, u, a.1, a.2.1, a.2.2.1, a.2.2.2, F, G, v, w, J, K, L))))))) := by
  refine Is.lim (g := fun k => laws_toWorld.f k x y z A B C D E F G H I J K L) ?_
  · unfold laws_toWorld.f
    exact is5_ @laws_toDialedS.f_is @laws_toEndpointS.f_is @laws_toIntS.f_is @laws_toLoggedS.f_is @laws_toRollout.f_is
end
noncomputable def slices_Equal_int_int.l0v (e : List Int) (f : List Int) (g : Int) (h : Int) : Option (Bool) := Lim fun k => slices_Equal_int_int.l0 k e f g h
noncomputable def slices_Equal_int_int.fv (h : List Int) (g : List Int) : Option (Bool) := Lim fun k => slices_Equal_int_int.f k h g
theorem slices_Equal_int_int.l0_is (e : List Int) (f : List Int) (g : Int) (h : Int) : Is (fun k => slices_Equal_int_int.l0 k e f g h) (slices_Equal_int_int.l0v e f g h) := ⟨fun k => (slices_Equal_int_int.mono_l k) e f g h, rfl⟩
theorem slices_Equal_int_int.f_is (h : List Int) (g : List Int) : Is (fun k => slices_Equal_int_int.f k h g) (slices_Equal_int_int.fv h g) := ⟨fun k => slices_Equal_int_int.mono h g k, rfl⟩
theorem slices_Equal_int_int.l0v_eq (e : List Int) (f : List Int) (g : Int) (h : Int) : slices_Equal_int_int.l0v e f g h = if h < g then (if 0 ≤ h then (if h < (e.length : Int) then (if h < (f.length : Int) then (if (rd e h) = (rd f h) then (slices_Equal_int_int.l0v e f g (wrap64 (h + 1))) else (some false)) else (none)) else (none)) else (none)) else (some true) := by
  refine Is.step (slices_Equal_int_int.l0_is e f g h).mo (fun k => by rw [slices_Equal_int_int.l0]) ?_
  exact is1_ @slices_Equal_int_int.l0_is
theorem slices_Equal_int_int.fv_eq (h : List Int) (g : List Int) : slices_Equal_int_int.fv h g = if (h.length : Int) = (g.length : Int) then (slices_Equal_int_int.l0v h g (h.length : Int) 0) else (some false) := by
  refine Is.lim (g := fun k => slices_Equal_int_int.f k h g) ?_
  · unfold slices_Equal_int_int.f
    exact is1_ @slices_Equal_int_int.l0_is
section
variable (m : Int) (n o : List Int) (p : Bool) (q : Int) (r s : List Int) (t : Bool)
noncomputable def impl_EqualBoxes.fv := Lim fun k => impl_EqualBoxes.f k m n o p q r s t
theorem impl_EqualBoxes.f_is : Is (fun k => impl_EqualBoxes.f k m n o p q r s t) (impl_EqualBoxes.fv m n o p q r s t) := ⟨fun k => impl_EqualBoxes.mono m n o p q r s t k, rfl⟩
theorem impl_EqualBoxes.fv_eq : impl_EqualBoxes.fv m n o p q r s t = if m = q then ((slices_Equal_int_int.fv n r).bind fun j => (if j = true then ((slices_Equal_int_int.fv o s).bind fun l => (if l = true then (if p = true then (if t = true then (some true) else (some false)) else (if t = true then (some false) else (some true))) else (some false))) else (some false))) else (some false) := by
  refine Is.lim (g := fun k => impl_EqualBoxes.f k m n o p q r s t) ?_
  · unfold impl_EqualBoxes.f
    exact is1_ @slices_Equal_int_int.f_is
end
noncomputable def slices_EqualFunc_impl_Box_impl_Box_impl_Box_impl_Box_with_impl_EqualBoxes.l0v (g : List (S95)) (h : List (S95)) (i : Int) (j : Int) : Option (Bool) := Lim fun k => slices_EqualFunc_impl_Box_impl_Box_impl_Box_impl_Box_with_impl_EqualBoxes.l0 k g h i j
noncomputable def slices_EqualFunc_impl_Box_impl_Box_impl_Box_impl_Box_with_impl_EqualBoxes.fv (j : List (S95)) (h : List (S95)) : Option (Bool) := Lim fun k => slices_EqualFunc_impl_Box_impl_Box_impl_Box_impl_Box_with_impl_EqualBoxes.f k j h
theorem slices_EqualFunc_impl_Box_impl_Box_impl_Box_impl_Box_with_impl_EqualBoxes.l0_is (g : List (S95)) (h : List (S95)) (i : Int) (j : Int) : Is (fun k => slices_EqualFunc_impl_Box_impl_Box_impl_Box_impl_Box_with_impl_EqualBoxes.l0 k g h i j) (slices_EqualFunc_impl_Box_impl_Box_impl_Box_impl_Box_with_impl_EqualBoxes.l0v g h i j) := ⟨fun k => (slices_EqualFunc_impl_Box_impl_Box_impl_Box_impl_Box_with_impl_EqualBoxes.mono_l k) g h i j, rfl⟩
theorem slices_EqualFunc_impl_Box_impl_Box_impl_Box_impl_Box_with_impl_EqualBoxes.f_is (j : List (S95)) (h : List (S95)) : Is (fun k => slices_EqualFunc_impl_Box_impl_Box_impl_Box_impl_Box_with_impl_EqualBoxes.f k j h) (slices_EqualFunc_impl_Box_impl_Box_impl_Box_impl_Box_with_impl_EqualBoxes.fv j h) := ⟨fun k => slices_EqualFunc_impl_Box_impl_Box_impl_Box_impl_Box_with_impl_EqualBoxes.mono j h k, rfl⟩
theorem slices_EqualFunc_impl_Box_impl_Box_impl_Box_impl_Box_with_impl_EqualBoxes.l0v_eq (g : List (S95)) (h : List (S95)) (i : Int) (j : Int) : slices_EqualFunc_impl_Box_impl_Box_impl_Box_impl_Box_with_impl_EqualBoxes.l0v g h i j = if j < i then (if 0 ≤ j then (if j < (h.length : Int) then (if j < (g.length : Int) then ((impl_EqualBoxes.fv ((rd_T95 h j).f0) ((rd_T95 h j).f1) ((rd_T95 h j).f2) ((rd_T95 h j).f3) ((rd_T95 g j).f0) ((rd_T95 g j).f1) ((rd_T95 g j).f2) ((rd_T95 g j).f3)).bind fun d => (if d = true then (slices_EqualFunc_impl_Box_impl_Box_impl_Box_impl_Box_with_impl_EqualBoxes.l0v g h i (wrap64 (j + 1))) else (some false))) else (none)) else (none)) else (none)) else (some true) := by
  refine Is.step (slices_EqualFunc_impl_Box_impl_Box_impl_Box_impl_Box_with_impl_EqualBoxes.l0_is g h i j).mo (fun k => by rw [slices_EqualFunc_impl_Box_impl_Box_impl_Box_impl_Box_with_impl_EqualBoxes.l0]) ?_
  exact is2_ @impl_EqualBoxes.f_is @slices_EqualFunc_impl_Box_impl_Box_impl_Box_impl_Box_with_impl_EqualBoxes.l0_is
theorem slices_EqualFunc_impl_Box_impl_Box_impl_Box_impl_Box_with_impl_EqualBoxes.fv_eq (j : List (S95)) (h : List (S95)) : slices_EqualFunc_impl_Box_impl_Box_impl_Box_impl_Box_with_impl_EqualBoxes.fv j h = if (j.length : Int) = (h.length : Int) then (slices_EqualFunc_impl_Box_impl_Box_impl_Box_impl_Box_with_impl_EqualBoxes.l0v h j (j.length : Int) 0) else (some false) := by
  refine Is.lim (g := fun k => slices_EqualFunc_impl_Box_impl_Box_impl_Box_impl_Box_with_impl_EqualBoxes.f k j h) ?_
  · unfold slices_EqualFunc_impl_Box_impl_Box_impl_Box_impl_Box_with_impl_EqualBoxes.f
    exact is1_ @slices_EqualFunc_impl_Box_impl_Box_impl_Box_impl_Box_with_impl_EqualBoxes.l0_is
section
variable (n o : List Int) (p : List (S95)) (q : Int) (r s : List Int) (t : List (S95)) (u : Int)
noncomputable def impl_EqualEndpoints.fv := Lim fun k => impl_EqualEndpoints.f k n o p q r s t u
theorem impl_EqualEndpoints.f_is : Is (fun k => impl_EqualEndpoints.f k n o p q r s t u) (impl_EqualEndpoints.fv n o p q r s t u) := ⟨fun k => impl_EqualEndpoints.mono n o p q r s t u k, rfl⟩
theorem impl_EqualEndpoints.fv_eq : impl_EqualEndpoints.fv n o p q r s t u = (slices_Equal_int_int.fv n r).bind fun j => (if j = true then ((slices_Equal_int_int.fv o s).bind fun l => (if l = true then ((slices_EqualFunc_impl_Box_impl_Box_impl_Box_impl_Box_with_impl_EqualBoxes.fv p t).bind fun m => (if m = true then (some (q == u)) else (some false))) else (some false))) else (some false)) := by
  refine Is.lim (g := fun k => impl_EqualEndpoints.f k n o p q r s t u) ?_
  · unfold impl_EqualEndpoints.f
    exact is2_ @slices_EqualFunc_impl_Box_impl_Box_impl_Box_impl_Box_with_impl_EqualBoxes.f_is @slices_Equal_int_int.f_is
end
end Go.Proofs.Ytchnkakjjbfklaa.Print

/- Written by a program of this session (limx.py): the equations of what the printed functions come to. No condition. -/
namespace Go.Proofs.Ytchnkakjjbfklaa.Print
open Go.RowKit Go.Proofs.YtchnkakjjbfklaaW.PrintWords Go.Proofs.YtchnkakjjbfklaaW.PrintLast Go.Proofs.Ytchnkakjjbfklaa.Base
set_option linter.unusedVariables false
set_option maxRecDepth 20000
section
variable (M N : List Int) (O : Int) (P : List (S50)) (Q : Int) (R : List Int) (S : Int) (T : Bool) (U V : Int) (W : List (S55)) (X : List (S57)) (Y Z v0 : Int) (v1 v2 : List Int) (v3 : Int) (v4 : List (S50)) (v5 : Int) (v6 : List Int) (v7 : Int) (v8 : Bool) (v9 v10 : Int) (v11 : List (S55)) (v12 : List (S57)) (v13 v14 v15 : Int)
noncomputable def laws_eqWorld.fv := Lim fun k => laws_eqWorld.f k M N O P Q R S T U V W X Y Z v0 v1 v2 v3 v4 v5 v6 v7 v8 v9 v10 v11 v12 v13 v14 v15
theorem laws_eqWorld.f_is : Is (fun k => laws_eqWorld.f k M N O P Q R S T U V W X Y Z v0 v1 v2 v3 v4 v5 v6 v7 v8 v9 v10 v11 v12 v13 v14 v15) (laws_eqWorld.fv M N O P Q R S T U V W X Y Z v0 v1 v2 v3 v4 v5 v6 v7 v8 v9 v10 v11 v12 v13 v14 v15) := ⟨fun k => laws_eqWorld.mono M N O P Q R S T U V W X Y Z v0 v1 v2 v3 v4 v5 v6 v7 v8 v9 v10 v11 v12 v13 v14 v15 k, rfl⟩
theorem laws_eqWorld.fv_eq : laws_eqWorld.fv M N O P Q R S T U V W X Y Z v0 v1 v2 v3 v4 v5 v6 v7 v8 v9 v10 v11 v12 v13 v14 v15 = (laws_eqIntS.fv M v1).bind fun G => (if G = true then ((laws_eqIntS.fv N v2).bind fun H => (if H = true then (if O = v3 then ((laws_eqEndpointS.fv P v4).bind fun I => (if I = true then ((laws_eqRollout.fv Q R S T v5 v6 v7 v8).bind fun J => (if J = true then (if U = v9 then (if V = v10 then ((laws_eqDialedS.fv W v11).bind fun K => (if K = true then ((laws_eqLoggedS.fv X v12).bind fun L => (if L = true then (if Y = v13 then (if Z = v14 then (if v0 = v15 then (some true) else (some false)) else (some false)) else (some false)) else (some false))) else (some false))) else (some false)) else (some false)) else (some false))) else (some false))) else (some false)) else (some false))) else (some false)) := by
  refine Is.lim (g := fun k => laws_eqWorld.f k M N O P Q R S T U V W X Y Z v0 v1 v2 v3 v4 v5 v6 v7 v8 v9 v10 v11 v12 v13 v14 v15) ?_
  · unfold laws_eqWorld.f
    exact is5_ @laws_eqDialedS.f_is @laws_eqEndpointS.f_is @laws_eqIntS.f_is @laws_eqLoggedS.f_is @laws_eqRollout.f_is
end
end Go.Proofs.Ytchnkakjjbfklaa.Print

/- Written by a program of this session (limx.py): the equations of what the printed functions come to. No condition. -/
namespace Go.Proofs.Ytchnkakjjbfklaa.Print
open Go.RowKit Go.Proofs.YtchnkakjjbfklaaW.PrintWords Go.Proofs.YtchnkakjjbfklaaW.PrintLast Go.Proofs.Ytchnkakjjbfklaa.Base
set_option linter.unusedVariables false
set_option maxRecDepth 20000
noncomputable def spec_EqualEndpoints.j0v (o : Bool) (p : List Int) (q : List Int) (r : List (S95)) (s : Int) (t : List Int) (u : List Int) (v : List (S95)) (w : Int) : Option (Bool) := Lim fun k => spec_EqualEndpoints.j0 k o p q r s t u v w
noncomputable def spec_EqualEndpoints.l0v (w : Int) (r : List Int) (s : List Int) (p : List (S95)) (o : Int) (t : List Int) (v : List Int) (q : List (S95)) (x : Int) : Option (Bool) := Lim fun k => spec_EqualEndpoints.l0 k w r s p o t v q x
noncomputable def spec_EqualEndpoints.fv (t : List Int) (v : List Int) (r : List (S95)) (p : Int) (w : List Int) (o : List Int) (s : List (S95)) (q : Int) : Option (Bool) := Lim fun k => spec_EqualEndpoints.f k t v r p w o s q
theorem spec_EqualEndpoints.j0_is (o : Bool) (p : List Int) (q : List Int) (r : List (S95)) (s : Int) (t : List Int) (u : List Int) (v : List (S95)) (w : Int) : Is (fun k => spec_EqualEndpoints.j0 k o p q r s t u v w) (spec_EqualEndpoints.j0v o p q r s t u v w) := ⟨fun k => (spec_EqualEndpoints.mono_l k).1 o p q r s t u v w, rfl⟩
theorem spec_EqualEndpoints.l0_is (w : Int) (r : List Int) (s : List Int) (p : List (S95)) (o : Int) (t : List Int) (v : List Int) (q : List (S95)) (x : Int) : Is (fun k => spec_EqualEndpoints.l0 k w r s p o t v q x) (spec_EqualEndpoints.l0v w r s p o t v q x) := ⟨fun k => (spec_EqualEndpoints.mono_l k).2 w r s p o t v q x, rfl⟩
theorem spec_EqualEndpoints.f_is (t : List Int) (v : List Int) (r : List (S95)) (p : Int) (w : List Int) (o : List Int) (s : List (S95)) (q : Int) : Is (fun k => spec_EqualEndpoints.f k t v r p w o s q) (spec_EqualEndpoints.fv t v r p w o s q) := ⟨fun k => spec_EqualEndpoints.mono t v r p w o s q k, rfl⟩
theorem spec_EqualEndpoints.j0v_eq (o : Bool) (p : List Int) (q : List Int) (r : List (S95)) (s : Int) (t : List Int) (u : List Int) (v : List (S95)) (w : Int) : spec_EqualEndpoints.j0v o p q r s t u v w = if o = true then (some false) else (spec_EqualEndpoints.l0v 0 p q r s t u v w) := by
  refine Is.step (spec_EqualEndpoints.j0_is o p q r s t u v w).mo (fun k => by rw [spec_EqualEndpoints.j0]) ?_
  exact is1_ @spec_EqualEndpoints.l0_is
theorem spec_EqualEndpoints.l0v_eq (w : Int) (r : List Int) (s : List Int) (p : List (S95)) (o : Int) (t : List Int) (v : List Int) (q : List (S95)) (x : Int) : spec_EqualEndpoints.l0v w r s p o t v q x = if w < (p.length : Int) then (if 0 ≤ w then (if w < (q.length : Int) then ((spec_EqualBoxes.fv ((rd_T95 p w).f0) ((rd_T95 p w).f1) ((rd_T95 p w).f2) ((rd_T95 p w).f3) ((rd_T95 q w).f0) ((rd_T95 q w).f1) ((rd_T95 q w).f2) ((rd_T95 q w).f3)).bind fun l => (if l = true then (spec_EqualEndpoints.l0v (wrap64 (w + 1)) r s p o t v q x) else (some false))) else (none)) else (none)) else ((spec_EqualInts.fv r t).bind fun m => (if m = true then ((spec_EqualInts.fv s v).bind fun n => (some n)) else (some false))) := by
  refine Is.step (spec_EqualEndpoints.l0_is w r s p o t v q x).mo (fun k => by rw [spec_EqualEndpoints.l0]) ?_
  exact is3_ @spec_EqualBoxes.f_is @spec_EqualEndpoints.l0_is @spec_EqualInts.f_is
theorem spec_EqualEndpoints.fv_eq (t : List Int) (v : List Int) (r : List (S95)) (p : Int) (w : List Int) (o : List Int) (s : List (S95)) (q : Int) : spec_EqualEndpoints.fv t v r p w o s q = if (r.length : Int) = (s.length : Int) then (spec_EqualEndpoints.j0v (p != q) t v r p w o s q) else (spec_EqualEndpoints.j0v true t v r p w o s q) := by
  refine Is.lim (g := fun k => spec_EqualEndpoints.f k t v r p w o s q) ?_
  · unfold spec_EqualEndpoints.f
    exact is1_ @spec_EqualEndpoints.j0_is
section
variable (j : Bool) (l : Int) (m : List Int) (n : Bool) (o : Int) (p : List Int)
noncomputable def spec_EqualDeals.fv := Lim fun k => spec_EqualDeals.f k j l m n o p
theorem spec_EqualDeals.f_is : Is (fun k => spec_EqualDeals.f k j l m n o p) (spec_EqualDeals.fv j l m n o p) := ⟨fun k => spec_EqualDeals.mono j l m n o p k, rfl⟩
theorem spec_EqualDeals.fv_eq : spec_EqualDeals.fv j l m n o p = if j = true then (if n = true then (if l = o then ((spec_EqualInts.fv m p).bind fun h => (some h)) else (some false)) else (some false)) else (if n = true then (some false) else (if l = o then ((spec_EqualInts.fv m p).bind fun i => (some i)) else (some false))) := by
  refine Is.lim (g := fun k => spec_EqualDeals.f k j l m n o p) ?_
  · unfold spec_EqualDeals.f
    exact is1_ @spec_EqualInts.f_is
end
section
variable (o : Bool) (p : Int) (q : List Int) (r : Int) (s : List Int) (t : Bool) (u : Int) (v : List Int) (w : Int) (x : List Int)
noncomputable def spec_EqualDialed.fv := Lim fun k => spec_EqualDialed.f k o p q r s t u v w x
theorem spec_EqualDialed.f_is : Is (fun k => spec_EqualDialed.f k o p q r s t u v w x) (spec_EqualDialed.fv o p q r s t u v w x) := ⟨fun k => spec_EqualDialed.mono o p q r s t u v w x k, rfl⟩
theorem spec_EqualDialed.fv_eq : spec_EqualDialed.fv o p q r s t u v w x = (spec_EqualDeals.fv o p q t u v).bind fun m => (if m = true then (if r = w then ((spec_EqualInts.fv s x).bind fun n => (some n)) else (some false)) else (some false)) := by
  refine Is.lim (g := fun k => spec_EqualDialed.f k o p q r s t u v w x) ?_
  · unfold spec_EqualDialed.f
    exact is2_ @spec_EqualDeals.f_is @spec_EqualInts.f_is
end
section
variable (m : Int) (n : List Int) (o : Int) (p : Bool) (q : Int) (r : List Int) (s : Int) (t : Bool)
noncomputable def spec_EqualRollouts.fv := Lim fun k => spec_EqualRollouts.f k m n o p q r s t
theorem spec_EqualRollouts.f_is : Is (fun k => spec_EqualRollouts.f k m n o p q r s t) (spec_EqualRollouts.fv m n o p q r s t) := ⟨fun k => spec_EqualRollouts.mono m n o p q r s t k, rfl⟩
theorem spec_EqualRollouts.fv_eq : spec_EqualRollouts.fv m n o p q r s t = if m = q then (if o = s then (if p = true then (if t = true then ((spec_EqualInts.fv n r).bind fun j => (some j)) else (some false)) else (if t = true then (some false) else ((spec_EqualInts.fv n r).bind fun l => (some l)))) else (some false)) else (some false) := by
  refine Is.lim (g := fun k => spec_EqualRollouts.f k m n o p q r s t) ?_
  · unfold spec_EqualRollouts.f
    exact is1_ @spec_EqualInts.f_is
end
end Go.Proofs.Ytchnkakjjbfklaa.Print

/- Written by a program of this session (limx.py): the equations of what the printed functions come to. No condition. -/
namespace Go.Proofs.Ytchnkakjjbfklaa.Print
open Go.RowKit Go.Proofs.YtchnkakjjbfklaaW.PrintWords Go.Proofs.YtchnkakjjbfklaaW.PrintLast Go.Proofs.Ytchnkakjjbfklaa.Base
set_option linter.unusedVariables false
set_option maxRecDepth 20000
section
variable (l : Int) (m : List Int) (n : Int) (o : Bool) (p : Int) (q : List Int) (r : Int) (s : Bool)
noncomputable def impl_EqualRollouts.fv := Lim fun k => impl_EqualRollouts.f k l m n o p q r s
theorem impl_EqualRollouts.f_is : Is (fun k => impl_EqualRollouts.f k l m n o p q r s) (impl_EqualRollouts.fv l m n o p q r s) := ⟨fun k => impl_EqualRollouts.mono l m n o p q r s k, rfl⟩
theorem impl_EqualRollouts.fv_eq : impl_EqualRollouts.fv l m n o p q r s = if l = p then ((slices_Equal_int_int.fv m q).bind fun j => (if j = true then (if n = r then (if o = true then (if s = true then (some true) else (some false)) else (if s = true then (some false) else (some true))) else (some false)) else (some false))) else (some false) := by
  refine Is.lim (g := fun k => impl_EqualRollouts.f k l m n o p q r s) ?_
  · unfold impl_EqualRollouts.f
    exact is1_ @slices_Equal_int_int.f_is
end
section
variable (j : Bool) (l : Int) (m : List Int) (n : Bool) (o : Int) (p : List Int)
noncomputable def impl_EqualDeals.fv := Lim fun k => impl_EqualDeals.f k j l m n o p
theorem impl_EqualDeals.f_is : Is (fun k => impl_EqualDeals.f k j l m n o p) (impl_EqualDeals.fv j l m n o p) := ⟨fun k => impl_EqualDeals.mono j l m n o p k, rfl⟩
theorem impl_EqualDeals.fv_eq : impl_EqualDeals.fv j l m n o p = if j = true then (if n = true then (if l = o then ((slices_Equal_int_int.fv m p).bind fun h => (some h)) else (some false)) else (some false)) else (if n = true then (some false) else (if l = o then ((slices_Equal_int_int.fv m p).bind fun i => (some i)) else (some false))) := by
  refine Is.lim (g := fun k => impl_EqualDeals.f k j l m n o p) ?_
  · unfold impl_EqualDeals.f
    exact is1_ @slices_Equal_int_int.f_is
end
section
variable (o : Bool) (p : Int) (q : List Int) (r : Int) (s : List Int) (t : Bool) (u : Int) (v : List Int) (w : Int) (x : List Int)
noncomputable def impl_EqualDialed.fv := Lim fun k => impl_EqualDialed.f k o p q r s t u v w x
theorem impl_EqualDialed.f_is : Is (fun k => impl_EqualDialed.f k o p q r s t u v w x) (impl_EqualDialed.fv o p q r s t u v w x) := ⟨fun k => impl_EqualDialed.mono o p q r s t u v w x k, rfl⟩
theorem impl_EqualDialed.fv_eq : impl_EqualDialed.fv o p q r s t u v w x = (impl_EqualDeals.fv o p q t u v).bind fun m => (if m = true then (if r = w then ((slices_Equal_int_int.fv s x).bind fun n => (some n)) else (some false)) else (some false)) := by
  refine Is.lim (g := fun k => impl_EqualDialed.f k o p q r s t u v w x) ?_
  · unfold impl_EqualDialed.f
    exact is2_ @impl_EqualDeals.f_is @slices_Equal_int_int.f_is
end
section
variable (u v : Int) (w x : Bool) (y : Int) (z : List Int) (A : Int) (B : List Int) (C D : Int) (E F : Bool) (G : Int) (H : List Int) (I : Int) (J : List Int)
noncomputable def impl_equalLogged.fv := Lim fun k => impl_equalLogged.f k u v w x y z A B C D E F G H I J
theorem impl_equalLogged.f_is : Is (fun k => impl_equalLogged.f k u v w x y z A B C D E F G H I J) (impl_equalLogged.fv u v w x y z A B C D E F G H I J) := ⟨fun k => impl_equalLogged.mono u v w x y z A B C D E F G H I J k, rfl⟩
theorem impl_equalLogged.fv_eq : impl_equalLogged.fv u v w x y z A B C D E F G H I J = if u = C then (if v = D then (if w = true then (if E = true then ((impl_EqualDialed.fv x y z A B F G H I J).bind fun s => (some s)) else (some false)) else (if E = true then (some false) else ((impl_EqualDialed.fv x y z A B F G H I J).bind fun t => (some t)))) else (some false)) else (some false) := by
  refine Is.lim (g := fun k => impl_equalLogged.f k u v w x y z A B C D E F G H I J) ?_
  · unfold impl_equalLogged.f
    exact is1_ @impl_EqualDialed.f_is
end
noncomputable def slices_EqualFunc_impl_Endpoint_impl_Endpoint_impl_Endpoint_impl_Endpoint_with_impl_EqualEndpoints.l0v (g : List (S50)) (h : List (S50)) (i : Int) (j : Int) : Option (Bool) := Lim fun k => slices_EqualFunc_impl_Endpoint_impl_Endpoint_impl_Endpoint_impl_Endpoint_with_impl_EqualEndpoints.l0 k g h i j
noncomputable def slices_EqualFunc_impl_Endpoint_impl_Endpoint_impl_Endpoint_impl_Endpoint_with_impl_EqualEndpoints.fv (j : List (S50)) (h : List (S50)) : Option (Bool) := Lim fun k => slices_EqualFunc_impl_Endpoint_impl_Endpoint_impl_Endpoint_impl_Endpoint_with_impl_EqualEndpoints.f k j h
theorem slices_EqualFunc_impl_Endpoint_impl_Endpoint_impl_Endpoint_impl_Endpoint_with_impl_EqualEndpoints.l0_is (g : List (S50)) (h : List (S50)) (i : Int) (j : Int) : Is (fun k => slices_EqualFunc_impl_Endpoint_impl_Endpoint_impl_Endpoint_impl_Endpoint_with_impl_EqualEndpoints.l0 k g h i j) (slices_EqualFunc_impl_Endpoint_impl_Endpoint_impl_Endpoint_impl_Endpoint_with_impl_EqualEndpoints.l0v g h i j) := ⟨fun k => (slices_EqualFunc_impl_Endpoint_impl_Endpoint_impl_Endpoint_impl_Endpoint_with_impl_EqualEndpoints.mono_l k) g h i j, rfl⟩
theorem slices_EqualFunc_impl_Endpoint_impl_Endpoint_impl_Endpoint_impl_Endpoint_with_impl_EqualEndpoints.f_is (j : List (S50)) (h : List (S50)) : Is (fun k => slices_EqualFunc_impl_Endpoint_impl_Endpoint_impl_Endpoint_impl_Endpoint_with_impl_EqualEndpoints.f k j h) (slices_EqualFunc_impl_Endpoint_impl_Endpoint_impl_Endpoint_impl_Endpoint_with_impl_EqualEndpoints.fv j h) := ⟨fun k => slices_EqualFunc_impl_Endpoint_impl_Endpoint_impl_Endpoint_impl_Endpoint_with_impl_EqualEndpoints.mono j h k, rfl⟩
theorem slices_EqualFunc_impl_Endpoint_impl_Endpoint_impl_Endpoint_impl_Endpoint_with_impl_EqualEndpoints.l0v_eq (g : List (S50)) (h : List (S50)) (i : Int) (j : Int) : slices_EqualFunc_impl_Endpoint_impl_Endpoint_impl_Endpoint_impl_Endpoint_with_impl_EqualEndpoints.l0v g h i j = if j < i then (if 0 ≤ j then (if j < (h.length : Int) then (if j < (g.length : Int) then ((impl_EqualEndpoints.fv ((rd_T50 h j).f0) ((rd_T50 h j).f1) ((rd_T50 h j).f2) ((rd_T50 h j).f3) ((rd_T50 g j).f0) ((rd_T50 g j).f1) ((rd_T50 g j).f2) ((rd_T50 g j).f3)).bind fun d => (if d = true then (slices_EqualFunc_impl_Endpoint_impl_Endpoint_impl_Endpoint_impl_Endpoint_with_impl_EqualEndpoints.l0v g h i (wrap64 (j + 1))) else (some false))) else (none)) else (none)) else (none)) else (some true) := by
  refine Is.step (slices_EqualFunc_impl_Endpoint_impl_Endpoint_impl_Endpoint_impl_Endpoint_with_impl_EqualEndpoints.l0_is g h i j).mo (fun k => by rw [slices_EqualFunc_impl_Endpoint_impl_Endpoint_impl_Endpoint_impl_Endpoint_with_impl_EqualEndpoints.l0]) ?_
  exact is2_ @impl_EqualEndpoints.f_is @slices_EqualFunc_impl_Endpoint_impl_Endpoint_impl_Endpoint_impl_Endpoint_with_impl_EqualEndpoints.l0_is
theorem slices_EqualFunc_impl_Endpoint_impl_Endpoint_impl_Endpoint_impl_Endpoint_with_impl_EqualEndpoints.fv_eq (j : List (S50)) (h : List (S50)) : slices_EqualFunc_impl_Endpoint_impl_Endpoint_impl_Endpoint_impl_Endpoint_with_impl_EqualEndpoints.fv j h = if (j.length : Int) = (h.length : Int) then (slices_EqualFunc_impl_Endpoint_impl_Endpoint_impl_Endpoint_impl_Endpoint_with_impl_EqualEndpoints.l0v h j (j.length : Int) 0) else (some false) := by
  refine Is.lim (g := fun k => slices_EqualFunc_impl_Endpoint_impl_Endpoint_impl_Endpoint_impl_Endpoint_with_impl_EqualEndpoints.f k j h) ?_
  · unfold slices_EqualFunc_impl_Endpoint_impl_Endpoint_impl_Endpoint_impl_Endpoint_with_impl_EqualEndpoints.f
    exact is1_ @slices_EqualFunc_impl_Endpoint_impl_Endpoint_impl_Endpoint_impl_Endpoint_with_impl_EqualEndpoints.l0_is
end Go.Proofs.Ytchnkakjjbfklaa.Print

/- Written by a program of this session (limx.py): the equations of what the printed functions come to. No condition. -/
namespace Go.Proofs.Ytchnkakjjbfklaa.Print
open Go.RowKit Go.Proofs.YtchnkakjjbfklaaW.PrintWords Go.Proofs.YtchnkakjjbfklaaW.PrintLast Go.Proofs.Ytchnkakjjbfklaa.Base
set_option linter.unusedVariables false
set_option maxRecDepth 20000
noncomputable def slices_EqualFunc_impl_Dialed_impl_Dialed_impl_Dialed_impl_Dialed_with_impl_EqualDialed.l0v (g : List (S55)) (h : List (S55)) (i : Int) (j : Int) : Option (Bool) := Lim fun k => slices_EqualFunc_impl_Dialed_impl_Dialed_impl_Dialed_impl_Dialed_with_impl_EqualDialed.l0 k g h i j
noncomputable def slices_EqualFunc_impl_Dialed_impl_Dialed_impl_Dialed_impl_Dialed_with_impl_EqualDialed.fv (j : List (S55)) (h : List (S55)) : Option (Bool) := Lim fun k => slices_EqualFunc_impl_Dialed_impl_Dialed_impl_Dialed_impl_Dialed_with_impl_EqualDialed.f k j h
theorem slices_EqualFunc_impl_Dialed_impl_Dialed_impl_Dialed_impl_Dialed_with_impl_EqualDialed.l0_is (g : List (S55)) (h : List (S55)) (i : Int) (j : Int) : Is (fun k => slices_EqualFunc_impl_Dialed_impl_Dialed_impl_Dialed_impl_Dialed_with_impl_EqualDialed.l0 k g h i j) (slices_EqualFunc_impl_Dialed_impl_Dialed_impl_Dialed_impl_Dialed_with_impl_EqualDialed.l0v g h i j) := ⟨fun k => (slices_EqualFunc_impl_Dialed_impl_Dialed_impl_Dialed_impl_Dialed_with_impl_EqualDialed.mono_l k) g h i j, rfl⟩
theorem slices_EqualFunc_impl_Dialed_impl_Dialed_impl_Dialed_impl_Dialed_with_impl_EqualDialed.f_is (j : List (S55)) (h : List (S55)) : Is (fun k => slices_EqualFunc_impl_Dialed_impl_Dialed_impl_Dialed_impl_Dialed_with_impl_EqualDialed.f k j h) (slices_EqualFunc_impl_Dialed_impl_Dialed_impl_Dialed_impl_Dialed_with_impl_EqualDialed.fv j h) := ⟨fun k => slices_EqualFunc_impl_Dialed_impl_Dialed_impl_Dialed_impl_Dialed_with_impl_EqualDialed.mono j h k, rfl⟩
theorem slices_EqualFunc_impl_Dialed_impl_Dialed_impl_Dialed_impl_Dialed_with_impl_EqualDialed.l0v_eq (g : List (S55)) (h : List (S55)) (i : Int) (j : Int) : slices_EqualFunc_impl_Dialed_impl_Dialed_impl_Dialed_impl_Dialed_with_impl_EqualDialed.l0v g h i j = if j < i then (if 0 ≤ j then (if j < (h.length : Int) then (if j < (g.length : Int) then ((impl_EqualDialed.fv ((rd_T55 h j).f0.f0) ((rd_T55 h j).f0.f1) ((rd_T55 h j).f0.f2) ((rd_T55 h j).f1) ((rd_T55 h j).f2) ((rd_T55 g j).f0.f0) ((rd_T55 g j).f0.f1) ((rd_T55 g j).f0.f2) ((rd_T55 g j).f1) ((rd_T55 g j).f2)).bind fun d => (if d = true then (slices_EqualFunc_impl_Dialed_impl_Dialed_impl_Dialed_impl_Dialed_with_impl_EqualDialed.l0v g h i (wrap64 (j + 1))) else (some false))) else (none)) else (none)) else (none)) else (some true) := by
  refine Is.step (slices_EqualFunc_impl_Dialed_impl_Dialed_impl_Dialed_impl_Dialed_with_impl_EqualDialed.l0_is g h i j).mo (fun k => by rw [slices_EqualFunc_impl_Dialed_impl_Dialed_impl_Dialed_impl_Dialed_with_impl_EqualDialed.l0]) ?_
  exact is2_ @impl_EqualDialed.f_is @slices_EqualFunc_impl_Dialed_impl_Dialed_impl_Dialed_impl_Dialed_with_impl_EqualDialed.l0_is
theorem slices_EqualFunc_impl_Dialed_impl_Dialed_impl_Dialed_impl_Dialed_with_impl_EqualDialed.fv_eq (j : List (S55)) (h : List (S55)) : slices_EqualFunc_impl_Dialed_impl_Dialed_impl_Dialed_impl_Dialed_with_impl_EqualDialed.fv j h = if (j.length : Int) = (h.length : Int) then (slices_EqualFunc_impl_Dialed_impl_Dialed_impl_Dialed_impl_Dialed_with_impl_EqualDialed.l0v h j (j.length : Int) 0) else (some false) := by
  refine Is.lim (g := fun k => slices_EqualFunc_impl_Dialed_impl_Dialed_impl_Dialed_impl_Dialed_with_impl_EqualDialed.f k j h) ?_
  · unfold slices_EqualFunc_impl_Dialed_impl_Dialed_impl_Dialed_impl_Dialed_with_impl_EqualDialed.f
    exact is1_ @slices_EqualFunc_impl_Dialed_impl_Dialed_impl_Dialed_impl_Dialed_with_impl_EqualDialed.l0_is
noncomputable def slices_EqualFunc_impl_Logged_impl_Logged_impl_Logged_impl_Logged_with_impl_equalLogged.l0v (g : List (S57)) (h : List (S57)) (i : Int) (j : Int) : Option (Bool) := Lim fun k => slices_EqualFunc_impl_Logged_impl_Logged_impl_Logged_impl_Logged_with_impl_equalLogged.l0 k g h i j
noncomputable def slices_EqualFunc_impl_Logged_impl_Logged_impl_Logged_impl_Logged_with_impl_equalLogged.fv (j : List (S57)) (h : List (S57)) : Option (Bool) := Lim fun k => slices_EqualFunc_impl_Logged_impl_Logged_impl_Logged_impl_Logged_with_impl_equalLogged.f k j h
theorem slices_EqualFunc_impl_Logged_impl_Logged_impl_Logged_impl_Logged_with_impl_equalLogged.l0_is (g : List (S57)) (h : List (S57)) (i : Int) (j : Int) : Is (fun k => slices_EqualFunc_impl_Logged_impl_Logged_impl_Logged_impl_Logged_with_impl_equalLogged.l0 k g h i j) (slices_EqualFunc_impl_Logged_impl_Logged_impl_Logged_impl_Logged_with_impl_equalLogged.l0v g h i j) := ⟨fun k => (slices_EqualFunc_impl_Logged_impl_Logged_impl_Logged_impl_Logged_with_impl_equalLogged.mono_l k) g h i j, rfl⟩
theorem slices_EqualFunc_impl_Logged_impl_Logged_impl_Logged_impl_Logged_with_impl_equalLogged.f_is (j : List (S57)) (h : List (S57)) : Is (fun k => slices_EqualFunc_impl_Logged_impl_Logged_impl_Logged_impl_Logged_with_impl_equalLogged.f k j h) (slices_EqualFunc_impl_Logged_impl_Logged_impl_Logged_impl_Logged_with_impl_equalLogged.fv j h) := ⟨fun k => slices_EqualFunc_impl_Logged_impl_Logged_impl_Logged_impl_Logged_with_impl_equalLogged.mono j h k, rfl⟩
theorem slices_EqualFunc_impl_Logged_impl_Logged_impl_Logged_impl_Logged_with_impl_equalLogged.l0v_eq (g : List (S57)) (h : List (S57)) (i : Int) (j : Int) : slices_EqualFunc_impl_Logged_impl_Logged_impl_Logged_impl_Logged_with_impl_equalLogged.l0v g h i j = if j < i then (if 0 ≤ j then (if j < (h.length : Int) then (if j < (g.length : Int) then ((impl_equalLogged.fv ((rd_T57 h j).f0) ((rd_T57 h j).f1) ((rd_T57 h j).f2) ((rd_T57 h j).f3.f0.f0) ((rd_T57 h j).f3.f0.f1) ((rd_T57 h j).f3.f0.f2) ((rd_T57 h j).f3.f1) ((rd_T57 h j).f3.f2) ((rd_T57 g j).f0) ((rd_T57 g j).f1) ((rd_T57 g j).f2) ((rd_T57 g j).f3.f0.f0) ((rd_T57 g j).f3.f0.f1) ((rd_T57 g j).f3.f0.f2) ((rd_T57 g j).f3.f1) ((rd_T57 g j).f3.f2)).bind fun d => (if d = true then (slices_EqualFunc_impl_Logged_impl_Logged_impl_Logged_impl_Logged_with_impl_equalLogged.l0v g h i (wrap64 (j + 1))) else (some false))) else (none)) else (none)) else (none)) else (some true) := by
  refine Is.step (slices_EqualFunc_impl_Logged_impl_Logged_impl_Logged_impl_Logged_with_impl_equalLogged.l0_is g h i j).mo (fun k => by rw [slices_EqualFunc_impl_Logged_impl_Logged_impl_Logged_impl_Logged_with_impl_equalLogged.l0]) ?_
  exact is2_ @impl_equalLogged.f_is @slices_EqualFunc_impl_Logged_impl_Logged_impl_Logged_impl_Logged_with_impl_equalLogged.l0_is
theorem slices_EqualFunc_impl_Logged_impl_Logged_impl_Logged_impl_Logged_with_impl_equalLogged.fv_eq (j : List (S57)) (h : List (S57)) : slices_EqualFunc_impl_Logged_impl_Logged_impl_Logged_impl_Logged_with_impl_equalLogged.fv j h = if (j.length : Int) = (h.length : Int) then (slices_EqualFunc_impl_Logged_impl_Logged_impl_Logged_impl_Logged_with_impl_equalLogged.l0v h j (j.length : Int) 0) else (some false) := by
  refine Is.lim (g := fun k => slices_EqualFunc_impl_Logged_impl_Logged_impl_Logged_impl_Logged_with_impl_equalLogged.f k j h) ?_
  · unfold slices_EqualFunc_impl_Logged_impl_Logged_impl_Logged_impl_Logged_with_impl_equalLogged.f
    exact is1_ @slices_EqualFunc_impl_Logged_impl_Logged_impl_Logged_impl_Logged_with_impl_equalLogged.l0_is
section
variable (M N : List Int) (O : Int) (P : List (S50)) (Q : Int) (R : List Int) (S : Int) (T : Bool) (U V : Int) (W : List (S55)) (X : List (S57)) (Y Z v0 : Int) (v1 v2 : List Int) (v3 : Int) (v4 : List (S50)) (v5 : Int) (v6 : List Int) (v7 : Int) (v8 : Bool) (v9 v10 : Int) (v11 : List (S55)) (v12 : List (S57)) (v13 v14 v15 : Int)
noncomputable def impl_EqualWorlds.fv := Lim fun k => impl_EqualWorlds.f k M N O P Q R S T U V W X Y Z v0 v1 v2 v3 v4 v5 v6 v7 v8 v9 v10 v11 v12 v13 v14 v15
theorem impl_EqualWorlds.f_is : Is (fun k => impl_EqualWorlds.f k M N O P Q R S T U V W X Y Z v0 v1 v2 v3 v4 v5 v6 v7 v8 v9 v10 v11 v12 v13 v14 v15) (impl_EqualWorlds.fv M N O P Q R S T U V W X Y Z v0 v1 v2 v3 v4 v5 v6 v7 v8 v9 v10 v11 v12 v13 v14 v15) := ⟨fun k => impl_EqualWorlds.mono M N O P Q R S T U V W X Y Z v0 v1 v2 v3 v4 v5 v6 v7 v8 v9 v10 v11 v12 v13 v14 v15 k, rfl⟩
theorem impl_EqualWorlds.fv_eq : impl_EqualWorlds.fv M N O P Q R S T U V W X Y Z v0 v1 v2 v3 v4 v5 v6 v7 v8 v9 v10 v11 v12 v13 v14 v15 = (slices_Equal_int_int.fv M v1).bind fun G => (if G = true then ((slices_Equal_int_int.fv N v2).bind fun H => (if H = true then (if O = v3 then ((slices_EqualFunc_impl_Endpoint_impl_Endpoint_impl_Endpoint_impl_Endpoint_with_impl_EqualEndpoints.fv P v4).bind fun I => (if I = true then ((impl_EqualRollouts.fv Q R S T v5 v6 v7 v8).bind fun J => (if J = true then (if U = v9 then (if V = v10 then ((slices_EqualFunc_impl_Dialed_impl_Dialed_impl_Dialed_impl_Dialed_with_impl_EqualDialed.fv W v11).bind fun K => (if K = true then ((slices_EqualFunc_impl_Logged_impl_Logged_impl_Logged_impl_Logged_with_impl_equalLogged.fv X v12).bind fun L => (if L = true then (if Y = v13 then (if Z = v14 then (some (v0 == v15)) else (some false)) else (some false)) else (some false))) else (some false))) else (some false)) else (some false)) else (some false))) else (some false))) else (some false)) else (some false))) else (some false)) := by
  refine Is.lim (g := fun k => impl_EqualWorlds.f k M N O P Q R S T U V W X Y Z v0 v1 v2 v3 v4 v5 v6 v7 v8 v9 v10 v11 v12 v13 v14 v15) ?_
  · unfold impl_EqualWorlds.f
    exact is5_ @impl_EqualRollouts.f_is @slices_EqualFunc_impl_Dialed_impl_Dialed_impl_Dialed_impl_Dialed_with_impl_EqualDialed.f_is @slices_EqualFunc_impl_Endpoint_impl_Endpoint_impl_Endpoint_impl_Endpoint_with_impl_EqualEndpoints.f_is @slices_EqualFunc_impl_Logged_impl_Logged_impl_Logged_impl_Logged_with_impl_equalLogged.f_is @slices_Equal_int_int.f_is
end
end Go.Proofs.Ytchnkakjjbfklaa.Print

/- Written by a program of this session (limx.py): the equations of what the printed functions come to. No condition. -/
namespace Go.Proofs.Ytchnkakjjbfklaa.Print
open Go.RowKit Go.Proofs.YtchnkakjjbfklaaW.PrintWords Go.Proofs.YtchnkakjjbfklaaW.PrintLast Go.Proofs.Ytchnkakjjbfklaa.Base
set_option linter.unusedVariables false
set_option maxRecDepth 20000
noncomputable def spec_EqualWorlds.j0v (M : Bool) (N : List Int) (O : List Int) (P : Int) (Q : List (S50)) (R : Int) (S : List Int) (T : Int) (U : Bool) (V : Int) (W : Int) (X : List (S55)) (Y : List (S57)) (Z : Int) (v0 : Int) (v1 : Int) (v2 : List Int) (v3 : List Int) (v4 : Int) (v5 : List (S50)) (v6 : Int) (v7 : List Int) (v8 : Int) (v9 : Bool) (v10 : Int) (v11 : Int) (v12 : List (S55)) (v13 : List (S57)) (v14 : Int) (v15 : Int) (v16 : Int) : Option (Bool) := Lim fun k => spec_EqualWorlds.j0 k M N O P Q R S T U V W X Y Z v0 v1 v2 v3 v4 v5 v6 v7 v8 v9 v10 v11 v12 v13 v14 v15 v16
noncomputable def spec_EqualWorlds.l0v (v17 : Int) (P : List Int) (Q : List Int) (R : Int) (N : List (S50)) (T : Int) (U : List Int) (V : Int) (W : Bool) (X : Int) (Y : Int) (Z : List (S55)) (v0 : List (S57)) (v1 : Int) (v2 : Int) (v3 : Int) (v4 : List Int) (v5 : List Int) (v6 : Int) (O : List (S50)) (v7 : Int) (v8 : List Int) (v9 : Int) (v10 : Bool) (v11 : Int) (v12 : Int) (v13 : List (S55)) (v14 : List (S57)) (v15 : Int) (v16 : Int) (M : Int) : Option (Bool) := Lim fun k => spec_EqualWorlds.l0 k v17 P Q R N T U V W X Y Z v0 v1 v2 v3 v4 v5 v6 O v7 v8 v9 v10 v11 v12 v13 v14 v15 v16 M
noncomputable def spec_EqualWorlds.l1v (v17 : Int) (P : List Int) (Q : List Int) (R : Int) (T : List (S50)) (U : Int) (V : List Int) (W : Int) (X : Bool) (Y : Int) (Z : Int) (N : List (S55)) (v0 : List (S57)) (v1 : Int) (v2 : Int) (v3 : Int) (v4 : List Int) (v5 : List Int) (v6 : Int) (v7 : List (S50)) (v8 : Int) (v9 : List Int) (v10 : Int) (v11 : Bool) (v12 : Int) (v13 : Int) (O : List (S55)) (v14 : List (S57)) (v15 : Int) (v16 : Int) (M : Int) : Option (Bool) := Lim fun k => spec_EqualWorlds.l1 k v17 P Q R T U V W X Y Z N v0 v1 v2 v3 v4 v5 v6 v7 v8 v9 v10 v11 v12 v13 O v14 v15 v16 M
noncomputable def spec_EqualWorlds.l2v (P : Int) (Q : List Int) (R : List Int) (v3 : Int) (v4 : List (S50)) (T : Int) (U : List Int) (V : Int) (W : Bool) (v5 : Int) (v6 : Int) (v7 : List (S55)) (O : List (S57)) (v8 : Int) (v9 : Int) (v10 : Int) (X : List Int) (Y : List Int) (v11 : Int) (v12 : List (S50)) (Z : Int) (v0 : List Int) (v1 : Int) (v2 : Bool) (v13 : Int) (v14 : Int) (v15 : List (S55)) (N : List (S57)) (v16 : Int) (M : Int) (v17 : Int) : Option (Bool) := Lim fun k => spec_EqualWorlds.l2 k P Q R v3 v4 T U V W v5 v6 v7 O v8 v9 v10 X Y v11 v12 Z v0 v1 v2 v13 v14 v15 N v16 M v17
noncomputable def spec_EqualWorlds.fv (v12 : List Int) (v13 : List Int) (Y : Int) (v4 : List (S50)) (v6 : Int) (v14 : List Int) (v7 : Int) (v8 : Bool) (Z : Int) (v0 : Int) (U : List (S55)) (V : List (S57)) (N : Int) (O : Int) (P : Int) (v15 : List Int) (v16 : List Int) (v1 : Int) (v5 : List (S50)) (v9 : Int) (M : List Int) (v10 : Int) (v11 : Bool) (v2 : Int) (v3 : Int) (W : List (S55)) (X : List (S57)) (Q : Int) (R : Int) (T : Int) : Option (Bool) := Lim fun k => spec_EqualWorlds.f k v12 v13 Y v4 v6 v14 v7 v8 Z v0 U V N O P v15 v16 v1 v5 v9 M v10 v11 v2 v3 W X Q R T
theorem spec_EqualWorlds.j0_is (M : Bool) (N : List Int) (O : List Int) (P : Int) (Q : List (S50)) (R : Int) (S : List Int) (T : Int) (U : Bool) (V : Int) (W : Int) (X : List (S55)) (Y : List (S57)) (Z : Int) (v0 : Int) (v1 : Int) (v2 : List Int) (v3 : List Int) (v4 : Int) (v5 : List (S50)) (v6 : Int) (v7 : List Int) (v8 : Int) (v9 : Bool) (v10 : Int) (v11 : Int) (v12 : List (S55)) (v13 : List (S57)) (v14 : Int) (v15 : Int) (v16 : Int) : Is (fun k => spec_EqualWorlds.j0 k M N O P Q R S T U V W X Y Z v0 v1 v2 v3 v4 v5 v6 v7 v8 v9 v10 v11 v12 v13 v14 v15 v16) (spec_EqualWorlds.j0v M N O P Q R S T U V W X Y Z v0 v1 v2 v3 v4 v5 v6 v7 v8 v9 v10 v11 v12 v13 v14 v15 v16) := ⟨fun k => (spec_EqualWorlds.mono_l k).1 M N O P Q R S T U V W X Y Z v0 v1 v2 v3 v4 v5 v6 v7 v8 v9 v10 v11 v12 v13 v14 v15 v16, rfl⟩
theorem spec_EqualWorlds.l0_is (v17 : Int) (P : List Int) (Q : List Int) (R : Int) (N : List (S50)) (T : Int) (U : List Int) (V : Int) (W : Bool) (X : Int) (Y : Int) (Z : List (S55)) (v0 : List (S57)) (v1 : Int) (v2 : Int) (v3 : Int) (v4 : List Int) (v5 : List Int) (v6 : Int) (O : List (S50)) (v7 : Int) (v8 : List Int) (v9 : Int) (v10 : Bool) (v11 : Int) (v12 : Int) (v13 : List (S55)) (v14 : List (S57)) (v15 : Int) (v16 : Int) (M : Int) : Is (fun k => spec_EqualWorlds.l0 k v17 P Q R N T U V W X Y Z v0 v1 v2 v3 v4 v5 v6 O v7 v8 v9 v10 v11 v12 v13 v14 v15 v16 M) (spec_EqualWorlds.l0v v17 P Q R N T U V W X Y Z v0 v1 v2 v3 v4 v5 v6 O v7 v8 v9 v10 v11 v12 v13 v14 v15 v16 M) := ⟨fun k => (spec_EqualWorlds.mono_l k).2.1 v17 P Q R N T U V W X Y Z v0 v1 v2 v3 v4 v5 v6 O v7 v8 v9 v10 v11 v12 v13 v14 v15 v16 M, rfl⟩
theorem spec_EqualWorlds.l1_is (v17 : Int) (P : List Int) (Q : List Int) (R : Int) (T : List (S50)) (U : Int) (V : List Int) (W : Int) (X : Bool) (Y : Int) (Z : Int) (N : List (S55)) (v0 : List (S57)) (v1 : Int) (v2 : Int) (v3 : Int) (v4 : List Int) (v5 : List Int) (v6 : Int) (v7 : List (S50)) (v8 : Int) (v9 : List Int) (v10 : Int) (v11 : Bool) (v12 : Int) (v13 : Int) (O : List (S55)) (v14 : List (S57)) (v15 : Int) (v16 : Int) (M : Int) : Is (fun k => spec_EqualWorlds.l1 k v17 P Q R T U V W X Y Z N v0 v1 v2 v3 v4 v5 v6 v7 v8 v9 v10 v11 v12 v13 O v14 v15 v16 M) (spec_EqualWorlds.l1v v17 P Q R T U V W X Y Z N v0 v1 v2 v3 v4 v5 v6 v7 v8 v9 v10 v11 v12 v13 O v14 v15 v16 M) := ⟨fun k => (spec_EqualWorlds.mono_l k).2.2.1 v17 P Q R T U V W X Y Z N v0 v1 v2 v3 v4 v5 v6 v7 v8 v9 v10 v11 v12 v13 O v14 v15 v16 M, rfl⟩
theorem spec_EqualWorlds.l2_is (P : Int) (Q : List Int) (R : List Int) (v3 : Int) (v4 : List (S50)) (T : Int) (U : List Int) (V : Int) (W : Bool) (v5 : Int) (v6 : Int) (v7 : List (S55)) (O : List (S57)) (v8 : Int) (v9 : Int) (v10 : Int) (X : List Int) (Y : List Int) (v11 : Int) (v12 : List (S50)) (Z : Int) (v0 : List Int) (v1 : Int) (v2 : Bool) (v13 : Int) (v14 : Int) (v15 : List (S55)) (N : List (S57)) (v16 : Int) (M : Int) (v17 : Int) : Is (fun k => spec_EqualWorlds.l2 k P Q R v3 v4 T U V W v5 v6 v7 O v8 v9 v10 X Y v11 v12 Z v0 v1 v2 v13 v14 v15 N v16 M v17) (spec_EqualWorlds.l2v P Q R v3 v4 T U V W v5 v6 v7 O v8 v9 v10 X Y v11 v12 Z v0 v1 v2 v13 v14 v15 N v16 M v17) := ⟨fun k => (spec_EqualWorlds.mono_l k).2.2.2 P Q R v3 v4 T U V W v5 v6 v7 O v8 v9 v10 X Y v11 v12 Z v0 v1 v2 v13 v14 v15 N v16 M v17, rfl⟩
theorem spec_EqualWorlds.f_is (v12 : List Int) (v13 : List Int) (Y : Int) (v4 : List (S50)) (v6 : Int) (v14 : List Int) (v7 : Int) (v8 : Bool) (Z : Int) (v0 : Int) (U : List (S55)) (V : List (S57)) (N : Int) (O : Int) (P : Int) (v15 : List Int) (v16 : List Int) (v1 : Int) (v5 : List (S50)) (v9 : Int) (M : List Int) (v10 : Int) (v11 : Bool) (v2 : Int) (v3 : Int) (W : List (S55)) (X : List (S57)) (Q : Int) (R : Int) (T : Int) : Is (fun k => spec_EqualWorlds.f k v12 v13 Y v4 v6 v14 v7 v8 Z v0 U V N O P v15 v16 v1 v5 v9 M v10 v11 v2 v3 W X Q R T) (spec_EqualWorlds.fv v12 v13 Y v4 v6 v14 v7 v8 Z v0 U V N O P v15 v16 v1 v5 v9 M v10 v11 v2 v3 W X Q R T) := ⟨fun k => spec_EqualWorlds.mono v12 v13 Y v4 v6 v14 v7 v8 Z v0 U V N O P v15 v16 v1 v5 v9 M v10 v11 v2 v3 W X Q R T k, rfl⟩
theorem spec_EqualWorlds.j0v_eq (M : Bool) (N : List Int) (O : List Int) (P : Int) (Q : List (S50)) (R : Int) (S : List Int) (T : Int) (U : Bool) (V : Int) (W : Int) (X : List (S55)) (Y : List (S57)) (Z : Int) (v0 : Int) (v1 : Int) (v2 : List Int) (v3 : List Int) (v4 : Int) (v5 : List (S50)) (v6 : Int) (v7 : List Int) (v8 : Int) (v9 : Bool) (v10 : Int) (v11 : Int) (v12 : List (S55)) (v13 : List (S57)) (v14 : Int) (v15 : Int) (v16 : Int) : spec_EqualWorlds.j0v M N O P Q R S T U V W X Y Z v0 v1 v2 v3 v4 v5 v6 v7 v8 v9 v10 v11 v12 v13 v14 v15 v16 = if M = true then (some false) else (spec_EqualWorlds.l0v 0 N O P Q R S T U V W X Y Z v0 v1 v2 v3 v4 v5 v6 v7 v8 v9 v10 v11 v12 v13 v14 v15 v16) := by
  refine Is.step (spec_EqualWorlds.j0_is M N O P Q R S T U V W X Y Z v0 v1 v2 v3 v4 v5 v6 v7 v8 v9 v10 v11 v12 v13 v14 v15 v16).mo (fun k => by rw [spec_EqualWorlds.j0]) ?_
  exact is1_ @spec_EqualWorlds.l0_is
theorem spec_EqualWorlds.l0v_eq (v17 : Int) (P : List Int) (Q : List Int) (R : Int) (N : List (S50)) (T : Int) (U : List Int) (V : Int) (W : Bool) (X : Int) (Y : Int) (Z : List (S55)) (v0 : List (S57)) (v1 : Int) (v2 : Int) (v3 : Int) (v4 : List Int) (v5 : List Int) (v6 : Int) (O : List (S50)) (v7 : Int) (v8 : List Int) (v9 : Int) (v10 : Bool) (v11 : Int) (v12 : Int) (v13 : List (S55)) (v14 : List (S57)) (v15 : Int) (v16 : Int) (M : Int) : spec_EqualWorlds.l0v v17 P Q R N T U V W X Y Z v0 v1 v2 v3 v4 v5 v6 O v7 v8 v9 v10 v11 v12 v13 v14 v15 v16 M = if v17 < (N.length : Int) then (if 0 ≤ v17 then (if v17 < (O.length : Int) then ((spec_EqualEndpoints.fv ((rd_T50 N v17).f0) ((rd_T50 N v17).f1) ((rd_T50 N v17).f2) ((rd_T50 N v17).f3) ((rd_T50 O v17).f0) ((rd_T50 O v17).f1) ((rd_T50 O v17).f2) ((rd_T50 O v17).f3)).bind fun H => (if H = true then (spec_EqualWorlds.l0v (wrap64 (v17 + 1)) P Q R N T U V W X Y Z v0 v1 v2 v3 v4 v5 v6 O v7 v8 v9 v10 v11 v12 v13 v14 v15 v16 M) else (some false))) else (none)) else (none)) else (spec_EqualWorlds.l1v 0 P Q R N T U V W X Y Z v0 v1 v2 v3 v4 v5 v6 O v7 v8 v9 v10 v11 v12 v13 v14 v15 v16 M) := by
  refine Is.step (spec_EqualWorlds.l0_is v17 P Q R N T U V W X Y Z v0 v1 v2 v3 v4 v5 v6 O v7 v8 v9 v10 v11 v12 v13 v14 v15 v16 M).mo (fun k => by rw [spec_EqualWorlds.l0]) ?_
  exact is3_ @spec_EqualEndpoints.f_is @spec_EqualWorlds.l0_is @spec_EqualWorlds.l1_is
theorem spec_EqualWorlds.l1v_eq (v17 : Int) (P : List Int) (Q : List Int) (R : Int) (T : List (S50)) (U : Int) (V : List Int) (W : Int) (X : Bool) (Y : Int) (Z : Int) (N : List (S55)) (v0 : List (S57)) (v1 : Int) (v2 : Int) (v3 : Int) (v4 : List Int) (v5 : List Int) (v6 : Int) (v7 : List (S50)) (v8 : Int) (v9 : List Int) (v10 : Int) (v11 : Bool) (v12 : Int) (v13 : Int) (O : List (S55)) (v14 : List (S57)) (v15 : Int) (v16 : Int) (M : Int) : spec_EqualWorlds.l1v v17 P Q R T U V W X Y Z N v0 v1 v2 v3 v4 v5 v6 v7 v8 v9 v10 v11 v12 v13 O v14 v15 v16 M = if v17 < (N.length : Int) then (if 0 ≤ v17 then (if v17 < (O.length : Int) then ((spec_EqualDialed.fv ((rd_T55 N v17).f0.f0) ((rd_T55 N v17).f0.f1) ((rd_T55 N v17).f0.f2) ((rd_T55 N v17).f1) ((rd_T55 N v17).f2) ((rd_T55 O v17).f0.f0) ((rd_T55 O v17).f0.f1) ((rd_T55 O v17).f0.f2) ((rd_T55 O v17).f1) ((rd_T55 O v17).f2)).bind fun H => (if H = true then (spec_EqualWorlds.l1v (wrap64 (v17 + 1)) P Q R T U V W X Y Z N v0 v1 v2 v3 v4 v5 v6 v7 v8 v9 v10 v11 v12 v13 O v14 v15 v16 M) else (some false))) else (none)) else (none)) else (spec_EqualWorlds.l2v 0 P Q R T U V W X Y Z N v0 v1 v2 v3 v4 v5 v6 v7 v8 v9 v10 v11 v12 v13 O v14 v15 v16 M) := by
  refine Is.step (spec_EqualWorlds.l1_is v17 P Q R T U V W X Y Z N v0 v1 v2 v3 v4 v5 v6 v7 v8 v9 v10 v11 v12 v13 O v14 v15 v16 M).mo (fun k => by rw [spec_EqualWorlds.l1]) ?_
  exact is3_ @spec_EqualDialed.f_is @spec_EqualWorlds.l1_is @spec_EqualWorlds.l2_is
theorem spec_EqualWorlds.l2v_eq (P : Int) (Q : List Int) (R : List Int) (v3 : Int) (v4 : List (S50)) (T : Int) (U : List Int) (V : Int) (W : Bool) (v5 : Int) (v6 : Int) (v7 : List (S55)) (O : List (S57)) (v8 : Int) (v9 : Int) (v10 : Int) (X : List Int) (Y : List Int) (v11 : Int) (v12 : List (S50)) (Z : Int) (v0 : List Int) (v1 : Int) (v2 : Bool) (v13 : Int) (v14 : Int) (v15 : List (S55)) (N : List (S57)) (v16 : Int) (M : Int) (v17 : Int) : spec_EqualWorlds.l2v P Q R v3 v4 T U V W v5 v6 v7 O v8 v9 v10 X Y v11 v12 Z v0 v1 v2 v13 v14 v15 N v16 M v17 = if P < (O.length : Int) then (if 0 ≤ P then (if P < (N.length : Int) then (if ((rd_T57 O P).f0) = ((rd_T57 N P).f0) then (if ((rd_T57 O P).f1) = ((rd_T57 N P).f1) then (if (rd_T57 O P).f2 = true then (if (rd_T57 N P).f2 = true then ((spec_EqualDialed.fv ((rd_T57 O P).f3.f0.f0) ((rd_T57 O P).f3.f0.f1) ((rd_T57 O P).f3.f0.f2) ((rd_T57 O P).f3.f1) ((rd_T57 O P).f3.f2) ((rd_T57 N P).f3.f0.f0) ((rd_T57 N P).f3.f0.f1) ((rd_T57 N P).f3.f0.f2) ((rd_T57 N P).f3.f1) ((rd_T57 N P).f3.f2)).bind fun H => (if H = true then (spec_EqualWorlds.l2v (wrap64 (P + 1)) Q R v3 v4 T U V W v5 v6 v7 O v8 v9 v10 X Y v11 v12 Z v0 v1 v2 v13 v14 v15 N v16 M v17) else (some false))) else (some false)) else (if (rd_T57 N P).f2 = true then (some false) else ((spec_EqualDialed.fv ((rd_T57 O P).f3.f0.f0) ((rd_T57 O P).f3.f0.f1) ((rd_T57 O P).f3.f0.f2) ((rd_T57 O P).f3.f1) ((rd_T57 O P).f3.f2) ((rd_T57 N P).f3.f0.f0) ((rd_T57 N P).f3.f0.f1) ((rd_T57 N P).f3.f0.f2) ((rd_T57 N P).f3.f1) ((rd_T57 N P).f3.f2)).bind fun I => (if I = true then (spec_EqualWorlds.l2v (wrap64 (P + 1)) Q R v3 v4 T U V W v5 v6 v7 O v8 v9 v10 X Y v11 v12 Z v0 v1 v2 v13 v14 v15 N v16 M v17) else (some false))))) else (some false)) else (some false)) else (none)) else (none)) else ((spec_EqualInts.fv Q X).bind fun J => (if J = true then ((spec_EqualInts.fv R Y).bind fun K => (if K = true then ((spec_EqualRollouts.fv T U V W Z v0 v1 v2).bind fun L => (some L)) else (some false))) else (some false))) := by
  refine Is.step (spec_EqualWorlds.l2_is P Q R v3 v4 T U V W v5 v6 v7 O v8 v9 v10 X Y v11 v12 Z v0 v1 v2 v13 v14 v15 N v16 M v17).mo (fun k => by rw [spec_EqualWorlds.l2]) ?_
  exact is4_ @spec_EqualDialed.f_is @spec_EqualInts.f_is @spec_EqualRollouts.f_is @spec_EqualWorlds.l2_is
theorem spec_EqualWorlds.fv_eq (v12 : List Int) (v13 : List Int) (Y : Int) (v4 : List (S50)) (v6 : Int) (v14 : List Int) (v7 : Int) (v8 : Bool) (Z : Int) (v0 : Int) (U : List (S55)) (V : List (S57)) (N : Int) (O : Int) (P : Int) (v15 : List Int) (v16 : List Int) (v1 : Int) (v5 : List (S50)) (v9 : Int) (M : List Int) (v10 : Int) (v11 : Bool) (v2 : Int) (v3 : Int) (W : List (S55)) (X : List (S57)) (Q : Int) (R : Int) (T : Int) : spec_EqualWorlds.fv v12 v13 Y v4 v6 v14 v7 v8 Z v0 U V N O P v15 v16 v1 v5 v9 M v10 v11 v2 v3 W X Q R T = if (v4.length : Int) = (v5.length : Int) then (if (U.length : Int) = (W.length : Int) then (if (V.length : Int) = (X.length : Int) then (if Y = v1 then (if Z = v2 then (if v0 = v3 then (if N = Q then (if O = R then (spec_EqualWorlds.j0v (P != T) v12 v13 Y v4 v6 v14 v7 v8 Z v0 U V N O P v15 v16 v1 v5 v9 M v10 v11 v2 v3 W X Q R T) else (spec_EqualWorlds.j0v true v12 v13 Y v4 v6 v14 v7 v8 Z v0 U V N O P v15 v16 v1 v5 v9 M v10 v11 v2 v3 W X Q R T)) else (spec_EqualWorlds.j0v true v12 v13 Y v4 v6 v14 v7 v8 Z v0 U V N O P v15 v16 v1 v5 v9 M v10 v11 v2 v3 W X Q R T)) else (spec_EqualWorlds.j0v true v12 v13 Y v4 v6 v14 v7 v8 Z v0 U V N O P v15 v16 v1 v5 v9 M v10 v11 v2 v3 W X Q R T)) else (spec_EqualWorlds.j0v true v12 v13 Y v4 v6 v14 v7 v8 Z v0 U V N O P v15 v16 v1 v5 v9 M v10 v11 v2 v3 W X Q R T)) else (spec_EqualWorlds.j0v true v12 v13 Y v4 v6 v14 v7 v8 Z v0 U V N O P v15 v16 v1 v5 v9 M v10 v11 v2 v3 W X Q R T)) else (spec_EqualWorlds.j0v true v12 v13 Y v4 v6 v14 v7 v8 Z v0 U V N O P v15 v16 v1 v5 v9 M v10 v11 v2 v3 W X Q R T)) else (spec_EqualWorlds.j0v true v12 v13 Y v4 v6 v14 v7 v8 Z v0 U V N O P v15 v16 v1 v5 v9 M v10 v11 v2 v3 W X Q R T)) else (spec_EqualWorlds.j0v true v12 v13 Y v4 v6 v14 v7 v8 Z v0 U V N O P v15 v16 v1 v5 v9 M v10 v11 v2 v3 W X Q R T) := by
  refine Is.lim (g := fun k => spec_EqualWorlds.f k v12 v13 Y v4 v6 v14 v7 v8 Z v0 U V N O P v15 v16 v1 v5 v9 M v10 v11 v2 v3 W X Q R T) ?_
  · unfold spec_EqualWorlds.f
    exact is1_ @spec_EqualWorlds.j0_is
end Go.Proofs.Ytchnkakjjbfklaa.Print

/- Written by a program of this session (limx.py): the equations of what the printed functions come to. No condition. -/
namespace Go.Proofs.Ytchnkakjjbfklaa.Print
open Go.RowKit Go.Proofs.YtchnkakjjbfklaaW.PrintWords Go.Proofs.YtchnkakjjbfklaaW.PrintLast Go.Proofs.Ytchnkakjjbfklaa.Base
set_option linter.unusedVariables false
set_option maxRecDepth 20000
section
variable (S T : List Int) (U : Int) (V : List (S85)) (W : Int) (X : List Int) (Y : Int) (Z : Bool) (v0 v1 : Int) (v2 : List (S89)) (v3 : List (S92)) (v4 v5 v6 : Int) (v7 v8 : List Int) (v9 : Int) (v10 : List (S85)) (v11 : Int) (v12 : List Int) (v13 : Int) (v14 : Bool) (v15 v16 : Int) (v17 : List (S89)) (v18 : List (S92)) (v19 v20 v21 : Int)
noncomputable def laws_FnExactEqualWorlds.fv := Lim fun k => laws_FnExactEqualWorlds.f k S T U V W X Y Z v0 v1 v2 v3 v4 v5 v6 v7 v8 v9 v10 v11 v12 v13 v14 v15 v16 v17 v18 v19 v20 v21
theorem laws_FnExactEqualWorlds.f_is : Is (fun k => laws_FnExactEqualWorlds.f k S T U V W X Y Z v0 v1 v2 v3 v4 v5 v6 v7 v8 v9 v10 v11 v12 v13 v14 v15 v16 v17 v18 v19 v20 v21) (laws_FnExactEqualWorlds.fv S T U V W X Y Z v0 v1 v2 v3 v4 v5 v6 v7 v8 v9 v10 v11 v12 v13 v14 v15 v16 v17 v18 v19 v20 v21) := ⟨fun k => laws_FnExactEqualWorlds.mono S T U V W X Y Z v0 v1 v2 v3 v4 v5 v6 v7 v8 v9 v10 v11 v12 v13 v14 v15 v16 v17 v18 v19 v20 v21 k, rfl⟩
theorem laws_FnExactEqualWorlds.fv_eq : laws_FnExactEqualWorlds.fv S T U V W X Y Z v0 v1 v2 v3 v4 v5 v6 v7 v8 v9 v10 v11 v12 v13 v14 v15 v16 v17 v18 v19 v20 v21 = (laws_szWorld.fv S T U V W X Y Z v0 v1 v2 v3 v4 v5 v6 1048576).bind fun M => (if M < 0 then (some true) else ((laws_szWorld.fv v7 v8 v9 v10 v11 v12 v13 v14 v15 v16 v17 v18 v19 v20 v21 M).bind fun N => (if N < 0 then (some true) else ((laws_toWorld.fv S T U V W X Y Z v0 v1 v2 v3 v4 v5 v6).bind fun c => ((laws_toWorld.fv v7 v8 v9 v10 v11 v12 v13 v14 v15 v16 v17 v18 v19 v20 v21).bind fun d => ((spec_EqualWorlds.fv c.1 c.2.1 c.2.2.1 c.2.2.2.1 c.2.2.2.2.1 c.2.2.2.2.2.1 c.2.2.2.2.2.2.1 c.2.2.2.2.2.2.2.1 c.2.2.2.2.2.2.2.2.1 c.2.2.2.2.2.2.2.2.2.1 c.2.2.2.2.2.2.2.2.2.2.1 c.2.2.2.2.2.2.2.2.2.2.2.1 c.2.2.2.2.2.2.2.2.2.2.2.2.1 c.2.2.2.2.2.2.2.2.2.2.2.2.2.1 c.2.2.2.2.2.2.2.2.2.2.2.2.2.2 d.1 d.2.1 d.2.2.1 d.2.2.2.1 d.2.2.2.2.1 d.2.2.2.2.2.1 d.2.2.2.2.2.2.1 d.2.2.2.2.2.2.2.1 d.2.2.2.2.2.2.2.2.1 d.2.2.2.2.2.2.2.2.2.1 d.2.2.2.2.2.2.2.2.2.2.1 d.2.2.2.2.2.2.2.2.2.2.2.1 d.2.2.2.2.2.2.2.2.2.2.2.2.1 d.2.2.2.2.2.2.2.2.2.2.2.2.2.1 d.2.2.2.2.2.2.2.2.2.2.2.2.2.2).bind fun O => ((laws_toWorld.fv S T U V W X Y Z v0 v1 v2 v3 v4 v5 v6).bind fun a => ((laws_toWorld.fv v7 v8 v9 v10 v11 v12 v13 v14 v15 v16 v17 v18 v19 v20 v21).bind fun b => ((impl_EqualWorlds.fv a.1 a.2.1 a.2.2.1 a.2.2.2.1 a.2.2.2.2.1 a.2.2.2.2.2.1 a.2.2.2.2.2.2.1 a.2.2.2.2.2.2.2.1 a.2.2.2.2.2.2.2.2.1 a.2.2.2.2.2.2.2.2.2.1 a.2.2.2.2.2.2.2.2.2.2.1 a.2.2.2.2.2.2.2.2.2.2.2.1 a.2.2.2.2.2.2.2.2.2.2.2.2.1 a.2.2.2.2.2.2.2.2.2.2.2.2.2.1 a.2.2.2.2.2.2.2.2.2.2.2.2.2.2 b.1 b.2.1 b.2.2.1 b.2.2.2.1 b.2.2.2.2.1 b.2.2.2.2.2.1 b.2.2.2.2.2.2.1 b.2.2.2.2.2.2.2.1 b.2.2.2.2.2.2.2.2.1 b.2.2.2.2.2.2.2.2.2.1 b.2.2.2.2.2.2.2.2.2.2.1 b.2.2.2.2.2.2.2.2.2.2.2.1 b.2.2.2.2.2.2.2.2.2.2.2.2.1 b.2.2.2.2.2.2.2.2.2.2.2.2.2.1 b.2.2.2.2.2.2.2.2.2.2.2.2.2.2).bind fun P => (if (P != O) = true then (some false) else ((laws_toWorld.fv S T U V W X Y Z v0 v1 v2 v3 v4 v5 v6).bind fun e => ((laws_eqWorld.fv a.1 a.2.1 a.2.2.1 a.2.2.2.1 a.2.2.2.2.1 a.2.2.2.2.2.1 a.2.2.2.2.2.2.1 a.2.2.2.2.2.2.2.1 a.2.2.2.2.2.2.2.2.1 a.2.2.2.2.2.2.2.2.2.1 a.2.2.2.2.2.2.2.2.2.2.1 a.2.2.2.2.2.2.2.2.2.2.2.1 a.2.2.2.2.2.2.2.2.2.2.2.2.1 a.2.2.2.2.2.2.2.2.2.2.2.2.2.1 a.2.2.2.2.2.2.2.2.2.2.2.2.2.2 e.1 e.2.1 e.2.2.1 e.2.2.2.1 e.2.2.2.2.1 e.2.2.2.2.2.1 e.2.2.2.2.2.2.1 e.2.2.2.2.2.2.2.1 e.2.2.2.2.2.2.2.2.1 e.2.2.2.2.2.2.2.2.2.1 e.2.2.2.2.2.2.2.2.2.2.1 e.2.2.2.2.2.2.2.2.2.2.2.1 e.2.2.2.2.2.2.2.2.2.2.2.2.1 e.2.2.2.2.2.2.2.2.2.2.2.2.2.1 e.2.2.2.2.2.2.2.2.2.2.2.2.2.2).bind fun Q => (if Q = true then ((laws_toWorld.fv v7 v8 v9 v10 v11 v12 v13 v14 v15 v16 v17 v18 v19 v20 v21).bind fun g => ((laws_eqWorld.fv b.1 b.2.1 b.2.2.1 b.2.2.2.1 b.2.2.2.2.1 b.2.2.2.2.2.1 b.2.2.2.2.2.2.1 b.2.2.2.2.2.2.2.1 b.2.2.2.2.2.2.2.2.1 b.2.2.2.2.2.2.2.2.2.1 b.2.2.2.2.2.2.2.2.2.2.1 b.2.2.2.2.2.2.2.2.2.2.2.1 b.2.2.2.2.2.2.2.2.2.2.2.2.1 b.2.2.2.2.2.2.2.2.2.2.2.2.2.1 b.2.2.2.2.2.2.2.2.2.2.2.2.2.2 g.1 g.2.1 g.2.2.1 g.2.2.2.1 g.2.2.2.2.1 g.2.2.2.2.2.1 g.2.2.2.2.2.2.1 g.2.2.2.2.2.2.2.1 g.2.2.2.2.2.2.2.2.1 g.2.2.2.2.2.2.2.2.2.1 g.2.2.2.2.2.2.2.2.2.2.1 g.2.2.2.2.2.2.2.2.2.2.2.1 g.2.2.2.2.2.2.2.2.2.2.2.2.1 g.2.2.2.2.2.2.2.2.2.2.2.2.2.1 g.2.2.2.2.2.2.2.2.2.2.2.2.2.2).bind fun R => (if R = true then (some true) else (some false)))) else (some false)))))))))))))) := by
  refine Is.lim (g := fun k => laws_FnExactEqualWorlds.f k S T U V W X Y Z v0 v1 v2 v3 v4 v5 v6 v7 v8 v9 v10 v11 v12 v13 v14 v15 v16 v17 v18 v19 v20 v21) ?_
  · unfold laws_FnExactEqualWorlds.f
    exact is5_ @impl_EqualWorlds.f_is @laws_eqWorld.f_is @laws_szWorld.f_is @laws_toWorld.f_is @spec_EqualWorlds.f_is
end
end Go.Proofs.Ytchnkakjjbfklaa.Print
