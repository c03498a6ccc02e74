/- Written by a program of this session (merge.py): texts that the law's plain side leans on, laid together. No condition. -/
import Derived.Test.YtfhndlgbjhffiaaWWords
import Derived.Test.YtfhndlgbjhffiaaPrint1
import Derived.Test.YtfhndlgbjhffiaaPrint2
import Derived.Test.YtfhndlgbjhffiaaPrint3
import Derived.Test.YtfhndlgbjhffiaaPrint4
import Derived.Test.YtfhndlgbjhffiaaPrint5
import Derived.Test.YtfhndlgbjhffiaaPrint6
import Derived.Test.YtfhndlgbjhffiaaPrint7
import Derived.Test.YtfhndlgbjhffiaaPrint8
import Derived.Test.YtfhndlgbjhffiaaPrint9
/- What a function with rounds comes to when it has rounds enough, as an option: its equations hold without rounds. No condition. -/
namespace Go.Proofs.Ytfhndlgbjhffiaa.Base
open Go.RowKit Go.Proofs.YtfhndlgbjhffiaaW.PrintWords

/-- More rounds tell the same. -/
def Mo {α : Type} (g : Nat → Option α) : Prop := ∀ k, LeO (g k) (g (k + 1))
theorem mo_le {α : Type} {g : Nat → Option α} (h : Mo g) {k k' : Nat} (hk : k ≤ k') {r : α} (hr : g k = some r) : g k' = some r := at_rounds h hk hr
open Classical in
/-- What it comes to at last: nothing, or one answer. -/
noncomputable def Lim {α : Type} (g : Nat → Option α) : Option α := if h : ∃ r, ∃ k, g k = some r then some (Classical.choose h) else none
theorem lim_some {α : Type} {g : Nat → Option α} (h : Mo g) {k : Nat} {r : α} (hr : g k = some r) : Lim g = some r := by
  have hx : ∃ r, ∃ k, g k = some r := ⟨r, k, hr⟩
  unfold Lim
  rw [dif_pos hx]
  obtain ⟨k', hk'⟩ := Classical.choose_spec hx
  have h1 := mo_le h (Nat.le_max_left k k') hr
  have h2 := mo_le h (Nat.le_max_right k k') hk'
  rw [h1] at h2
  exact h2.symm
theorem of_lim {α : Type} {g : Nat → Option α} {r : α} (h : Lim g = some r) : ∃ k, g k = some r := by
  unfold Lim at h
  split at h
  · rename_i hx
    obtain rfl := Option.some.inj h
    exact Classical.choose_spec hx
  · cases h
theorem lim_none {α : Type} {g : Nat → Option α} (h : Lim g = none) (k : Nat) : g k = none := by
  cases hk : g k with
  | none => rfl
  | some r =>
    unfold Lim at h
    rw [dif_pos ⟨r, k, hk⟩] at h
    cases h
theorem none_lim {α : Type} {g : Nat → Option α} (h : ∀ k, g k = none) : Lim g = none := by
  unfold Lim
  rw [dif_neg]
  rintro ⟨r, k, hk⟩
  rw [h k] at hk
  cases hk
structure Is {α : Type} (g : Nat → Option α) (v : Option α) : Prop where
  mo : Mo g
  lim : Lim g = v
theorem Is.now {α : Type} (v : Option α) : Is (fun _ => v) v := by
  refine ⟨fun _ => LeO.refl _, ?_⟩
  cases v with
  | none => exact none_lim fun _ => rfl
  | some r => exact lim_some (g := fun _ => some r) (fun _ => LeO.refl _) (k := 0) rfl
theorem Is.ite {α : Type} {c : Prop} [Decidable c] {g h : Nat → Option α} {a b : Option α} (hg : Is g a) (hh : Is h b) : Is (fun k => if c then g k else h k) (if c then a else b) := by
  by_cases hc : c
  · simp only [if_pos hc]
    exact hg
  · simp only [if_neg hc]
    exact hh
theorem Is.bind {α β : Type} {g : Nat → Option α} {f : Nat → α → Option β} {a : Option α} {b : α → Option β} (hg : Is g a) (hf : ∀ x, Is (fun k => f k x) (b x)) : Is (fun k => (g k).bind (f k)) (a.bind b) := by
  have hm : Mo (fun k => (g k).bind (f k)) := fun k => LeO.bind (hg.mo k) (fun x => (hf x).mo k)
  refine ⟨hm, ?_⟩
  cases ha : a with
  | none =>
    refine none_lim fun k => ?_
    rw [lim_none (hg.lim.trans ha) k]
    rfl
  | some x =>
    obtain ⟨k, hk⟩ := of_lim (hg.lim.trans ha)
    show _ = b x
    cases hb : b x with
    | none =>
      refine none_lim fun k' => ?_
      cases hx : (g k').bind (f k') with
      | none => rfl
      | some r =>
        have h1 := mo_le hm (Nat.le_max_left k' k) hx
        have h2 := mo_le hg.mo (Nat.le_max_right k' k) hk
        simp only [h2, Option.bind_some] at h1
        rw [lim_none ((hf x).lim.trans hb)] at h1
        cases h1
    | some r =>
      obtain ⟨k', hk'⟩ := of_lim ((hf x).lim.trans hb)
      refine lim_some hm (k := max k k') ?_
      simp only [mo_le hg.mo (Nat.le_max_left k k') hk, Option.bind_some]
      exact mo_le (hf x).mo (Nat.le_max_right k k') hk'
theorem Is.step {α : Type} {g b : Nat → Option α} {v : Option α} (hg : Mo g) (h : ∀ k, g (k + 1) = b k) (hb : Is b v) : Lim g = v := by
  rw [← hb.lim]
  cases hx : Lim g with
  | none =>
    symm
    refine none_lim fun k => ?_
    rw [← h k]
    exact lim_none hx _
  | some r =>
    obtain ⟨k, hk⟩ := of_lim hx
    symm
    refine lim_some hb.mo (k := k) ?_
    rw [← h k]
    exact mo_le hg (Nat.le_succ k) hk
theorem ends {α : Type} {g : Nat → Option α} {r : α} (h : Lim g = some r) : ∃ k, g k = some r := of_lim h
theorem is0_ {q : Prop} (e : q := by repeat' first | with_reducible exact Is.now _ | with_reducible refine Is.ite ?_ ?_ | with_reducible refine Is.bind ?_ (fun _ => ?_)) : q := e
theorem is1_ {q p0 : Prop} (h0_ : p0) (e : p0 → q := by intro h0_; repeat' first | (with_reducible apply h0_) | with_reducible exact Is.now _ | with_reducible refine Is.ite ?_ ?_ | with_reducible refine Is.bind ?_ (fun _ => ?_)) : q := e h0_
theorem is2_ {q p0 p1 : Prop} (h0_ : p0) (h1_ : p1) (e : p0 → p1 → q := by intro h0_ h1_; repeat' first | (with_reducible apply h0_) | (with_reducible apply h1_) | with_reducible exact Is.now _ | with_reducible refine Is.ite ?_ ?_ | with_reducible refine Is.bind ?_ (fun _ => ?_)) : q := e h0_ h1_
theorem is3_ {q p0 p1 p2 : Prop} (h0_ : p0) (h1_ : p1) (h2_ : p2) (e : p0 → p1 → p2 → q := by intro h0_ h1_ h2_; repeat' first | (with_reducible apply h0_) | (with_reducible apply h1_) | (with_reducible apply h2_) | with_reducible exact Is.now _ | with_reducible refine Is.ite ?_ ?_ | with_reducible refine Is.bind ?_ (fun _ => ?_)) : q := e h0_ h1_ h2_
theorem is4_ {q p0 p1 p2 p3 : Prop} (h0_ : p0) (h1_ : p1) (h2_ : p2) (h3_ : p3) (e : p0 → p1 → p2 → p3 → q := by intro h0_ h1_ h2_ h3_; repeat' first | (with_reducible apply h0_) | (with_reducible apply h1_) | (with_reducible apply h2_) | (with_reducible apply h3_) | with_reducible exact Is.now _ | with_reducible refine Is.ite ?_ ?_ | with_reducible refine Is.bind ?_ (fun _ => ?_)) : q := e h0_ h1_ h2_ h3_
theorem is5_ {q p0 p1 p2 p3 p4 : Prop} (h0_ : p0) (h1_ : p1) (h2_ : p2) (h3_ : p3) (h4_ : p4) (e : p0 → p1 → p2 → p3 → p4 → q := by intro h0_ h1_ h2_ h3_ h4_; repeat' first | (with_reducible apply h0_) | (with_reducible apply h1_) | (with_reducible apply h2_) | (with_reducible apply h3_) | (with_reducible apply h4_) | with_reducible exact Is.now _ | with_reducible refine Is.ite ?_ ?_ | with_reducible refine Is.bind ?_ (fun _ => ?_)) : q := e h0_ h1_ h2_ h3_ h4_
theorem is6_ {q p0 p1 p2 p3 p4 p5 : Prop} (h0_ : p0) (h1_ : p1) (h2_ : p2) (h3_ : p3) (h4_ : p4) (h5_ : p5) (e : p0 → p1 → p2 → p3 → p4 → p5 → q := by intro h0_ h1_ h2_ h3_ h4_ h5_; repeat' first | (with_reducible apply h0_) | (with_reducible apply h1_) | (with_reducible apply h2_) | (with_reducible apply h3_) | (with_reducible apply h4_) | (with_reducible apply h5_) | with_reducible exact Is.now _ | with_reducible refine Is.ite ?_ ?_ | with_reducible refine Is.bind ?_ (fun _ => ?_)) : q := e h0_ h1_ h2_ h3_ h4_ h5_
theorem is7_ {q p0 p1 p2 p3 p4 p5 p6 : Prop} (h0_ : p0) (h1_ : p1) (h2_ : p2) (h3_ : p3) (h4_ : p4) (h5_ : p5) (h6_ : p6) (e : p0 → p1 → p2 → p3 → p4 → p5 → p6 → q := by intro h0_ h1_ h2_ h3_ h4_ h5_ h6_; repeat' first | (with_reducible apply h0_) | (with_reducible apply h1_) | (with_reducible apply h2_) | (with_reducible apply h3_) | (with_reducible apply h4_) | (with_reducible apply h5_) | (with_reducible apply h6_) | with_reducible exact Is.now _ | with_reducible refine Is.ite ?_ ?_ | with_reducible refine Is.bind ?_ (fun _ => ?_)) : q := e h0_ h1_ h2_ h3_ h4_ h5_ h6_
theorem is8_ {q p0 p1 p2 p3 p4 p5 p6 p7 : Prop} (h0_ : p0) (h1_ : p1) (h2_ : p2) (h3_ : p3) (h4_ : p4) (h5_ : p5) (h6_ : p6) (h7_ : p7) (e : p0 → p1 → p2 → p3 → p4 → p5 → p6 → p7 → q := by intro h0_ h1_ h2_ h3_ h4_ h5_ h6_ h7_; repeat' first | (with_reducible apply h0_) | (with_reducible apply h1_) | (with_reducible apply h2_) | (with_reducible apply h3_) | (with_reducible apply h4_) | (with_reducible apply h5_) | (with_reducible apply h6_) | (with_reducible apply h7_) | with_reducible exact Is.now _ | with_reducible refine Is.ite ?_ ?_ | with_reducible refine Is.bind ?_ (fun _ => ?_)) : q := e h0_ h1_ h2_ h3_ h4_ h5_ h6_ h7_
end Go.Proofs.Ytfhndlgbjhffiaa.Base

/- Written by a program of this session (limx.py): the equations of what the printed functions come to. No condition. -/
namespace Go.Proofs.Ytfhndlgbjhffiaa.Print
open Go.RowKit Go.Proofs.YtfhndlgbjhffiaaW.PrintWords Go.Proofs.YtfhndlgbjhffiaaW.PrintLast Go.Proofs.Ytfhndlgbjhffiaa.Base
set_option linter.unusedVariables false
set_option maxRecDepth 20000
section
variable (e : List (S104)) (g : Int) (i : List (S104)) (h : Int)
noncomputable def laws_szBoxS.l0v := Lim fun k => laws_szBoxS.l0 k e g h
noncomputable def laws_szBoxS.fv := Lim fun k => laws_szBoxS.f k i h
theorem laws_szBoxS.l0_is : Is (fun k => laws_szBoxS.l0 k e g h) (laws_szBoxS.l0v e g h) := ⟨fun k => (laws_szBoxS.mono_l k) e g h, rfl⟩
theorem laws_szBoxS.f_is : Is (fun k => laws_szBoxS.f k i h) (laws_szBoxS.fv i h) := ⟨fun k => laws_szBoxS.mono i h k, rfl⟩
theorem laws_szBoxS.l0v_eq : laws_szBoxS.l0v e g h = if h < (e.length : Int) then (if 0 ≤ h then ((laws_szBox.f ((rd_T104 e h).f0) ((rd_T104 e h).f1) ((rd_T104 e h).f2) ((rd_T104 e h).f3) g).bind fun i => (if i < 0 then (some (-1)) else (laws_szBoxS.l0v e i (wrap64 (h + 1))))) else (none)) else (some g) := by
  refine Is.step (laws_szBoxS.l0_is e g h).mo (fun k => by rw [laws_szBoxS.l0]) ?_
  exact is1_ @laws_szBoxS.l0_is
theorem laws_szBoxS.fv_eq : laws_szBoxS.fv i h = if (wrap64 (h - (i.length : Int))) < 0 then (some (-1)) else (laws_szBoxS.l0v i (wrap64 (h - (i.length : Int))) 0) := by
  refine Is.lim (g := fun k => laws_szBoxS.f k i h) ?_
  · unfold laws_szBoxS.f
    exact is1_ @laws_szBoxS.l0_is
end
section
variable (j l : List Int) (m : List (S104)) (n o : Int)
noncomputable def laws_szEndpoint.fv := Lim fun k => laws_szEndpoint.f k j l m n o
theorem laws_szEndpoint.f_is : Is (fun k => laws_szEndpoint.f k j l m n o) (laws_szEndpoint.fv j l m n o) := ⟨fun k => laws_szEndpoint.mono j l m n o k, rfl⟩
theorem laws_szEndpoint.fv_eq : laws_szEndpoint.fv j l m n o = (laws_szIntS.f j o).bind fun a => (if a < 0 then (some (-1)) else ((laws_szIntS.f l a).bind fun b => (if b < 0 then (some (-1)) else ((laws_szBoxS.fv m b).bind fun c => (if c < 0 then (some (-1)) else (some c)))))) := by
  refine Is.lim (g := fun k => laws_szEndpoint.f k j l m n o) ?_
  · unfold laws_szEndpoint.f
    exact is1_ @laws_szBoxS.f_is
end
section
variable (e : List (S74)) (g : Int) (i : List (S74)) (h : Int)
noncomputable def laws_szEndpointS.l0v := Lim fun k => laws_szEndpointS.l0 k e g h
noncomputable def laws_szEndpointS.fv := Lim fun k => laws_szEndpointS.f k i h
theorem laws_szEndpointS.l0_is : Is (fun k => laws_szEndpointS.l0 k e g h) (laws_szEndpointS.l0v e g h) := ⟨fun k => (laws_szEndpointS.mono_l k) e g h, rfl⟩
theorem laws_szEndpointS.f_is : Is (fun k => laws_szEndpointS.f k i h) (laws_szEndpointS.fv i h) := ⟨fun k => laws_szEndpointS.mono i h k, rfl⟩
theorem laws_szEndpointS.l0v_eq : laws_szEndpointS.l0v e g h = if h < (e.length : Int) then (if 0 ≤ h then ((laws_szEndpoint.fv ((rd_T74 e h).f0) ((rd_T74 e h).f1) ((rd_T74 e h).f2) ((rd_T74 e h).f3) g).bind fun i => (if i < 0 then (some (-1)) else (laws_szEndpointS.l0v e i (wrap64 (h + 1))))) else (none)) else (some g) := by
  refine Is.step (laws_szEndpointS.l0_is e g h).mo (fun k => by rw [laws_szEndpointS.l0]) ?_
  exact is2_ @laws_szEndpoint.f_is @laws_szEndpointS.l0_is
theorem laws_szEndpointS.fv_eq : laws_szEndpointS.fv i h = if (wrap64 (h - (i.length : Int))) < 0 then (some (-1)) else (laws_szEndpointS.l0v i (wrap64 (h - (i.length : Int))) 0) := by
  refine Is.lim (g := fun k => laws_szEndpointS.f k i h) ?_
  · unfold laws_szEndpointS.f
    exact is1_ @laws_szEndpointS.l0_is
end
section
variable (e : List (S79)) (g : Int) (i : List (S79)) (h : Int)
noncomputable def laws_szDialedS.l0v := Lim fun k => laws_szDialedS.l0 k e g h
noncomputable def laws_szDialedS.fv := Lim fun k => laws_szDialedS.f k i h
theorem laws_szDialedS.l0_is : Is (fun k => laws_szDialedS.l0 k e g h) (laws_szDialedS.l0v e g h) := ⟨fun k => (laws_szDialedS.mono_l k) e g h, rfl⟩
theorem laws_szDialedS.f_is : Is (fun k => laws_szDialedS.f k i h) (laws_szDialedS.fv i h) := ⟨fun k => laws_szDialedS.mono i h k, rfl⟩
theorem laws_szDialedS.l0v_eq : laws_szDialedS.l0v e g h = if h < (e.length : Int) then (if 0 ≤ h then ((laws_szDialed.f ((rd_T79 e h).f0.f0) ((rd_T79 e h).f0.f1) ((rd_T79 e h).f0.f2) ((rd_T79 e h).f1) ((rd_T79 e h).f2) g).bind fun i => (if i < 0 then (some (-1)) else (laws_szDialedS.l0v e i (wrap64 (h + 1))))) else (none)) else (some g) := by
  refine Is.step (laws_szDialedS.l0_is e g h).mo (fun k => by rw [laws_szDialedS.l0]) ?_
  exact is1_ @laws_szDialedS.l0_is
theorem laws_szDialedS.fv_eq : laws_szDialedS.fv i h = if (wrap64 (h - (i.length : Int))) < 0 then (some (-1)) else (laws_szDialedS.l0v i (wrap64 (h - (i.length : Int))) 0) := by
  refine Is.lim (g := fun k => laws_szDialedS.f k i h) ?_
  · unfold laws_szDialedS.f
    exact is1_ @laws_szDialedS.l0_is
end
end Go.Proofs.Ytfhndlgbjhffiaa.Print

/- Written by a program of this session (limx.py): the equations of what the printed functions come to. No condition. -/
namespace Go.Proofs.Ytfhndlgbjhffiaa.Print
open Go.RowKit Go.Proofs.YtfhndlgbjhffiaaW.PrintWords Go.Proofs.YtfhndlgbjhffiaaW.PrintLast Go.Proofs.Ytfhndlgbjhffiaa.Base
set_option linter.unusedVariables false
set_option maxRecDepth 20000
noncomputable def laws_szLoggedS.l0v (e : List (S82)) (g : Int) (h : Int) : Option (Int) := Lim fun k => laws_szLoggedS.l0 k e g h
noncomputable def laws_szLoggedS.fv (h : List (S82)) (e : Int) : Option (Int) := Lim fun k => laws_szLoggedS.f k h e
theorem laws_szLoggedS.l0_is (e : List (S82)) (g : Int) (h : Int) : Is (fun k => laws_szLoggedS.l0 k e g h) (laws_szLoggedS.l0v e g h) := ⟨fun k => (laws_szLoggedS.mono_l k) e g h, rfl⟩
theorem laws_szLoggedS.f_is (h : List (S82)) (e : Int) : Is (fun k => laws_szLoggedS.f k h e) (laws_szLoggedS.fv h e) := ⟨fun k => laws_szLoggedS.mono h e k, rfl⟩
theorem laws_szLoggedS.l0v_eq (e : List (S82)) (g : Int) (h : Int) : laws_szLoggedS.l0v e g h = if h < (e.length : Int) then (if 0 ≤ h then ((laws_szLogged.f ((rd_T82 e h).f0) ((rd_T82 e h).f1) ((rd_T82 e h).f2) ((rd_T82 e h).f3.f0.f0) ((rd_T82 e h).f3.f0.f1) ((rd_T82 e h).f3.f0.f2) ((rd_T82 e h).f3.f1) ((rd_T82 e h).f3.f2) g).bind fun c => (if c < 0 then (some (-1)) else (laws_szLoggedS.l0v e c (wrap64 (h + 1))))) else (none)) else (some g) := by
  refine Is.step (laws_szLoggedS.l0_is e g h).mo (fun k => by rw [laws_szLoggedS.l0]) ?_
  exact is1_ @laws_szLoggedS.l0_is
theorem laws_szLoggedS.fv_eq (h : List (S82)) (e : Int) : laws_szLoggedS.fv h e = if (wrap64 (e - (h.length : Int))) < 0 then (some (-1)) else (laws_szLoggedS.l0v h (wrap64 (e - (h.length : Int))) 0) := by
  refine Is.lim (g := fun k => laws_szLoggedS.f k h e) ?_
  · unfold laws_szLoggedS.f
    exact is1_ @laws_szLoggedS.l0_is
section
variable (y z : List Int) (A : Int) (B : List (S74)) (C : Int) (D : List Int) (E : Int) (F : Bool) (G H : Int) (I : List (S79)) (J : List (S82)) (K L M N : Int)
noncomputable def laws_szWorld.fv := Lim fun k => laws_szWorld.f k y z A B C D E F G H I J K L M N
theorem laws_szWorld.f_is : Is (fun k => laws_szWorld.f k y z A B C D E F G H I J K L M N) (laws_szWorld.fv y z A B C D E F G H I J K L M N) := ⟨fun k => laws_szWorld.mono y z A B C D E F G H I J K L M N k, rfl⟩
theorem laws_szWorld.fv_eq : laws_szWorld.fv y z A B C D E F G H I J K L M N = (laws_szIntS.f y N).bind fun a => (if a < 0 then (some (-1)) else ((laws_szIntS.f z a).bind fun b => (if b < 0 then (some (-1)) else ((laws_szEndpointS.fv B b).bind fun c => (if c < 0 then (some (-1)) else ((laws_szRollout.f C D E F c).bind fun d => (if d < 0 then (some (-1)) else ((laws_szDialedS.fv I d).bind fun e => (if e < 0 then (some (-1)) else ((laws_szLoggedS.fv J e).bind fun g => (if g < 0 then (some (-1)) else (some g)))))))))))) := by
  refine Is.lim (g := fun k => laws_szWorld.f k y z A B C D E F G H I J K L M N) ?_
  · unfold laws_szWorld.f
    exact is3_ @laws_szDialedS.f_is @laws_szEndpointS.f_is @laws_szLoggedS.f_is
end
noncomputable def laws_toIntS.l0v (d : List Int) (e : List Int) (f : Int) : Option (List Int) := Lim fun k => laws_toIntS.l0 k d e f
noncomputable def laws_toIntS.fv (f : List Int) : Option (List Int) := Lim fun k => laws_toIntS.f k f
theorem laws_toIntS.l0_is (d : List Int) (e : List Int) (f : Int) : Is (fun k => laws_toIntS.l0 k d e f) (laws_toIntS.l0v d e f) := ⟨fun k => (laws_toIntS.mono_l k) d e f, rfl⟩
theorem laws_toIntS.f_is (f : List Int) : Is (fun k => laws_toIntS.f k f) (laws_toIntS.fv f) := ⟨fun k => laws_toIntS.mono f k, rfl⟩
theorem laws_toIntS.l0v_eq (d : List Int) (e : List Int) (f : Int) : laws_toIntS.l0v d e f = if f < (d.length : Int) then (if 0 ≤ f then (if f < (e.length : Int) then (laws_toIntS.l0v d (e.set (f : Int).toNat (rd d f)) (wrap64 (f + 1))) else (none)) else (none)) else (some e) := by
  refine Is.step (laws_toIntS.l0_is d e f).mo (fun k => by rw [laws_toIntS.l0]) ?_
  exact is1_ @laws_toIntS.l0_is
theorem laws_toIntS.fv_eq (f : List Int) : laws_toIntS.fv f = if 0 ≤ (f.length : Int) then (if ((f.length : Int) : Int).toNat ≤ 35184372088832 then (laws_toIntS.l0v f (List.replicate ((f.length : Int) : Int).toNat 0) 0) else (none)) else (none) := by
  refine Is.lim (g := fun k => laws_toIntS.f k f) ?_
  · unfold laws_toIntS.f
    exact is1_ @laws_toIntS.l0_is
section
variable (h : Int) (i j : List Int) (l : Bool)
noncomputable def laws_toBox.fv := Lim fun k => laws_toBox.f k h i j l
theorem laws_toBox.f_is : Is (fun k => laws_toBox.f k h i j l) (laws_toBox.fv h i j l) := ⟨fun k => laws_toBox.mono h i j l k, rfl⟩
theorem laws_toBox.fv_eq : laws_toBox.fv h i j l = (laws_toIntS.fv i).bind fun e => ((laws_toIntS.fv j).bind fun g => (some (h, e, g, l))) := by
  refine Is.lim (g := fun k => laws_toBox.f k h i j l) ?_
  · unfold laws_toBox.f
    exact is1_ @laws_toIntS.f_is
end
section
variable (e : List (S104)) (g : List (S102)) (h : Int) (i : List (S104))
noncomputable def laws_toBoxS.l0v := Lim fun k => laws_toBoxS.l0 k e g h
noncomputable def laws_toBoxS.fv := Lim fun k => laws_toBoxS.f k i
theorem laws_toBoxS.l0_is : Is (fun k => laws_toBoxS.l0 k e g h) (laws_toBoxS.l0v e g h) := ⟨fun k => (laws_toBoxS.mono_l k) e g h, rfl⟩
theorem laws_toBoxS.f_is : Is (fun k => laws_toBoxS.f k i) (laws_toBoxS.fv i) := ⟨fun k => laws_toBoxS.mono i k, rfl⟩
theorem laws_toBoxS.l0v_eq : laws_toBoxS.l0v e g h = if h < (e.length : Int) then (if 0 ≤ h then ((laws_toBox.fv ((rd_T104 e h).f0) ((rd_T104 e h).f1) ((rd_T104 e h).f2) ((rd_T104 e h).f3)).bind fun i => (if h < (g.length : Int) then (laws_toBoxS.l0v e (g.set (h : Int).toNat (⟨i.1, i.2.1, i.2.2.1, i.2.2.2⟩ : S102)) (wrap64 (h + 1))) else (none))) else (none)) else (some g) := by
  refine Is.step (laws_toBoxS.l0_is e g h).mo (fun k => by rw [laws_toBoxS.l0]) ?_
  exact is2_ @laws_toBox.f_is @laws_toBoxS.l0_is
theorem laws_toBoxS.fv_eq : laws_toBoxS.fv i = if 0 ≤ (i.length : Int) then (if ((i.length : Int) : Int).toNat ≤ 4398046511104 then (laws_toBoxS.l0v i (List.replicate ((i.length : Int) : Int).toNat z102) 0) else (none)) else (none) := by
  refine Is.lim (g := fun k => laws_toBoxS.f k i) ?_
  · unfold laws_toBoxS.f
    exact is1_ @laws_toBoxS.l0_is
end
section
variable (i j : List Int) (l : List (S104)) (m : Int)
noncomputable def laws_toEndpoint.fv := Lim fun k => laws_toEndpoint.f k i j l m
theorem laws_toEndpoint.f_is : Is (fun k => laws_toEndpoint.f k i j l m) (laws_toEndpoint.fv i j l m) := ⟨fun k => laws_toEndpoint.mono i j l m k, rfl⟩
theorem laws_toEndpoint.fv_eq : laws_toEndpoint.fv i j l m = (laws_toIntS.fv i).bind fun e => ((laws_toIntS.fv j).bind fun g => ((laws_toBoxS.fv l).bind fun h => (some (e, g, h, m)))) := by
  refine Is.lim (g := fun k => laws_toEndpoint.f k i j l m) ?_
  · unfold laws_toEndpoint.f
    exact is2_ @laws_toBoxS.f_is @laws_toIntS.f_is
end
section
variable (e : List (S74)) (g : List (S56)) (h : Int) (i : List (S74))
noncomputable def laws_toEndpointS.l0v := Lim fun k => laws_toEndpointS.l0 k e g h
noncomputable def laws_toEndpointS.fv := Lim fun k => laws_toEndpointS.f k i
theorem laws_toEndpointS.l0_is : Is (fun k => laws_toEndpointS.l0 k e g h) (laws_toEndpointS.l0v e g h) := ⟨fun k => (laws_toEndpointS.mono_l k) e g h, rfl⟩
theorem laws_toEndpointS.f_is : Is (fun k => laws_toEndpointS.f k i) (laws_toEndpointS.fv i) := ⟨fun k => laws_toEndpointS.mono i k, rfl⟩
theorem laws_toEndpointS.l0v_eq : laws_toEndpointS.l0v e g h = if h < (e.length : Int) then (if 0 ≤ h then ((laws_toEndpoint.fv ((rd_T74 e h).f0) ((rd_T74 e h).f1) ((rd_T74 e h).f2) ((rd_T74 e h).f3)).bind fun i => (if h < (g.length : Int) then (laws_toEndpointS.l0v e (g.set (h : Int).toNat (⟨i.1, i.2.1, i.2.2.1, i.2.2.2⟩ : S56)) (wrap64 (h + 1))) else (none))) else (none)) else (some g) := by
  refine Is.step (laws_toEndpointS.l0_is e g h).mo (fun k => by rw [laws_toEndpointS.l0]) ?_
  exact is2_ @laws_toEndpoint.f_is @laws_toEndpointS.l0_is
theorem laws_toEndpointS.fv_eq : laws_toEndpointS.fv i = if 0 ≤ (i.length : Int) then (if ((i.length : Int) : Int).toNat ≤ 3518437208883 then (laws_toEndpointS.l0v i (List.replicate ((i.length : Int) : Int).toNat z56) 0) else (none)) else (none) := by
  refine Is.lim (g := fun k => laws_toEndpointS.f k i) ?_
  · unfold laws_toEndpointS.f
    exact is1_ @laws_toEndpointS.l0_is
end
end Go.Proofs.Ytfhndlgbjhffiaa.Print

/- Written by a program of this session (limx.py): the equations of what the printed functions come to. No condition. -/
namespace Go.Proofs.Ytfhndlgbjhffiaa.Print
open Go.RowKit Go.Proofs.YtfhndlgbjhffiaaW.PrintWords Go.Proofs.YtfhndlgbjhffiaaW.PrintLast Go.Proofs.Ytfhndlgbjhffiaa.Base
set_option linter.unusedVariables false
set_option maxRecDepth 20000
section
variable (g : Int) (h : List Int) (i : Int) (j : Bool)
noncomputable def laws_toRollout.fv := Lim fun k => laws_toRollout.f k g h i j
theorem laws_toRollout.f_is : Is (fun k => laws_toRollout.f k g h i j) (laws_toRollout.fv g h i j) := ⟨fun k => laws_toRollout.mono g h i j k, rfl⟩
theorem laws_toRollout.fv_eq : laws_toRollout.fv g h i j = (laws_toIntS.fv h).bind fun e => (some (g, e, i, j)) := by
  refine Is.lim (g := fun k => laws_toRollout.f k g h i j) ?_
  · unfold laws_toRollout.f
    exact is1_ @laws_toIntS.f_is
end
section
variable (e : Bool) (g : Int) (h : List Int)
noncomputable def laws_toDeal.fv := Lim fun k => laws_toDeal.f k e g h
theorem laws_toDeal.f_is : Is (fun k => laws_toDeal.f k e g h) (laws_toDeal.fv e g h) := ⟨fun k => laws_toDeal.mono e g h k, rfl⟩
theorem laws_toDeal.fv_eq : laws_toDeal.fv e g h = (laws_toIntS.fv h).bind fun d => (some (e, g, d)) := by
  refine Is.lim (g := fun k => laws_toDeal.f k e g h) ?_
  · unfold laws_toDeal.f
    exact is1_ @laws_toIntS.f_is
end
section
variable (i : Bool) (j : Int) (l : List Int) (m : Int) (n : List Int)
noncomputable def laws_toDialed.fv := Lim fun k => laws_toDialed.f k i j l m n
theorem laws_toDialed.f_is : Is (fun k => laws_toDialed.f k i j l m n) (laws_toDialed.fv i j l m n) := ⟨fun k => laws_toDialed.mono i j l m n k, rfl⟩
theorem laws_toDialed.fv_eq : laws_toDialed.fv i j l m n = (laws_toDeal.fv i j l).bind fun a => ((laws_toIntS.fv n).bind fun h => (some (a.1, a.2.1, a.2.2, m, h))) := by
  refine Is.lim (g := fun k => laws_toDialed.f k i j l m n) ?_
  · unfold laws_toDialed.f
    exact is2_ @laws_toDeal.f_is @laws_toIntS.f_is
end
section
variable (e : List (S79)) (g : List (S86)) (h : Int) (i : List (S79))
noncomputable def laws_toDialedS.l0v := Lim fun k => laws_toDialedS.l0 k e g h
noncomputable def laws_toDialedS.fv := Lim fun k => laws_toDialedS.f k i
theorem laws_toDialedS.l0_is : Is (fun k => laws_toDialedS.l0 k e g h) (laws_toDialedS.l0v e g h) := ⟨fun k => (laws_toDialedS.mono_l k) e g h, rfl⟩
theorem laws_toDialedS.f_is : Is (fun k => laws_toDialedS.f k i) (laws_toDialedS.fv i) := ⟨fun k => laws_toDialedS.mono i k, rfl⟩
theorem laws_toDialedS.l0v_eq : laws_toDialedS.l0v e g h = if h < (e.length : Int) then (if 0 ≤ h then ((laws_toDialed.fv ((rd_T79 e h).f0.f0) ((rd_T79 e h).f0.f1) ((rd_T79 e h).f0.f2) ((rd_T79 e h).f1) ((rd_T79 e h).f2)).bind fun i => (if h < (g.length : Int) then (laws_toDialedS.l0v e (g.set (h : Int).toNat (⟨(⟨i.1, i.2.1, i.2.2.1⟩ : S84), i.2.2.2.1, i.2.2.2.2⟩ : S86)) (wrap64 (h + 1))) else (none))) else (none)) else (some g) := by
  refine Is.step (laws_toDialedS.l0_is e g h).mo (fun k => by rw [laws_toDialedS.l0]) ?_
  exact is2_ @laws_toDialed.f_is @laws_toDialedS.l0_is
theorem laws_toDialedS.fv_eq : laws_toDialedS.fv i = if 0 ≤ (i.length : Int) then (if ((i.length : Int) : Int).toNat ≤ 3909374676536 then (laws_toDialedS.l0v i (List.replicate ((i.length : Int) : Int).toNat z86) 0) else (none)) else (none) := by
  refine Is.lim (g := fun k => laws_toDialedS.f k i) ?_
  · unfold laws_toDialedS.f
    exact is1_ @laws_toDialedS.l0_is
end
section
variable (l m : Int) (n o : Bool) (p : Int) (q : List Int) (r : Int) (s : List Int)
noncomputable def laws_toLogged.fv := Lim fun k => laws_toLogged.f k l m n o p q r s
theorem laws_toLogged.f_is : Is (fun k => laws_toLogged.f k l m n o p q r s) (laws_toLogged.fv l m n o p q r s) := ⟨fun k => laws_toLogged.mono l m n o p q r s k, rfl⟩
theorem laws_toLogged.fv_eq : laws_toLogged.fv l m n o p q r s = (laws_toDialed.fv o p q r s).bind fun a => (some (l, m, n, a.1, a.2.1, a.2.2.1, a.2.2.2.1, a.2.2.2.2)) := by
  refine Is.lim (g := fun k => laws_toLogged.f k l m n o p q r s) ?_
  · unfold laws_toLogged.f
    exact is1_ @laws_toDialed.f_is
end
section
variable (e : List (S82)) (g : List (S89)) (h : Int) (i : List (S82))
noncomputable def laws_toLoggedS.l0v := Lim fun k => laws_toLoggedS.l0 k e g h
noncomputable def laws_toLoggedS.fv := Lim fun k => laws_toLoggedS.f k i
theorem laws_toLoggedS.l0_is : Is (fun k => laws_toLoggedS.l0 k e g h) (laws_toLoggedS.l0v e g h) := ⟨fun k => (laws_toLoggedS.mono_l k) e g h, rfl⟩
theorem laws_toLoggedS.f_is : Is (fun k => laws_toLoggedS.f k i) (laws_toLoggedS.fv i) := ⟨fun k => laws_toLoggedS.mono i k, rfl⟩
theorem laws_toLoggedS.l0v_eq : laws_toLoggedS.l0v e g h = if h < (e.length : Int) then (if 0 ≤ h then ((laws_toLogged.fv ((rd_T82 e h).f0) ((rd_T82 e h).f1) ((rd_T82 e h).f2) ((rd_T82 e h).f3.f0.f0) ((rd_T82 e h).f3.f0.f1) ((rd_T82 e h).f3.f0.f2) ((rd_T82 e h).f3.f1) ((rd_T82 e h).f3.f2)).bind fun i => (if h < (g.length : Int) then (laws_toLoggedS.l0v e (g.set (h : Int).toNat (⟨i.1, i.2.1, i.2.2.1, (⟨(⟨i.2.2.2.1, i.2.2.2.2.1, i.2.2.2.2.2.1⟩ : S84), i.2.2.2.2.2.2.1, i.2.2.2.2.2.2.2⟩ : S86)⟩ : S89)) (wrap64 (h + 1))) else (none))) else (none)) else (some g) := by
  refine Is.step (laws_toLoggedS.l0_is e g h).mo (fun k => by rw [laws_toLoggedS.l0]) ?_
  exact is2_ @laws_toLogged.f_is @laws_toLoggedS.l0_is
theorem laws_toLoggedS.fv_eq : laws_toLoggedS.fv i = if 0 ≤ (i.length : Int) then (if ((i.length : Int) : Int).toNat ≤ 2932031007402 then (laws_toLoggedS.l0v i (List.replicate ((i.length : Int) : Int).toNat z89) 0) else (none)) else (none) := by
  refine Is.lim (g := fun k => laws_toLoggedS.f k i) ?_
  · unfold laws_toLoggedS.f
    exact is1_ @laws_toLoggedS.l0_is
end
section
variable (x y : List Int) (z : Int) (A : List (S74)) (B : Int) (C : List Int) (D : Int) (E : Bool) (F G : Int) (H : List (S79)) (I : List (S82)) (J K L : Int)
noncomputable def laws_toWorld.fv := Lim fun k => laws_toWorld.f k x y z A B C D E F G H I J K L
theorem laws_toWorld.f_is : Is (fun k => laws_toWorld.f k x y z A B C D E F G H I J K L) (laws_toWorld.fv x y z A B C D E F G H I J K L) := ⟨fun k => laws_toWorld.mono x y z A B C D E F G H I J K L k, rfl⟩
theorem laws_toWorld.fv_eq : laws_toWorld.fv x y z A B C D E F G H I J K L = (laws_toIntS.fv x).bind fun s => ((laws_toIntS.fv y).bind fun t => ((laws_toEndpointS.fv A).bind fun u => ((laws_toRollout.fv B C D E).bind fun a => ((laws_toDialedS.fv H).bind fun v => ((laws_toLoggedS.fv I).bind fun w => (some (s, t, z, u, a.1, a.2.1, a.2.2.1, a.2.2.2, F, G, v, w, J, K, L))))))) := by
  refine Is.lim (g := fun k => laws_toWorld.f k x y z A B C D E F G H I J K L) ?_
  · unfold laws_toWorld.f
    exact is5_ @laws_toDialedS.f_is @laws_toEndpointS.f_is @laws_toIntS.f_is @laws_toLoggedS.f_is @laws_toRollout.f_is
end
noncomputable def laws_eqIntS.l0v (d : List Int) (e : List Int) (f : Int) : Option (Bool) := Lim fun k => laws_eqIntS.l0 k d e f
noncomputable def laws_eqIntS.fv (f : List Int) (d : List Int) : Option (Bool) := Lim fun k => laws_eqIntS.f k f d
theorem laws_eqIntS.l0_is (d : List Int) (e : List Int) (f : Int) : Is (fun k => laws_eqIntS.l0 k d e f) (laws_eqIntS.l0v d e f) := ⟨fun k => (laws_eqIntS.mono_l k) d e f, rfl⟩
theorem laws_eqIntS.f_is (f : List Int) (d : List Int) : Is (fun k => laws_eqIntS.f k f d) (laws_eqIntS.fv f d) := ⟨fun k => laws_eqIntS.mono f d k, rfl⟩
theorem laws_eqIntS.l0v_eq (d : List Int) (e : List Int) (f : Int) : laws_eqIntS.l0v d e f = if f < (d.length : Int) then (if 0 ≤ f then (if f < (e.length : Int) then (if (rd d f) = (rd e f) then (laws_eqIntS.l0v d e (wrap64 (f + 1))) else (some false)) else (none)) else (none)) else (some true) := by
  refine Is.step (laws_eqIntS.l0_is d e f).mo (fun k => by rw [laws_eqIntS.l0]) ?_
  exact is1_ @laws_eqIntS.l0_is
theorem laws_eqIntS.fv_eq (f : List Int) (d : List Int) : laws_eqIntS.fv f d = if (f.length : Int) = (d.length : Int) then (laws_eqIntS.l0v f d 0) else (some false) := by
  refine Is.lim (g := fun k => laws_eqIntS.f k f d) ?_
  · unfold laws_eqIntS.f
    exact is1_ @laws_eqIntS.l0_is
section
variable (m : Int) (n o : List Int) (p : Bool) (q : Int) (r s : List Int) (t : Bool)
noncomputable def laws_eqBox.fv := Lim fun k => laws_eqBox.f k m n o p q r s t
theorem laws_eqBox.f_is : Is (fun k => laws_eqBox.f k m n o p q r s t) (laws_eqBox.fv m n o p q r s t) := ⟨fun k => laws_eqBox.mono m n o p q r s t k, rfl⟩
theorem laws_eqBox.fv_eq : laws_eqBox.fv m n o p q r s t = if m = q then ((laws_eqIntS.fv n r).bind fun j => (if j = true then ((laws_eqIntS.fv o s).bind fun l => (if l = true then (if p = true then (if t = true then (some true) else (some false)) else (if t = true then (some false) else (some true))) else (some false))) else (some false))) else (some false) := by
  refine Is.lim (g := fun k => laws_eqBox.f k m n o p q r s t) ?_
  · unfold laws_eqBox.f
    exact is1_ @laws_eqIntS.f_is
end
end Go.Proofs.Ytfhndlgbjhffiaa.Print

/- Written by a program of this session (limx.py): the equations of what the printed functions come to. No condition. -/
namespace Go.Proofs.Ytfhndlgbjhffiaa.Print
open Go.RowKit Go.Proofs.YtfhndlgbjhffiaaW.PrintWords Go.Proofs.YtfhndlgbjhffiaaW.PrintLast Go.Proofs.Ytfhndlgbjhffiaa.Base
set_option linter.unusedVariables false
set_option maxRecDepth 20000
noncomputable def laws_eqBoxS.l0v (e : List (S102)) (g : List (S102)) (h : Int) : Option (Bool) := Lim fun k => laws_eqBoxS.l0 k e g h
noncomputable def laws_eqBoxS.fv (h : List (S102)) (e : List (S102)) : Option (Bool) := Lim fun k => laws_eqBoxS.f k h e
theorem laws_eqBoxS.l0_is (e : List (S102)) (g : List (S102)) (h : Int) : Is (fun k => laws_eqBoxS.l0 k e g h) (laws_eqBoxS.l0v e g h) := ⟨fun k => (laws_eqBoxS.mono_l k) e g h, rfl⟩
theorem laws_eqBoxS.f_is (h : List (S102)) (e : List (S102)) : Is (fun k => laws_eqBoxS.f k h e) (laws_eqBoxS.fv h e) := ⟨fun k => laws_eqBoxS.mono h e k, rfl⟩
theorem laws_eqBoxS.l0v_eq (e : List (S102)) (g : List (S102)) (h : Int) : laws_eqBoxS.l0v e g h = if h < (e.length : Int) then (if 0 ≤ h then (if h < (g.length : Int) then ((laws_eqBox.fv ((rd_T102 e h).f0) ((rd_T102 e h).f1) ((rd_T102 e h).f2) ((rd_T102 e h).f3) ((rd_T102 g h).f0) ((rd_T102 g h).f1) ((rd_T102 g h).f2) ((rd_T102 g h).f3)).bind fun d => (if d = true then (laws_eqBoxS.l0v e g (wrap64 (h + 1))) else (some false))) else (none)) else (none)) else (some true) := by
  refine Is.step (laws_eqBoxS.l0_is e g h).mo (fun k => by rw [laws_eqBoxS.l0]) ?_
  exact is2_ @laws_eqBox.f_is @laws_eqBoxS.l0_is
theorem laws_eqBoxS.fv_eq (h : List (S102)) (e : List (S102)) : laws_eqBoxS.fv h e = if (h.length : Int) = (e.length : Int) then (laws_eqBoxS.l0v h e 0) else (some false) := by
  refine Is.lim (g := fun k => laws_eqBoxS.f k h e) ?_
  · unfold laws_eqBoxS.f
    exact is1_ @laws_eqBoxS.l0_is
section
variable (n o : List Int) (p : List (S102)) (q : Int) (r s : List Int) (t : List (S102)) (u : Int)
noncomputable def laws_eqEndpoint.fv := Lim fun k => laws_eqEndpoint.f k n o p q r s t u
theorem laws_eqEndpoint.f_is : Is (fun k => laws_eqEndpoint.f k n o p q r s t u) (laws_eqEndpoint.fv n o p q r s t u) := ⟨fun k => laws_eqEndpoint.mono n o p q r s t u k, rfl⟩
theorem laws_eqEndpoint.fv_eq : laws_eqEndpoint.fv n o p q r s t u = (laws_eqIntS.fv n r).bind fun j => (if j = true then ((laws_eqIntS.fv o s).bind fun l => (if l = true then ((laws_eqBoxS.fv p t).bind fun m => (if m = true then (if q = u then (some true) else (some false)) else (some false))) else (some false))) else (some false)) := by
  refine Is.lim (g := fun k => laws_eqEndpoint.f k n o p q r s t u) ?_
  · unfold laws_eqEndpoint.f
    exact is2_ @laws_eqBoxS.f_is @laws_eqIntS.f_is
end
noncomputable def laws_eqEndpointS.l0v (e : List (S56)) (g : List (S56)) (h : Int) : Option (Bool) := Lim fun k => laws_eqEndpointS.l0 k e g h
noncomputable def laws_eqEndpointS.fv (h : List (S56)) (e : List (S56)) : Option (Bool) := Lim fun k => laws_eqEndpointS.f k h e
theorem laws_eqEndpointS.l0_is (e : List (S56)) (g : List (S56)) (h : Int) : Is (fun k => laws_eqEndpointS.l0 k e g h) (laws_eqEndpointS.l0v e g h) := ⟨fun k => (laws_eqEndpointS.mono_l k) e g h, rfl⟩
theorem laws_eqEndpointS.f_is (h : List (S56)) (e : List (S56)) : Is (fun k => laws_eqEndpointS.f k h e) (laws_eqEndpointS.fv h e) := ⟨fun k => laws_eqEndpointS.mono h e k, rfl⟩
theorem laws_eqEndpointS.l0v_eq (e : List (S56)) (g : List (S56)) (h : Int) : laws_eqEndpointS.l0v e g h = if h < (e.length : Int) then (if 0 ≤ h then (if h < (g.length : Int) then ((laws_eqEndpoint.fv ((rd_T56 e h).f0) ((rd_T56 e h).f1) ((rd_T56 e h).f2) ((rd_T56 e h).f3) ((rd_T56 g h).f0) ((rd_T56 g h).f1) ((rd_T56 g h).f2) ((rd_T56 g h).f3)).bind fun d => (if d = true then (laws_eqEndpointS.l0v e g (wrap64 (h + 1))) else (some false))) else (none)) else (none)) else (some true) := by
  refine Is.step (laws_eqEndpointS.l0_is e g h).mo (fun k => by rw [laws_eqEndpointS.l0]) ?_
  exact is2_ @laws_eqEndpoint.f_is @laws_eqEndpointS.l0_is
theorem laws_eqEndpointS.fv_eq (h : List (S56)) (e : List (S56)) : laws_eqEndpointS.fv h e = if (h.length : Int) = (e.length : Int) then (laws_eqEndpointS.l0v h e 0) else (some false) := by
  refine Is.lim (g := fun k => laws_eqEndpointS.f k h e) ?_
  · unfold laws_eqEndpointS.f
    exact is1_ @laws_eqEndpointS.l0_is
section
variable (l : Int) (m : List Int) (n : Int) (o : Bool) (p : Int) (q : List Int) (r : Int) (s : Bool)
noncomputable def laws_eqRollout.fv := Lim fun k => laws_eqRollout.f k l m n o p q r s
theorem laws_eqRollout.f_is : Is (fun k => laws_eqRollout.f k l m n o p q r s) (laws_eqRollout.fv l m n o p q r s) := ⟨fun k => laws_eqRollout.mono l m n o p q r s k, rfl⟩
theorem laws_eqRollout.fv_eq : laws_eqRollout.fv l m n o p q r s = if l = p then ((laws_eqIntS.fv m q).bind fun j => (if j = true then (if n = r then (if o = true then (if s = true then (some true) else (some false)) else (if s = true then (some false) else (some true))) else (some false)) else (some false))) else (some false) := by
  refine Is.lim (g := fun k => laws_eqRollout.f k l m n o p q r s) ?_
  · unfold laws_eqRollout.f
    exact is1_ @laws_eqIntS.f_is
end
end Go.Proofs.Ytfhndlgbjhffiaa.Print

/- Written by a program of this session (limx.py): the equations of what the printed functions come to. No condition. -/
namespace Go.Proofs.Ytfhndlgbjhffiaa.Print
open Go.RowKit Go.Proofs.YtfhndlgbjhffiaaW.PrintWords Go.Proofs.YtfhndlgbjhffiaaW.PrintLast Go.Proofs.Ytfhndlgbjhffiaa.Base
set_option linter.unusedVariables false
set_option maxRecDepth 20000
section
variable (j : Bool) (l : Int) (m : List Int) (n : Bool) (o : Int) (p : List Int)
noncomputable def laws_eqDeal.fv := Lim fun k => laws_eqDeal.f k j l m n o p
theorem laws_eqDeal.f_is : Is (fun k => laws_eqDeal.f k j l m n o p) (laws_eqDeal.fv j l m n o p) := ⟨fun k => laws_eqDeal.mono j l m n o p k, rfl⟩
theorem laws_eqDeal.fv_eq : laws_eqDeal.fv j l m n o p = if j = true then (if n = true then (if l = o then ((laws_eqIntS.fv m p).bind fun h => (if h = true then (some true) else (some false))) else (some false)) else (some false)) else (if n = true then (some false) else (if l = o then ((laws_eqIntS.fv m p).bind fun i => (if i = true then (some true) else (some false))) else (some false))) := by
  refine Is.lim (g := fun k => laws_eqDeal.f k j l m n o p) ?_
  · unfold laws_eqDeal.f
    exact is1_ @laws_eqIntS.f_is
end
section
variable (o : Bool) (p : Int) (q : List Int) (r : Int) (s : List Int) (t : Bool) (u : Int) (v : List Int) (w : Int) (x : List Int)
noncomputable def laws_eqDialed.fv := Lim fun k => laws_eqDialed.f k o p q r s t u v w x
theorem laws_eqDialed.f_is : Is (fun k => laws_eqDialed.f k o p q r s t u v w x) (laws_eqDialed.fv o p q r s t u v w x) := ⟨fun k => laws_eqDialed.mono o p q r s t u v w x k, rfl⟩
theorem laws_eqDialed.fv_eq : laws_eqDialed.fv o p q r s t u v w x = (laws_eqDeal.fv o p q t u v).bind fun m => (if m = true then (if r = w then ((laws_eqIntS.fv s x).bind fun n => (if n = true then (some true) else (some false))) else (some false)) else (some false)) := by
  refine Is.lim (g := fun k => laws_eqDialed.f k o p q r s t u v w x) ?_
  · unfold laws_eqDialed.f
    exact is2_ @laws_eqDeal.f_is @laws_eqIntS.f_is
end
noncomputable def laws_eqDialedS.l0v (e : List (S86)) (g : List (S86)) (h : Int) : Option (Bool) := Lim fun k => laws_eqDialedS.l0 k e g h
noncomputable def laws_eqDialedS.fv (h : List (S86)) (e : List (S86)) : Option (Bool) := Lim fun k => laws_eqDialedS.f k h e
theorem laws_eqDialedS.l0_is (e : List (S86)) (g : List (S86)) (h : Int) : Is (fun k => laws_eqDialedS.l0 k e g h) (laws_eqDialedS.l0v e g h) := ⟨fun k => (laws_eqDialedS.mono_l k) e g h, rfl⟩
theorem laws_eqDialedS.f_is (h : List (S86)) (e : List (S86)) : Is (fun k => laws_eqDialedS.f k h e) (laws_eqDialedS.fv h e) := ⟨fun k => laws_eqDialedS.mono h e k, rfl⟩
theorem laws_eqDialedS.l0v_eq (e : List (S86)) (g : List (S86)) (h : Int) : laws_eqDialedS.l0v e g h = if h < (e.length : Int) then (if 0 ≤ h then (if h < (g.length : Int) then ((laws_eqDialed.fv ((rd_T86 e h).f0.f0) ((rd_T86 e h).f0.f1) ((rd_T86 e h).f0.f2) ((rd_T86 e h).f1) ((rd_T86 e h).f2) ((rd_T86 g h).f0.f0) ((rd_T86 g h).f0.f1) ((rd_T86 g h).f0.f2) ((rd_T86 g h).f1) ((rd_T86 g h).f2)).bind fun d => (if d = true then (laws_eqDialedS.l0v e g (wrap64 (h + 1))) else (some false))) else (none)) else (none)) else (some true) := by
  refine Is.step (laws_eqDialedS.l0_is e g h).mo (fun k => by rw [laws_eqDialedS.l0]) ?_
  exact is2_ @laws_eqDialed.f_is @laws_eqDialedS.l0_is
theorem laws_eqDialedS.fv_eq (h : List (S86)) (e : List (S86)) : laws_eqDialedS.fv h e = if (h.length : Int) = (e.length : Int) then (laws_eqDialedS.l0v h e 0) else (some false) := by
  refine Is.lim (g := fun k => laws_eqDialedS.f k h e) ?_
  · unfold laws_eqDialedS.f
    exact is1_ @laws_eqDialedS.l0_is
section
variable (u v : Int) (w x : Bool) (y : Int) (z : List Int) (A : Int) (B : List Int) (C D : Int) (E F : Bool) (G : Int) (H : List Int) (I : Int) (J : List Int)
noncomputable def laws_eqLogged.fv := Lim fun k => laws_eqLogged.f k u v w x y z A B C D E F G H I J
theorem laws_eqLogged.f_is : Is (fun k => laws_eqLogged.f k u v w x y z A B C D E F G H I J) (laws_eqLogged.fv u v w x y z A B C D E F G H I J) := ⟨fun k => laws_eqLogged.mono u v w x y z A B C D E F G H I J k, rfl⟩
theorem laws_eqLogged.fv_eq : laws_eqLogged.fv u v w x y z A B C D E F G H I J = if u = C then (if v = D then (if w = true then (if E = true then ((laws_eqDialed.fv x y z A B F G H I J).bind fun s => (if s = true then (some true) else (some false))) else (some false)) else (if E = true then (some false) else ((laws_eqDialed.fv x y z A B F G H I J).bind fun t => (if t = true then (some true) else (some false))))) else (some false)) else (some false) := by
  refine Is.lim (g := fun k => laws_eqLogged.f k u v w x y z A B C D E F G H I J) ?_
  · unfold laws_eqLogged.f
    exact is1_ @laws_eqDialed.f_is
end
end Go.Proofs.Ytfhndlgbjhffiaa.Print

/- Written by a program of this session (limx.py): the equations of what the printed functions come to. No condition. -/
namespace Go.Proofs.Ytfhndlgbjhffiaa.Print
open Go.RowKit Go.Proofs.YtfhndlgbjhffiaaW.PrintWords Go.Proofs.YtfhndlgbjhffiaaW.PrintLast Go.Proofs.Ytfhndlgbjhffiaa.Base
set_option linter.unusedVariables false
set_option maxRecDepth 20000
noncomputable def laws_eqLoggedS.l0v (e : List (S89)) (g : List (S89)) (h : Int) : Option (Bool) := Lim fun k => laws_eqLoggedS.l0 k e g h
noncomputable def laws_eqLoggedS.fv (h : List (S89)) (e : List (S89)) : Option (Bool) := Lim fun k => laws_eqLoggedS.f k h e
theorem laws_eqLoggedS.l0_is (e : List (S89)) (g : List (S89)) (h : Int) : Is (fun k => laws_eqLoggedS.l0 k e g h) (laws_eqLoggedS.l0v e g h) := ⟨fun k => (laws_eqLoggedS.mono_l k) e g h, rfl⟩
theorem laws_eqLoggedS.f_is (h : List (S89)) (e : List (S89)) : Is (fun k => laws_eqLoggedS.f k h e) (laws_eqLoggedS.fv h e) := ⟨fun k => laws_eqLoggedS.mono h e k, rfl⟩
theorem laws_eqLoggedS.l0v_eq (e : List (S89)) (g : List (S89)) (h : Int) : laws_eqLoggedS.l0v e g h = if h < (e.length : Int) then (if 0 ≤ h then (if h < (g.length : Int) then ((laws_eqLogged.fv ((rd_T89 e h).f0) ((rd_T89 e h).f1) ((rd_T89 e h).f2) ((rd_T89 e h).f3.f0.f0) ((rd_T89 e h).f3.f0.f1) ((rd_T89 e h).f3.f0.f2) ((rd_T89 e h).f3.f1) ((rd_T89 e h).f3.f2) ((rd_T89 g h).f0) ((rd_T89 g h).f1) ((rd_T89 g h).f2) ((rd_T89 g h).f3.f0.f0) ((rd_T89 g h).f3.f0.f1) ((rd_T89 g h).f3.f0.f2) ((rd_T89 g h).f3.f1) ((rd_T89 g h).f3.f2)).bind fun d => (if d = true then (laws_eqLoggedS.l0v e g (wrap64 (h + 1))) else (some false))) else (none)) else (none)) else (some true) := by
  refine Is.step (laws_eqLoggedS.l0_is e g h).mo (fun k => by rw [laws_eqLoggedS.l0]) ?_
  exact is2_ @laws_eqLogged.f_is @laws_eqLoggedS.l0_is
theorem laws_eqLoggedS.fv_eq (h : List (S89)) (e : List (S89)) : laws_eqLoggedS.fv h e = if (h.length : Int) = (e.length : Int) then (laws_eqLoggedS.l0v h e 0) else (some false) := by
  refine Is.lim (g := fun k => laws_eqLoggedS.f k h e) ?_
  · unfold laws_eqLoggedS.f
    exact is1_ @laws_eqLoggedS.l0_is
section
variable (M N : List Int) (O : Int) (P : List (S56)) (Q : Int) (R : List Int) (S : Int) (T : Bool) (U V : Int) (W : List (S86)) (X : List (S89)) (Y Z v0 : Int) (v1 v2 : List Int) (v3 : Int) (v4 : List (S56)) (v5 : Int) (v6 : List Int) (v7 : Int) (v8 : Bool) (v9 v10 : Int) (v11 : List (S86)) (v12 : List (S89)) (v13 v14 v15 : Int)
noncomputable def laws_eqWorld.fv := Lim fun k => laws_eqWorld.f k M N O P Q R S T U V W X Y Z v0 v1 v2 v3 v4 v5 v6 v7 v8 v9 v10 v11 v12 v13 v14 v15
theorem laws_eqWorld.f_is : Is (fun k => laws_eqWorld.f k M N O P Q R S T U V W X Y Z v0 v1 v2 v3 v4 v5 v6 v7 v8 v9 v10 v11 v12 v13 v14 v15) (laws_eqWorld.fv M N O P Q R S T U V W X Y Z v0 v1 v2 v3 v4 v5 v6 v7 v8 v9 v10 v11 v12 v13 v14 v15) := ⟨fun k => laws_eqWorld.mono M N O P Q R S T U V W X Y Z v0 v1 v2 v3 v4 v5 v6 v7 v8 v9 v10 v11 v12 v13 v14 v15 k, rfl⟩
theorem laws_eqWorld.fv_eq : laws_eqWorld.fv M N O P Q R S T U V W X Y Z v0 v1 v2 v3 v4 v5 v6 v7 v8 v9 v10 v11 v12 v13 v14 v15 = (laws_eqIntS.fv M v1).bind fun G => (if G = true then ((laws_eqIntS.fv N v2).bind fun H => (if H = true then (if O = v3 then ((laws_eqEndpointS.fv P v4).bind fun I => (if I = true then ((laws_eqRollout.fv Q R S T v5 v6 v7 v8).bind fun J => (if J = true then (if U = v9 then (if V = v10 then ((laws_eqDialedS.fv W v11).bind fun K => (if K = true then ((laws_eqLoggedS.fv X v12).bind fun L => (if L = true then (if Y = v13 then (if Z = v14 then (if v0 = v15 then (some true) else (some false)) else (some false)) else (some false)) else (some false))) else (some false))) else (some false)) else (some false)) else (some false))) else (some false))) else (some false)) else (some false))) else (some false)) := by
  refine Is.lim (g := fun k => laws_eqWorld.f k M N O P Q R S T U V W X Y Z v0 v1 v2 v3 v4 v5 v6 v7 v8 v9 v10 v11 v12 v13 v14 v15) ?_
  · unfold laws_eqWorld.f
    exact is5_ @laws_eqDialedS.f_is @laws_eqEndpointS.f_is @laws_eqIntS.f_is @laws_eqLoggedS.f_is @laws_eqRollout.f_is
end
section
variable (d : List Int) (e f : Int)
noncomputable def laws_markIntS.l0v := Lim fun k => laws_markIntS.l0 k d e f
noncomputable def laws_markIntS.fv := Lim fun k => laws_markIntS.f k d f
theorem laws_markIntS.l0_is : Is (fun k => laws_markIntS.l0 k d e f) (laws_markIntS.l0v d e f) := ⟨fun k => (laws_markIntS.mono_l k) d e f, rfl⟩
theorem laws_markIntS.f_is : Is (fun k => laws_markIntS.f k d f) (laws_markIntS.fv d f) := ⟨fun k => laws_markIntS.mono d f k, rfl⟩
theorem laws_markIntS.l0v_eq : laws_markIntS.l0v d e f = if f < (d.length : Int) then (if 0 ≤ f then (laws_markIntS.l0v (d.set (f : Int).toNat e) (wrap64 (e + 1)) (wrap64 (f + 1))) else (none)) else (some (e, d)) := by
  refine Is.step (laws_markIntS.l0_is d e f).mo (fun k => by rw [laws_markIntS.l0]) ?_
  exact is1_ @laws_markIntS.l0_is
theorem laws_markIntS.fv_eq : laws_markIntS.fv d f = laws_markIntS.l0v d f 0 := by
  refine Is.lim (g := fun k => laws_markIntS.f k d f) ?_
  · unfold laws_markIntS.f
    exact is1_ @laws_markIntS.l0_is
end
end Go.Proofs.Ytfhndlgbjhffiaa.Print

/- Written by a program of this session (limx.py): the equations of what the printed functions come to. No condition. -/
namespace Go.Proofs.Ytfhndlgbjhffiaa.Print
open Go.RowKit Go.Proofs.YtfhndlgbjhffiaaW.PrintWords Go.Proofs.YtfhndlgbjhffiaaW.PrintLast Go.Proofs.Ytfhndlgbjhffiaa.Base
set_option linter.unusedVariables false
set_option maxRecDepth 20000
noncomputable def spec_ListsOf.l0v (t : List (List Int)) (u : Int) (v : List Int) (w : List Int) (x : Int) (y : List (S56)) (z : Int) (A : List Int) (B : Int) (C : Bool) (D : Int) (E : Int) (F : List (S86)) (G : List (S89)) (H : Int) (I : Int) (J : Int) : Option ((List (List Int))) := Lim fun k => spec_ListsOf.l0 k t u v w x y z A B C D E F G H I J
noncomputable def spec_ListsOf.fv (H : List Int) (I : List Int) (B : Int) (J : List (S56)) (C : Int) (K : List Int) (D : Int) (E : Bool) (F : Int) (G : Int) (x : List (S86)) (z : List (S89)) (y : Int) (v : Int) (w : Int) : Option ((List (List Int))) := Lim fun k => spec_ListsOf.f k H I B J C K D E F G x z y v w
theorem spec_ListsOf.l0_is (t : List (List Int)) (u : Int) (v : List Int) (w : List Int) (x : Int) (y : List (S56)) (z : Int) (A : List Int) (B : Int) (C : Bool) (D : Int) (E : Int) (F : List (S86)) (G : List (S89)) (H : Int) (I : Int) (J : Int) : Is (fun k => spec_ListsOf.l0 k t u v w x y z A B C D E F G H I J) (spec_ListsOf.l0v t u v w x y z A B C D E F G H I J) := ⟨fun k => (spec_ListsOf.mono_l k) t u v w x y z A B C D E F G H I J, rfl⟩
theorem spec_ListsOf.f_is (H : List Int) (I : List Int) (B : Int) (J : List (S56)) (C : Int) (K : List Int) (D : Int) (E : Bool) (F : Int) (G : Int) (x : List (S86)) (z : List (S89)) (y : Int) (v : Int) (w : Int) : Is (fun k => spec_ListsOf.f k H I B J C K D E F G x z y v w) (spec_ListsOf.fv H I B J C K D E F G x z y v w) := ⟨fun k => spec_ListsOf.mono H I B J C K D E F G x z y v w k, rfl⟩
theorem spec_ListsOf.l0v_eq (t : List (List Int)) (u : Int) (v : List Int) (w : List Int) (x : Int) (y : List (S56)) (z : Int) (A : List Int) (B : Int) (C : Bool) (D : Int) (E : Int) (F : List (S86)) (G : List (S89)) (H : Int) (I : Int) (J : Int) : spec_ListsOf.l0v t u v w x y z A B C D E F G H I J = if u < (y.length : Int) then ((some (([] : List Int) : List Int)).bind fun K => (if 0 ≤ u then (if K.length + ((rd_T56 y u).f0).length < 17592186044416 then (if t.length < 5864062014805 then (spec_ListsOf.l0v (t ++ [(K ++ ((rd_T56 y u).f0))]) (wrap64 (u + 1)) v w x y z A B C D E F G H I J) else (none)) else (none)) else (none))) else (some t) := by
  refine Is.step (spec_ListsOf.l0_is t u v w x y z A B C D E F G H I J).mo (fun k => by rw [spec_ListsOf.l0]) ?_
  exact is1_ @spec_ListsOf.l0_is
theorem spec_ListsOf.fv_eq (H : List Int) (I : List Int) (B : Int) (J : List (S56)) (C : Int) (K : List Int) (D : Int) (E : Bool) (F : Int) (G : Int) (x : List (S86)) (z : List (S89)) (y : Int) (v : Int) (w : Int) : spec_ListsOf.fv H I B J C K D E F G x z y v w = spec_ListsOf.l0v (([] : List (List Int))) 0 H I B J C K D E F G x z y v w := by
  refine Is.lim (g := fun k => spec_ListsOf.f k H I B J C K D E F G x z y v w) ?_
  · unfold spec_ListsOf.f
    exact is1_ @spec_ListsOf.l0_is
noncomputable def impl_ListsOf.l0v (f : List (List Int)) (r : List (S56)) (s : Int) (t : Int) : Option ((List (List Int))) := Lim fun k => impl_ListsOf.l0 k f r s t
noncomputable def impl_ListsOf.fv (u : List Int) (v : List Int) (w : Int) (t : List (S56)) (x : Int) (y : List Int) (z : Int) (A : Bool) (B : Int) (C : Int) (s : List (S86)) (D : List (S89)) (E : Int) (r : Int) (f : Int) : Option ((List (List Int))) := Lim fun k => impl_ListsOf.f k u v w t x y z A B C s D E r f
theorem impl_ListsOf.l0_is (f : List (List Int)) (r : List (S56)) (s : Int) (t : Int) : Is (fun k => impl_ListsOf.l0 k f r s t) (impl_ListsOf.l0v f r s t) := ⟨fun k => (impl_ListsOf.mono_l k) f r s t, rfl⟩
theorem impl_ListsOf.f_is (u : List Int) (v : List Int) (w : Int) (t : List (S56)) (x : Int) (y : List Int) (z : Int) (A : Bool) (B : Int) (C : Int) (s : List (S86)) (D : List (S89)) (E : Int) (r : Int) (f : Int) : Is (fun k => impl_ListsOf.f k u v w t x y z A B C s D E r f) (impl_ListsOf.fv u v w t x y z A B C s D E r f) := ⟨fun k => impl_ListsOf.mono u v w t x y z A B C s D E r f k, rfl⟩
theorem impl_ListsOf.l0v_eq (f : List (List Int)) (r : List (S56)) (s : Int) (t : Int) : impl_ListsOf.l0v f r s t = if t < s then (if 0 ≤ t then (if t < (r.length : Int) then ((some (([] : List Int) : List Int)).bind fun E => (if E.length + ((rd_T56 r t).f0).length < 17592186044416 then (if f.length < 5864062014805 then (impl_ListsOf.l0v (f ++ [(E ++ ((rd_T56 r t).f0))]) r s (wrap64 (t + 1))) else (none)) else (none))) else (none)) else (none)) else (some f) := by
  refine Is.step (impl_ListsOf.l0_is f r s t).mo (fun k => by rw [impl_ListsOf.l0]) ?_
  exact is1_ @impl_ListsOf.l0_is
theorem impl_ListsOf.fv_eq (u : List Int) (v : List Int) (w : Int) (t : List (S56)) (x : Int) (y : List Int) (z : Int) (A : Bool) (B : Int) (C : Int) (s : List (S86)) (D : List (S89)) (E : Int) (r : Int) (f : Int) : impl_ListsOf.fv u v w t x y z A B C s D E r f = impl_ListsOf.l0v (([] : List (List Int))) t (t.length : Int) 0 := by
  refine Is.lim (g := fun k => impl_ListsOf.f k u v w t x y z A B C s D E r f) ?_
  · unfold impl_ListsOf.f
    exact is1_ @impl_ListsOf.l0_is
noncomputable def laws_eqIntSS.l0v (e : List (List Int)) (g : List (List Int)) (h : Int) : Option (Bool) := Lim fun k => laws_eqIntSS.l0 k e g h
noncomputable def laws_eqIntSS.fv (h : List (List Int)) (i : List (List Int)) : Option (Bool) := Lim fun k => laws_eqIntSS.f k h i
theorem laws_eqIntSS.l0_is (e : List (List Int)) (g : List (List Int)) (h : Int) : Is (fun k => laws_eqIntSS.l0 k e g h) (laws_eqIntSS.l0v e g h) := ⟨fun k => (laws_eqIntSS.mono_l k) e g h, rfl⟩
theorem laws_eqIntSS.f_is (h : List (List Int)) (i : List (List Int)) : Is (fun k => laws_eqIntSS.f k h i) (laws_eqIntSS.fv h i) := ⟨fun k => laws_eqIntSS.mono h i k, rfl⟩
theorem laws_eqIntSS.l0v_eq (e : List (List Int)) (g : List (List Int)) (h : Int) : laws_eqIntSS.l0v e g h = if h < (e.length : Int) then (if 0 ≤ h then (if h < (g.length : Int) then ((laws_eqIntS.fv (rd_L1 e h) (rd_L1 g h)).bind fun i => (if i = true then (laws_eqIntSS.l0v e g (wrap64 (h + 1))) else (some false))) else (none)) else (none)) else (some true) := by
  refine Is.step (laws_eqIntSS.l0_is e g h).mo (fun k => by rw [laws_eqIntSS.l0]) ?_
  exact is2_ @laws_eqIntS.f_is @laws_eqIntSS.l0_is
theorem laws_eqIntSS.fv_eq (h : List (List Int)) (i : List (List Int)) : laws_eqIntSS.fv h i = if (h.length : Int) = (i.length : Int) then (laws_eqIntSS.l0v h i 0) else (some false) := by
  refine Is.lim (g := fun k => laws_eqIntSS.f k h i) ?_
  · unfold laws_eqIntSS.f
    exact is1_ @laws_eqIntSS.l0_is
end Go.Proofs.Ytfhndlgbjhffiaa.Print

/- Written by a program of this session (limx.py): the equations of what the printed functions come to. No condition. -/
namespace Go.Proofs.Ytfhndlgbjhffiaa.Print
open Go.RowKit Go.Proofs.YtfhndlgbjhffiaaW.PrintWords Go.Proofs.YtfhndlgbjhffiaaW.PrintLast Go.Proofs.Ytfhndlgbjhffiaa.Base
set_option linter.unusedVariables false
set_option maxRecDepth 20000
noncomputable def laws_markIntSS.l0v (e : List (List Int)) (g : Int) (h : Int) : Option (Int × List (List Int)) := Lim fun k => laws_markIntSS.l0 k e g h
noncomputable def laws_markIntSS.fv (h : List (List Int)) (i : Int) : Option (Int × List (List Int)) := Lim fun k => laws_markIntSS.f k h i
theorem laws_markIntSS.l0_is (e : List (List Int)) (g : Int) (h : Int) : Is (fun k => laws_markIntSS.l0 k e g h) (laws_markIntSS.l0v e g h) := ⟨fun k => (laws_markIntSS.mono_l k) e g h, rfl⟩
theorem laws_markIntSS.f_is (h : List (List Int)) (i : Int) : Is (fun k => laws_markIntSS.f k h i) (laws_markIntSS.fv h i) := ⟨fun k => laws_markIntSS.mono h i k, rfl⟩
theorem laws_markIntSS.l0v_eq (e : List (List Int)) (g : Int) (h : Int) : laws_markIntSS.l0v e g h = if h < (e.length : Int) then (if 0 ≤ h then ((laws_markIntS.fv (rd_L1 e h) g).bind fun i => (laws_markIntSS.l0v (e.set (h : Int).toNat i.2) i.1 (wrap64 (h + 1)))) else (none)) else (some (g, e)) := by
  refine Is.step (laws_markIntSS.l0_is e g h).mo (fun k => by rw [laws_markIntSS.l0]) ?_
  exact is2_ @laws_markIntS.f_is @laws_markIntSS.l0_is
theorem laws_markIntSS.fv_eq (h : List (List Int)) (i : Int) : laws_markIntSS.fv h i = laws_markIntSS.l0v h i 0 := by
  refine Is.lim (g := fun k => laws_markIntSS.f k h i) ?_
  · unfold laws_markIntSS.f
    exact is1_ @laws_markIntSS.l0_is
section
variable (d : List Int) (e f : Int)
noncomputable def laws_heldIntS.l0v := Lim fun k => laws_heldIntS.l0 k d e f
noncomputable def laws_heldIntS.fv := Lim fun k => laws_heldIntS.f k d f
theorem laws_heldIntS.l0_is : Is (fun k => laws_heldIntS.l0 k d e f) (laws_heldIntS.l0v d e f) := ⟨fun k => (laws_heldIntS.mono_l k) d e f, rfl⟩
theorem laws_heldIntS.f_is : Is (fun k => laws_heldIntS.f k d f) (laws_heldIntS.fv d f) := ⟨fun k => laws_heldIntS.mono d f k, rfl⟩
theorem laws_heldIntS.l0v_eq : laws_heldIntS.l0v d e f = if f < (d.length : Int) then (if 0 ≤ f then (if (rd d f) = e then (laws_heldIntS.l0v d (wrap64 (e + 1)) (wrap64 (f + 1))) else (some (-1))) else (none)) else (some e) := by
  refine Is.step (laws_heldIntS.l0_is d e f).mo (fun k => by rw [laws_heldIntS.l0]) ?_
  exact is1_ @laws_heldIntS.l0_is
theorem laws_heldIntS.fv_eq : laws_heldIntS.fv d f = laws_heldIntS.l0v d f 0 := by
  refine Is.lim (g := fun k => laws_heldIntS.f k d f) ?_
  · unfold laws_heldIntS.f
    exact is1_ @laws_heldIntS.l0_is
end
noncomputable def laws_heldIntSS.l0v (e : List (List Int)) (g : Int) (h : Int) : Option (Int) := Lim fun k => laws_heldIntSS.l0 k e g h
noncomputable def laws_heldIntSS.fv (h : List (List Int)) (i : Int) : Option (Int) := Lim fun k => laws_heldIntSS.f k h i
theorem laws_heldIntSS.l0_is (e : List (List Int)) (g : Int) (h : Int) : Is (fun k => laws_heldIntSS.l0 k e g h) (laws_heldIntSS.l0v e g h) := ⟨fun k => (laws_heldIntSS.mono_l k) e g h, rfl⟩
theorem laws_heldIntSS.f_is (h : List (List Int)) (i : Int) : Is (fun k => laws_heldIntSS.f k h i) (laws_heldIntSS.fv h i) := ⟨fun k => laws_heldIntSS.mono h i k, rfl⟩
theorem laws_heldIntSS.l0v_eq (e : List (List Int)) (g : Int) (h : Int) : laws_heldIntSS.l0v e g h = if h < (e.length : Int) then (if 0 ≤ h then ((laws_heldIntS.fv (rd_L1 e h) g).bind fun i => (if i < 0 then (some (-1)) else (laws_heldIntSS.l0v e i (wrap64 (h + 1))))) else (none)) else (some g) := by
  refine Is.step (laws_heldIntSS.l0_is e g h).mo (fun k => by rw [laws_heldIntSS.l0]) ?_
  exact is2_ @laws_heldIntS.f_is @laws_heldIntSS.l0_is
theorem laws_heldIntSS.fv_eq (h : List (List Int)) (i : Int) : laws_heldIntSS.fv h i = laws_heldIntSS.l0v h i 0 := by
  refine Is.lim (g := fun k => laws_heldIntSS.f k h i) ?_
  · unfold laws_heldIntSS.f
    exact is1_ @laws_heldIntSS.l0_is
end Go.Proofs.Ytfhndlgbjhffiaa.Print

/- Written by a program of this session (limx.py): the equations of what the printed functions come to. No condition. -/
namespace Go.Proofs.Ytfhndlgbjhffiaa.Print
open Go.RowKit Go.Proofs.YtfhndlgbjhffiaaW.PrintWords Go.Proofs.YtfhndlgbjhffiaaW.PrintLast Go.Proofs.Ytfhndlgbjhffiaa.Base
set_option linter.unusedVariables false
set_option maxRecDepth 20000
noncomputable def laws_FnExactListsOf.j0v (B : List (List Int)) (C : List (List Int)) (D : Bool) (E : List Int) (F : List Int) (G : Int) (H : List (S74)) (I : Int) (J : List Int) (K : Int) (L : Bool) (M : Int) (N : Int) (O : List (S79)) (P : List (S82)) (Q : Int) (R : Int) (S : Int) : Option (Bool) := Lim fun k => laws_FnExactListsOf.j0 k B C D E F G H I J K L M N O P Q R S
noncomputable def laws_FnExactListsOf.fv (Q : List Int) (R : List Int) (K : Int) (S : List (S74)) (L : Int) (T : List Int) (M : Int) (N : Bool) (O : Int) (P : Int) (I : List (S79)) (J : List (S82)) (F : Int) (G : Int) (H : Int) : Option (Bool) := Lim fun k => laws_FnExactListsOf.f k Q R K S L T M N O P I J F G H
theorem laws_FnExactListsOf.j0_is (B : List (List Int)) (C : List (List Int)) (D : Bool) (E : List Int) (F : List Int) (G : Int) (H : List (S74)) (I : Int) (J : List Int) (K : Int) (L : Bool) (M : Int) (N : Int) (O : List (S79)) (P : List (S82)) (Q : Int) (R : Int) (S : Int) : Is (fun k => laws_FnExactListsOf.j0 k B C D E F G H I J K L M N O P Q R S) (laws_FnExactListsOf.j0v B C D E F G H I J K L M N O P Q R S) := ⟨fun k => (laws_FnExactListsOf.mono_l k) B C D E F G H I J K L M N O P Q R S, rfl⟩
theorem laws_FnExactListsOf.f_is (Q : List Int) (R : List Int) (K : Int) (S : List (S74)) (L : Int) (T : List Int) (M : Int) (N : Bool) (O : Int) (P : Int) (I : List (S79)) (J : List (S82)) (F : Int) (G : Int) (H : Int) : Is (fun k => laws_FnExactListsOf.f k Q R K S L T M N O P I J F G H) (laws_FnExactListsOf.fv Q R K S L T M N O P I J F G H) := ⟨fun k => laws_FnExactListsOf.mono Q R K S L T M N O P I J F G H k, rfl⟩
theorem laws_FnExactListsOf.j0v_eq (B : List (List Int)) (C : List (List Int)) (D : Bool) (E : List Int) (F : List Int) (G : Int) (H : List (S74)) (I : Int) (J : List Int) (K : Int) (L : Bool) (M : Int) (N : Int) (O : List (S79)) (P : List (S82)) (Q : Int) (R : Int) (S : Int) : laws_FnExactListsOf.j0v B C D E F G H I J K L M N O P Q R S = if D = true then (some false) else ((laws_markIntSS.fv C 1).bind fun b => ((laws_heldIntSS.fv b.2 1).bind fun T => (if T < 0 then (some false) else (if T = b.1 then ((laws_toWorld.fv E F G H I J K L M N O P Q R S).bind fun a => ((impl_ListsOf.fv a.1 a.2.1 a.2.2.1 a.2.2.2.1 a.2.2.2.2.1 a.2.2.2.2.2.1 a.2.2.2.2.2.2.1 a.2.2.2.2.2.2.2.1 a.2.2.2.2.2.2.2.2.1 a.2.2.2.2.2.2.2.2.2.1 a.2.2.2.2.2.2.2.2.2.2.1 a.2.2.2.2.2.2.2.2.2.2.2.1 a.2.2.2.2.2.2.2.2.2.2.2.2.1 a.2.2.2.2.2.2.2.2.2.2.2.2.2.1 a.2.2.2.2.2.2.2.2.2.2.2.2.2.2).bind fun v => ((laws_eqIntSS.fv v B).bind fun w => (if w = true then ((laws_heldIntSS.fv b.2 1).bind fun u => (if u < 0 then (some false) else (if u = b.1 then (some true) else (some false)))) else (some false))))) else (some false))))) := by
  refine Is.step (laws_FnExactListsOf.j0_is B C D E F G H I J K L M N O P Q R S).mo (fun k => by rw [laws_FnExactListsOf.j0]) ?_
  exact is5_ @impl_ListsOf.f_is @laws_eqIntSS.f_is @laws_heldIntSS.f_is @laws_markIntSS.f_is @laws_toWorld.f_is
theorem laws_FnExactListsOf.fv_eq (Q : List Int) (R : List Int) (K : Int) (S : List (S74)) (L : Int) (T : List Int) (M : Int) (N : Bool) (O : Int) (P : Int) (I : List (S79)) (J : List (S82)) (F : Int) (G : Int) (H : Int) : laws_FnExactListsOf.fv Q R K S L T M N O P I J F G H = (laws_szWorld.fv Q R K S L T M N O P I J F G H 1048576).bind fun w => (if w < 0 then (some true) else ((laws_toWorld.fv Q R K S L T M N O P I J F G H).bind fun b => ((spec_ListsOf.fv b.1 b.2.1 b.2.2.1 b.2.2.2.1 b.2.2.2.2.1 b.2.2.2.2.2.1 b.2.2.2.2.2.2.1 b.2.2.2.2.2.2.2.1 b.2.2.2.2.2.2.2.2.1 b.2.2.2.2.2.2.2.2.2.1 b.2.2.2.2.2.2.2.2.2.2.1 b.2.2.2.2.2.2.2.2.2.2.2.1 b.2.2.2.2.2.2.2.2.2.2.2.2.1 b.2.2.2.2.2.2.2.2.2.2.2.2.2.1 b.2.2.2.2.2.2.2.2.2.2.2.2.2.2).bind fun u => ((laws_toWorld.fv Q R K S L T M N O P I J F G H).bind fun a => ((impl_ListsOf.fv a.1 a.2.1 a.2.2.1 a.2.2.2.1 a.2.2.2.2.1 a.2.2.2.2.2.1 a.2.2.2.2.2.2.1 a.2.2.2.2.2.2.2.1 a.2.2.2.2.2.2.2.2.1 a.2.2.2.2.2.2.2.2.2.1 a.2.2.2.2.2.2.2.2.2.2.1 a.2.2.2.2.2.2.2.2.2.2.2.1 a.2.2.2.2.2.2.2.2.2.2.2.2.1 a.2.2.2.2.2.2.2.2.2.2.2.2.2.1 a.2.2.2.2.2.2.2.2.2.2.2.2.2.2).bind fun v => ((laws_eqIntSS.fv v u).bind fun D => (if D = true then ((laws_toWorld.fv Q R K S L T M N O P I J F G H).bind fun E => ((laws_eqWorld.fv a.1 a.2.1 a.2.2.1 a.2.2.2.1 a.2.2.2.2.1 a.2.2.2.2.2.1 a.2.2.2.2.2.2.1 a.2.2.2.2.2.2.2.1 a.2.2.2.2.2.2.2.2.1 a.2.2.2.2.2.2.2.2.2.1 a.2.2.2.2.2.2.2.2.2.2.1 a.2.2.2.2.2.2.2.2.2.2.2.1 a.2.2.2.2.2.2.2.2.2.2.2.2.1 a.2.2.2.2.2.2.2.2.2.2.2.2.2.1 a.2.2.2.2.2.2.2.2.2.2.2.2.2.2 E.1 E.2.1 E.2.2.1 E.2.2.2.1 E.2.2.2.2.1 E.2.2.2.2.2.1 E.2.2.2.2.2.2.1 E.2.2.2.2.2.2.2.1 E.2.2.2.2.2.2.2.2.1 E.2.2.2.2.2.2.2.2.2.1 E.2.2.2.2.2.2.2.2.2.2.1 E.2.2.2.2.2.2.2.2.2.2.2.1 E.2.2.2.2.2.2.2.2.2.2.2.2.1 E.2.2.2.2.2.2.2.2.2.2.2.2.2.1 E.2.2.2.2.2.2.2.2.2.2.2.2.2.2).bind fun B => (if B = true then ((laws_markWorld.f a.1 a.2.1 a.2.2.1 a.2.2.2.1 a.2.2.2.2.1 a.2.2.2.2.2.1 a.2.2.2.2.2.2.1 a.2.2.2.2.2.2.2.1 a.2.2.2.2.2.2.2.2.1 a.2.2.2.2.2.2.2.2.2.1 a.2.2.2.2.2.2.2.2.2.2.1 a.2.2.2.2.2.2.2.2.2.2.2.1 a.2.2.2.2.2.2.2.2.2.2.2.2.1 a.2.2.2.2.2.2.2.2.2.2.2.2.2.1 a.2.2.2.2.2.2.2.2.2.2.2.2.2.2 1).bind fun C => (if C < 0 then (laws_FnExactListsOf.j0v u v true Q R K S L T M N O P I J F G H) else ((laws_eqIntSS.fv v u).bind fun A => (laws_FnExactListsOf.j0v u v (!A) Q R K S L T M N O P I J F G H)))) else (some false)))) else (some false)))))))) := by
  refine Is.lim (g := fun k => laws_FnExactListsOf.f k Q R K S L T M N O P I J F G H) ?_
  · unfold laws_FnExactListsOf.f
    exact is7_ @impl_ListsOf.f_is @laws_FnExactListsOf.j0_is @laws_eqIntSS.f_is @laws_eqWorld.f_is @laws_szWorld.f_is @laws_toWorld.f_is @spec_ListsOf.f_is
end Go.Proofs.Ytfhndlgbjhffiaa.Print
