/- Written by a program of this session (merge.py): texts that the law's plain side leans on, laid together. No condition. -/
import Derived.Test.YtibmehnippjakaaWWords
import Derived.Test.YtibmehnippjakaaPrint1
import Derived.Test.YtibmehnippjakaaPrint2
import Derived.Test.YtibmehnippjakaaPrint3
import Derived.Test.YtibmehnippjakaaPrint4
import Derived.Test.YtibmehnippjakaaPrint5
import Derived.Test.YtibmehnippjakaaPrint6
import Derived.Test.YtibmehnippjakaaPrint7
import Derived.Test.YtibmehnippjakaaPrint8
import Derived.Test.YtibmehnippjakaaPrint9
import Derived.Test.YtibmehnippjakaaPrint10
import Derived.Test.YtibmehnippjakaaPrint11
import Derived.Test.YtibmehnippjakaaPrint12
/- What a function with rounds comes to when it has rounds enough, as an option: its equations hold without rounds. No condition. -/
namespace Go.Proofs.Ytibmehnippjakaa.Base
open Go.RowKit Go.Proofs.YtibmehnippjakaaW.PrintWords

/-- More rounds tell the same. -/
def Mo {α : Type} (g : Nat → Option α) : Prop := ∀ k, LeO (g k) (g (k + 1))
theorem mo_le {α : Type} {g : Nat → Option α} (h : Mo g) {k k' : Nat} (hk : k ≤ k') {r : α} (hr : g k = some r) : g k' = some r := at_rounds h hk hr
open Classical in
/-- What it comes to at last: nothing, or one answer. -/
noncomputable def Lim {α : Type} (g : Nat → Option α) : Option α := if h : ∃ r, ∃ k, g k = some r then some (Classical.choose h) else none
theorem lim_some {α : Type} {g : Nat → Option α} (h : Mo g) {k : Nat} {r : α} (hr : g k = some r) : Lim g = some r := by
  have hx : ∃ r, ∃ k, g k = some r := ⟨r, k, hr⟩
  unfold Lim
  rw [dif_pos hx]
  obtain ⟨k', hk'⟩ := Classical.choose_spec hx
  have h1 := mo_le h (Nat.le_max_left k k') hr
  have h2 := mo_le h (Nat.le_max_right k k') hk'
  rw [h1] at h2
  exact h2.symm
theorem of_lim {α : Type} {g : Nat → Option α} {r : α} (h : Lim g = some r) : ∃ k, g k = some r := by
  unfold Lim at h
  split at h
  · rename_i hx
    obtain rfl := Option.some.inj h
    exact Classical.choose_spec hx
  · cases h
theorem lim_none {α : Type} {g : Nat → Option α} (h : Lim g = none) (k : Nat) : g k = none := by
  cases hk : g k with
  | none => rfl
  | some r =>
    unfold Lim at h
    rw [dif_pos ⟨r, k, hk⟩] at h
    cases h
theorem none_lim {α : Type} {g : Nat → Option α} (h : ∀ k, g k = none) : Lim g = none := by
  unfold Lim
  rw [dif_neg]
  rintro ⟨r, k, hk⟩
  rw [h k] at hk
  cases hk
structure Is {α : Type} (g : Nat → Option α) (v : Option α) : Prop where
  mo : Mo g
  lim : Lim g = v
theorem Is.now {α : Type} (v : Option α) : Is (fun _ => v) v := by
  refine ⟨fun _ => LeO.refl _, ?_⟩
  cases v with
  | none => exact none_lim fun _ => rfl
  | some r => exact lim_some (g := fun _ => some r) (fun _ => LeO.refl _) (k := 0) rfl
theorem Is.ite {α : Type} {c : Prop} [Decidable c] {g h : Nat → Option α} {a b : Option α} (hg : Is g a) (hh : Is h b) : Is (fun k => if c then g k else h k) (if c then a else b) := by
  by_cases hc : c
  · simp only [if_pos hc]
    exact hg
  · simp only [if_neg hc]
    exact hh
theorem Is.bind {α β : Type} {g : Nat → Option α} {f : Nat → α → Option β} {a : Option α} {b : α → Option β} (hg : Is g a) (hf : ∀ x, Is (fun k => f k x) (b x)) : Is (fun k => (g k).bind (f k)) (a.bind b) := by
  have hm : Mo (fun k => (g k).bind (f k)) := fun k => LeO.bind (hg.mo k) (fun x => (hf x).mo k)
  refine ⟨hm, ?_⟩
  cases ha : a with
  | none =>
    refine none_lim fun k => ?_
    rw [lim_none (hg.lim.trans ha) k]
    rfl
  | some x =>
    obtain ⟨k, hk⟩ := of_lim (hg.lim.trans ha)
    show _ = b x
    cases hb : b x with
    | none =>
      refine none_lim fun k' => ?_
      cases hx : (g k').bind (f k') with
      | none => rfl
      | some r =>
        have h1 := mo_le hm (Nat.le_max_left k' k) hx
        have h2 := mo_le hg.mo (Nat.le_max_right k' k) hk
        simp only [h2, Option.bind_some] at h1
        rw [lim_none ((hf x).lim.trans hb)] at h1
        cases h1
    | some r =>
      obtain ⟨k', hk'⟩ := of_lim ((hf x).lim.trans hb)
      refine lim_some hm (k := max k k') ?_
      simp only [mo_le hg.mo (Nat.le_max_left k k') hk, Option.bind_some]
      exact mo_le (hf x).mo (Nat.le_max_right k k') hk'
theorem Is.step {α : Type} {g b : Nat → Option α} {v : Option α} (hg : Mo g) (h : ∀ k, g (k + 1) = b k) (hb : Is b v) : Lim g = v := by
  rw [← hb.lim]
  cases hx : Lim g with
  | none =>
    symm
    refine none_lim fun k => ?_
    rw [← h k]
    exact lim_none hx _
  | some r =>
    obtain ⟨k, hk⟩ := of_lim hx
    symm
    refine lim_some hb.mo (k := k) ?_
    rw [← h k]
    exact mo_le hg (Nat.le_succ k) hk
theorem ends {α : Type} {g : Nat → Option α} {r : α} (h : Lim g = some r) : ∃ k, g k = some r := of_lim h
theorem is0_ {q : Prop} (e : q := by repeat' first | with_reducible exact Is.now _ | with_reducible refine Is.ite ?_ ?_ | with_reducible refine Is.bind ?_ (fun _ => ?_)) : q := e
theorem is1_ {q p0 : Prop} (h0_ : p0) (e : p0 → q := by intro h0_; repeat' first | (with_reducible apply h0_) | with_reducible exact Is.now _ | with_reducible refine Is.ite ?_ ?_ | with_reducible refine Is.bind ?_ (fun _ => ?_)) : q := e h0_
theorem is2_ {q p0 p1 : Prop} (h0_ : p0) (h1_ : p1) (e : p0 → p1 → q := by intro h0_ h1_; repeat' first | (with_reducible apply h0_) | (with_reducible apply h1_) | with_reducible exact Is.now _ | with_reducible refine Is.ite ?_ ?_ | with_reducible refine Is.bind ?_ (fun _ => ?_)) : q := e h0_ h1_
theorem is3_ {q p0 p1 p2 : Prop} (h0_ : p0) (h1_ : p1) (h2_ : p2) (e : p0 → p1 → p2 → q := by intro h0_ h1_ h2_; repeat' first | (with_reducible apply h0_) | (with_reducible apply h1_) | (with_reducible apply h2_) | with_reducible exact Is.now _ | with_reducible refine Is.ite ?_ ?_ | with_reducible refine Is.bind ?_ (fun _ => ?_)) : q := e h0_ h1_ h2_
theorem is4_ {q p0 p1 p2 p3 : Prop} (h0_ : p0) (h1_ : p1) (h2_ : p2) (h3_ : p3) (e : p0 → p1 → p2 → p3 → q := by intro h0_ h1_ h2_ h3_; repeat' first | (with_reducible apply h0_) | (with_reducible apply h1_) | (with_reducible apply h2_) | (with_reducible apply h3_) | with_reducible exact Is.now _ | with_reducible refine Is.ite ?_ ?_ | with_reducible refine Is.bind ?_ (fun _ => ?_)) : q := e h0_ h1_ h2_ h3_
theorem is5_ {q p0 p1 p2 p3 p4 : Prop} (h0_ : p0) (h1_ : p1) (h2_ : p2) (h3_ : p3) (h4_ : p4) (e : p0 → p1 → p2 → p3 → p4 → q := by intro h0_ h1_ h2_ h3_ h4_; repeat' first | (with_reducible apply h0_) | (with_reducible apply h1_) | (with_reducible apply h2_) | (with_reducible apply h3_) | (with_reducible apply h4_) | with_reducible exact Is.now _ | with_reducible refine Is.ite ?_ ?_ | with_reducible refine Is.bind ?_ (fun _ => ?_)) : q := e h0_ h1_ h2_ h3_ h4_
theorem is6_ {q p0 p1 p2 p3 p4 p5 : Prop} (h0_ : p0) (h1_ : p1) (h2_ : p2) (h3_ : p3) (h4_ : p4) (h5_ : p5) (e : p0 → p1 → p2 → p3 → p4 → p5 → q := by intro h0_ h1_ h2_ h3_ h4_ h5_; repeat' first | (with_reducible apply h0_) | (with_reducible apply h1_) | (with_reducible apply h2_) | (with_reducible apply h3_) | (with_reducible apply h4_) | (with_reducible apply h5_) | with_reducible exact Is.now _ | with_reducible refine Is.ite ?_ ?_ | with_reducible refine Is.bind ?_ (fun _ => ?_)) : q := e h0_ h1_ h2_ h3_ h4_ h5_
theorem is7_ {q p0 p1 p2 p3 p4 p5 p6 : Prop} (h0_ : p0) (h1_ : p1) (h2_ : p2) (h3_ : p3) (h4_ : p4) (h5_ : p5) (h6_ : p6) (e : p0 → p1 → p2 → p3 → p4 → p5 → p6 → q := by intro h0_ h1_ h2_ h3_ h4_ h5_ h6_; repeat' first | (with_reducible apply h0_) | (with_reducible apply h1_) | (with_reducible apply h2_) | (with_reducible apply h3_) | (with_reducible apply h4_) | (with_reducible apply h5_) | (with_reducible apply h6_) | with_reducible exact Is.now _ | with_reducible refine Is.ite ?_ ?_ | with_reducible refine Is.bind ?_ (fun _ => ?_)) : q := e h0_ h1_ h2_ h3_ h4_ h5_ h6_
theorem is8_ {q p0 p1 p2 p3 p4 p5 p6 p7 : Prop} (h0_ : p0) (h1_ : p1) (h2_ : p2) (h3_ : p3) (h4_ : p4) (h5_ : p5) (h6_ : p6) (h7_ : p7) (e : p0 → p1 → p2 → p3 → p4 → p5 → p6 → p7 → q := by intro h0_ h1_ h2_ h3_ h4_ h5_ h6_ h7_; repeat' first | (with_reducible apply h0_) | (with_reducible apply h1_) | (with_reducible apply h2_) | (with_reducible apply h3_) | (with_reducible apply h4_) | (with_reducible apply h5_) | (with_reducible apply h6_) | (with_reducible apply h7_) | with_reducible exact Is.now _ | with_reducible refine Is.ite ?_ ?_ | with_reducible refine Is.bind ?_ (fun _ => ?_)) : q := e h0_ h1_ h2_ h3_ h4_ h5_ h6_ h7_
end Go.Proofs.Ytibmehnippjakaa.Base

/- Written by a program of this session (limx.py): the equations of what the printed functions come to. No condition. -/
namespace Go.Proofs.Ytibmehnippjakaa.Print
open Go.RowKit Go.Proofs.YtibmehnippjakaaW.PrintWords Go.Proofs.YtibmehnippjakaaW.PrintLast Go.Proofs.Ytibmehnippjakaa.Base
set_option linter.unusedVariables false
set_option maxRecDepth 20000
section
variable (e : List (S55)) (g : Int) (i : List (S55)) (h : Int)
noncomputable def laws_szBoxS.l0v := Lim fun k => laws_szBoxS.l0 k e g h
noncomputable def laws_szBoxS.fv := Lim fun k => laws_szBoxS.f k i h
theorem laws_szBoxS.l0_is : Is (fun k => laws_szBoxS.l0 k e g h) (laws_szBoxS.l0v e g h) := ⟨fun k => (laws_szBoxS.mono_l k) e g h, rfl⟩
theorem laws_szBoxS.f_is : Is (fun k => laws_szBoxS.f k i h) (laws_szBoxS.fv i h) := ⟨fun k => laws_szBoxS.mono i h k, rfl⟩
theorem laws_szBoxS.l0v_eq : laws_szBoxS.l0v e g h = if h < (e.length : Int) then (if 0 ≤ h then ((laws_szBox.f ((rd_T55 e h).f0) ((rd_T55 e h).f1) ((rd_T55 e h).f2) ((rd_T55 e h).f3) g).bind fun i => (if i < 0 then (some (-1)) else (laws_szBoxS.l0v e i (wrap64 (h + 1))))) else (none)) else (some g) := by
  refine Is.step (laws_szBoxS.l0_is e g h).mo (fun k => by rw [laws_szBoxS.l0]) ?_
  exact is1_ @laws_szBoxS.l0_is
theorem laws_szBoxS.fv_eq : laws_szBoxS.fv i h = if (wrap64 (h - (i.length : Int))) < 0 then (some (-1)) else (laws_szBoxS.l0v i (wrap64 (h - (i.length : Int))) 0) := by
  refine Is.lim (g := fun k => laws_szBoxS.f k i h) ?_
  · unfold laws_szBoxS.f
    exact is1_ @laws_szBoxS.l0_is
end
section
variable (j l : List Int) (m : List (S55)) (n o : Int)
noncomputable def laws_szEndpoint.fv := Lim fun k => laws_szEndpoint.f k j l m n o
theorem laws_szEndpoint.f_is : Is (fun k => laws_szEndpoint.f k j l m n o) (laws_szEndpoint.fv j l m n o) := ⟨fun k => laws_szEndpoint.mono j l m n o k, rfl⟩
theorem laws_szEndpoint.fv_eq : laws_szEndpoint.fv j l m n o = (laws_szIntS.f j o).bind fun a => (if a < 0 then (some (-1)) else ((laws_szIntS.f l a).bind fun b => (if b < 0 then (some (-1)) else ((laws_szBoxS.fv m b).bind fun c => (if c < 0 then (some (-1)) else (some c)))))) := by
  refine Is.lim (g := fun k => laws_szEndpoint.f k j l m n o) ?_
  · unfold laws_szEndpoint.f
    exact is1_ @laws_szBoxS.f_is
end
section
variable (d : List Int) (e : Int) (g : List Int)
noncomputable def spec_l9Byte.l0v := Lim fun k => spec_l9Byte.l0 k d e
noncomputable def spec_l9Byte.fv := Lim fun k => spec_l9Byte.f k g
theorem spec_l9Byte.l0_is : Is (fun k => spec_l9Byte.l0 k d e) (spec_l9Byte.l0v d e) := ⟨fun k => (spec_l9Byte.mono_l k) d e, rfl⟩
theorem spec_l9Byte.f_is : Is (fun k => spec_l9Byte.f k g) (spec_l9Byte.fv g) := ⟨fun k => spec_l9Byte.mono g k, rfl⟩
theorem spec_l9Byte.l0v_eq : spec_l9Byte.l0v d e = if e < (d.length : Int) then (if 0 ≤ e then ((spec_l1In.f (rd d e) 0 255).bind fun g => (if g = true then (spec_l9Byte.l0v d (wrap64 (e + 1))) else (some false))) else (none)) else (some true) := by
  refine Is.step (spec_l9Byte.l0_is d e).mo (fun k => by rw [spec_l9Byte.l0]) ?_
  exact is1_ @spec_l9Byte.l0_is
theorem spec_l9Byte.fv_eq : spec_l9Byte.fv g = spec_l9Byte.l0v g 0 := by
  refine Is.lim (g := fun k => spec_l9Byte.f k g) ?_
  · unfold spec_l9Byte.f
    exact is1_ @spec_l9Byte.l0_is
end
section
variable (i : Int) (j l : List Int) (m : Bool)
noncomputable def spec_IsBox.fv := Lim fun k => spec_IsBox.f k i j l m
theorem spec_IsBox.f_is : Is (fun k => spec_IsBox.f k i j l m) (spec_IsBox.fv i j l m) := ⟨fun k => spec_IsBox.mono i j l m k, rfl⟩
theorem spec_IsBox.fv_eq : spec_IsBox.fv i j l m = (spec_l1In.f i 0 9).bind fun d => (if d = true then (if (j.length : Int) ≤ 6 then (if (l.length : Int) ≤ 6 then ((spec_l9Byte.fv j).bind fun e => (if e = true then ((spec_l9Byte.fv l).bind fun g => (some g)) else (some false))) else (some false)) else (some false)) else (some false)) := by
  refine Is.lim (g := fun k => spec_IsBox.f k i j l m) ?_
  · unfold spec_IsBox.f
    exact is1_ @spec_l9Byte.f_is
end
noncomputable def spec_AreVersions.l0v (d : List Int) (e : Int) : Option (Bool) := Lim fun k => spec_AreVersions.l0 k d e
noncomputable def spec_AreVersions.fv (e : List Int) : Option (Bool) := Lim fun k => spec_AreVersions.f k e
theorem spec_AreVersions.l0_is (d : List Int) (e : Int) : Is (fun k => spec_AreVersions.l0 k d e) (spec_AreVersions.l0v d e) := ⟨fun k => (spec_AreVersions.mono_l k) d e, rfl⟩
theorem spec_AreVersions.f_is (e : List Int) : Is (fun k => spec_AreVersions.f k e) (spec_AreVersions.fv e) := ⟨fun k => spec_AreVersions.mono e k, rfl⟩
theorem spec_AreVersions.l0v_eq (d : List Int) (e : Int) : spec_AreVersions.l0v d e = if e < (d.length : Int) then (if 0 ≤ e then ((spec_l1In.f (rd d e) 1 9).bind fun c => (if c = true then (if e > 0 then (if 0 ≤ (wrap64 (e - 1)) then (if (wrap64 (e - 1)) < (d.length : Int) then (if (rd d (wrap64 (e - 1))) ≥ (rd d e) then (some false) else (spec_AreVersions.l0v d (wrap64 (e + 1)))) else (none)) else (none)) else (spec_AreVersions.l0v d (wrap64 (e + 1)))) else (some false))) else (none)) else (some (decide ((d.length : Int) > 0))) := by
  refine Is.step (spec_AreVersions.l0_is d e).mo (fun k => by rw [spec_AreVersions.l0]) ?_
  exact is1_ @spec_AreVersions.l0_is
theorem spec_AreVersions.fv_eq (e : List Int) : spec_AreVersions.fv e = spec_AreVersions.l0v e 0 := by
  refine Is.lim (g := fun k => spec_AreVersions.f k e) ?_
  · unfold spec_AreVersions.f
    exact is1_ @spec_AreVersions.l0_is
end Go.Proofs.Ytibmehnippjakaa.Print

/- Written by a program of this session (limx.py): the equations of what the printed functions come to. No condition. -/
namespace Go.Proofs.Ytibmehnippjakaa.Print
open Go.RowKit Go.Proofs.YtibmehnippjakaaW.PrintWords Go.Proofs.YtibmehnippjakaaW.PrintLast Go.Proofs.Ytibmehnippjakaa.Base
set_option linter.unusedVariables false
set_option maxRecDepth 20000
noncomputable def spec_IsEndpoint.l0v (j : Int) (l : List Int) (m : List Int) (n : List (S59)) (o : Int) : Option (Bool) := Lim fun k => spec_IsEndpoint.l0 k j l m n o
noncomputable def spec_IsEndpoint.l1v (j : Int) (l : List Int) (n : List Int) (m : List (S59)) (o : Int) : Option (Bool) := Lim fun k => spec_IsEndpoint.l1 k j l n m o
noncomputable def spec_IsEndpoint.fv (l : List Int) (n : List Int) (o : List (S59)) (m : Int) : Option (Bool) := Lim fun k => spec_IsEndpoint.f k l n o m
theorem spec_IsEndpoint.l0_is (j : Int) (l : List Int) (m : List Int) (n : List (S59)) (o : Int) : Is (fun k => spec_IsEndpoint.l0 k j l m n o) (spec_IsEndpoint.l0v j l m n o) := ⟨fun k => (spec_IsEndpoint.mono_l k).1 j l m n o, rfl⟩
theorem spec_IsEndpoint.l1_is (j : Int) (l : List Int) (n : List Int) (m : List (S59)) (o : Int) : Is (fun k => spec_IsEndpoint.l1 k j l n m o) (spec_IsEndpoint.l1v j l n m o) := ⟨fun k => (spec_IsEndpoint.mono_l k).2 j l n m o, rfl⟩
theorem spec_IsEndpoint.f_is (l : List Int) (n : List Int) (o : List (S59)) (m : Int) : Is (fun k => spec_IsEndpoint.f k l n o m) (spec_IsEndpoint.fv l n o m) := ⟨fun k => spec_IsEndpoint.mono l n o m k, rfl⟩
theorem spec_IsEndpoint.l0v_eq (j : Int) (l : List Int) (m : List Int) (n : List (S59)) (o : Int) : spec_IsEndpoint.l0v j l m n o = if j < (m.length : Int) then (if 0 ≤ j then ((spec_l1In.f (rd m j) 0 255).bind fun g => (if g = true then ((spec_IsReserved.f (rd m j)).bind fun h => (if h = true then (some false) else (if j > 0 then (if 0 ≤ (wrap64 (j - 1)) then (if (wrap64 (j - 1)) < (m.length : Int) then (if (rd m (wrap64 (j - 1))) ≥ (rd m j) then (some false) else (spec_IsEndpoint.l0v (wrap64 (j + 1)) l m n o)) else (none)) else (none)) else (spec_IsEndpoint.l0v (wrap64 (j + 1)) l m n o)))) else (some false))) else (none)) else (spec_IsEndpoint.l1v 0 l m n o) := by
  refine Is.step (spec_IsEndpoint.l0_is j l m n o).mo (fun k => by rw [spec_IsEndpoint.l0]) ?_
  exact is2_ @spec_IsEndpoint.l0_is @spec_IsEndpoint.l1_is
theorem spec_IsEndpoint.l1v_eq (j : Int) (l : List Int) (n : List Int) (m : List (S59)) (o : Int) : spec_IsEndpoint.l1v j l n m o = if j < (m.length : Int) then (if 0 ≤ j then ((spec_IsBox.fv ((rd_T59 m j).f0) ((rd_T59 m j).f1) ((rd_T59 m j).f2) ((rd_T59 m j).f3)).bind fun g => (if g = true then (spec_IsEndpoint.l1v (wrap64 (j + 1)) l n m o) else (some false))) else (none)) else ((spec_AreVersions.fv l).bind fun h => (if h = true then (if (n.length : Int) ≤ 5 then (if (m.length : Int) ≤ 4 then ((spec_l1In.f o 0 5).bind fun i => (some i)) else (some false)) else (some false)) else (some false))) := by
  refine Is.step (spec_IsEndpoint.l1_is j l n m o).mo (fun k => by rw [spec_IsEndpoint.l1]) ?_
  exact is3_ @spec_AreVersions.f_is @spec_IsBox.f_is @spec_IsEndpoint.l1_is
theorem spec_IsEndpoint.fv_eq (l : List Int) (n : List Int) (o : List (S59)) (m : Int) : spec_IsEndpoint.fv l n o m = spec_IsEndpoint.l0v 0 l n o m := by
  refine Is.lim (g := fun k => spec_IsEndpoint.f k l n o m) ?_
  · unfold spec_IsEndpoint.f
    exact is1_ @spec_IsEndpoint.l0_is
section
variable (e : List Int) (g h : Int) (i : List Int)
noncomputable def spec_Hash.l0v := Lim fun k => spec_Hash.l0 k e g h
noncomputable def spec_Hash.fv := Lim fun k => spec_Hash.f k i
theorem spec_Hash.l0_is : Is (fun k => spec_Hash.l0 k e g h) (spec_Hash.l0v e g h) := ⟨fun k => (spec_Hash.mono_l k) e g h, rfl⟩
theorem spec_Hash.f_is : Is (fun k => spec_Hash.f k i) (spec_Hash.fv i) := ⟨fun k => spec_Hash.mono i k, rfl⟩
theorem spec_Hash.l0v_eq : spec_Hash.l0v e g h = if h < (e.length : Int) then (if 0 ≤ h then ((spec_Mod.f (rd e h) 2147483647).bind fun i => (spec_Hash.l0v e (Int.tmod (wrap64 ((wrap64 ((wrap64 (g * 1000003)) + i)) + 13)) 2147483647) (wrap64 (h + 1)))) else (none)) else (some g) := by
  refine Is.step (spec_Hash.l0_is e g h).mo (fun k => by rw [spec_Hash.l0]) ?_
  exact is1_ @spec_Hash.l0_is
theorem spec_Hash.fv_eq : spec_Hash.fv i = spec_Hash.l0v i 11 0 := by
  refine Is.lim (g := fun k => spec_Hash.f k i) ?_
  · unfold spec_Hash.f
    exact is1_ @spec_Hash.l0_is
end
section
variable (g h i : Int)
noncomputable def spec_PickOf.fv := Lim fun k => spec_PickOf.f k g h i
theorem spec_PickOf.f_is : Is (fun k => spec_PickOf.f k g h i) (spec_PickOf.fv g h i) := ⟨fun k => spec_PickOf.mono g h i k, rfl⟩
theorem spec_PickOf.fv_eq : spec_PickOf.fv g h i = if i < 1 then (some 0) else ((spec_Hash.fv (([g, h] : List Int))).bind fun a => ((spec_Mod.f a i).bind fun b => (some b))) := by
  refine Is.lim (g := fun k => spec_PickOf.f k g h i) ?_
  · unfold spec_PickOf.f
    exact is1_ @spec_Hash.f_is
end
section
variable (c : Int)
noncomputable def spec_GreaseTag.fv := Lim fun k => spec_GreaseTag.f k c
theorem spec_GreaseTag.f_is : Is (fun k => spec_GreaseTag.f k c) (spec_GreaseTag.fv c) := ⟨fun k => spec_GreaseTag.mono c k, rfl⟩
theorem spec_GreaseTag.fv_eq : spec_GreaseTag.fv c = (spec_PickOf.fv c 0 16).bind fun a => (some (wrap64 ((wrap64 (16 * a)) + 10))) := by
  refine Is.lim (g := fun k => spec_GreaseTag.f k c) ?_
  · unfold spec_GreaseTag.f
    exact is1_ @spec_PickOf.f_is
end
end Go.Proofs.Ytibmehnippjakaa.Print

/- Written by a program of this session (limx.py): the equations of what the printed functions come to. No condition. -/
namespace Go.Proofs.Ytibmehnippjakaa.Print
open Go.RowKit Go.Proofs.YtibmehnippjakaaW.PrintWords Go.Proofs.YtibmehnippjakaaW.PrintLast Go.Proofs.Ytibmehnippjakaa.Base
set_option linter.unusedVariables false
set_option maxRecDepth 20000
section
variable (d : List Int) (e f : Int)
noncomputable def spec_l9Has.l0v := Lim fun k => spec_l9Has.l0 k d e f
noncomputable def spec_l9Has.fv := Lim fun k => spec_l9Has.f k d f
theorem spec_l9Has.l0_is : Is (fun k => spec_l9Has.l0 k d e f) (spec_l9Has.l0v d e f) := ⟨fun k => (spec_l9Has.mono_l k) d e f, rfl⟩
theorem spec_l9Has.f_is : Is (fun k => spec_l9Has.f k d f) (spec_l9Has.fv d f) := ⟨fun k => spec_l9Has.mono d f k, rfl⟩
theorem spec_l9Has.l0v_eq : spec_l9Has.l0v d e f = if f < (d.length : Int) then (if 0 ≤ f then (if (rd d f) = e then (some true) else (spec_l9Has.l0v d e (wrap64 (f + 1)))) else (none)) else (some false) := by
  refine Is.step (spec_l9Has.l0_is d e f).mo (fun k => by rw [spec_l9Has.l0]) ?_
  exact is1_ @spec_l9Has.l0_is
theorem spec_l9Has.fv_eq : spec_l9Has.fv d f = spec_l9Has.l0v d f 0 := by
  refine Is.lim (g := fun k => spec_l9Has.f k d f) ?_
  · unfold spec_l9Has.f
    exact is1_ @spec_l9Has.l0_is
end
noncomputable def spec_KnownOf.l0v (h : List (S44)) (i : List Int) (j : List (S44)) (l : Int) : Option ((List (S44))) := Lim fun k => spec_KnownOf.l0 k h i j l
noncomputable def spec_KnownOf.fv (l : List (S44)) (m : List Int) : Option ((List (S44))) := Lim fun k => spec_KnownOf.f k l m
theorem spec_KnownOf.l0_is (h : List (S44)) (i : List Int) (j : List (S44)) (l : Int) : Is (fun k => spec_KnownOf.l0 k h i j l) (spec_KnownOf.l0v h i j l) := ⟨fun k => (spec_KnownOf.mono_l k) h i j l, rfl⟩
theorem spec_KnownOf.f_is (l : List (S44)) (m : List Int) : Is (fun k => spec_KnownOf.f k l m) (spec_KnownOf.fv l m) := ⟨fun k => spec_KnownOf.mono l m k, rfl⟩
theorem spec_KnownOf.l0v_eq (h : List (S44)) (i : List Int) (j : List (S44)) (l : Int) : spec_KnownOf.l0v h i j l = if l < (h.length : Int) then (if 0 ≤ l then ((spec_l9Has.fv i ((rd_T44 h l).f0)).bind fun d => (if d = true then ((some (([] : List Int) : List Int)).bind fun m => (if m.length + ((rd_T44 h l).f1).length < 17592186044416 then (if j.length < 4398046511104 then (spec_KnownOf.l0v h i (j ++ [(⟨(rd_T44 h l).f0, (m ++ ((rd_T44 h l).f1))⟩ : S44)]) (wrap64 (l + 1))) else (none)) else (none))) else (spec_KnownOf.l0v h i j (wrap64 (l + 1))))) else (none)) else (some j) := by
  refine Is.step (spec_KnownOf.l0_is h i j l).mo (fun k => by rw [spec_KnownOf.l0]) ?_
  exact is2_ @spec_KnownOf.l0_is @spec_l9Has.f_is
theorem spec_KnownOf.fv_eq (l : List (S44)) (m : List Int) : spec_KnownOf.fv l m = spec_KnownOf.l0v l m (([] : List (S44))) 0 := by
  refine Is.lim (g := fun k => spec_KnownOf.f k l m) ?_
  · unfold spec_KnownOf.f
    exact is1_ @spec_KnownOf.l0_is
noncomputable def spec_TagsOf.l0v (d : List (S44)) (e : List Int) (f : Int) : Option (List Int) := Lim fun k => spec_TagsOf.l0 k d e f
noncomputable def spec_TagsOf.fv (f : List (S44)) : Option (List Int) := Lim fun k => spec_TagsOf.f k f
theorem spec_TagsOf.l0_is (d : List (S44)) (e : List Int) (f : Int) : Is (fun k => spec_TagsOf.l0 k d e f) (spec_TagsOf.l0v d e f) := ⟨fun k => (spec_TagsOf.mono_l k) d e f, rfl⟩
theorem spec_TagsOf.f_is (f : List (S44)) : Is (fun k => spec_TagsOf.f k f) (spec_TagsOf.fv f) := ⟨fun k => spec_TagsOf.mono f k, rfl⟩
theorem spec_TagsOf.l0v_eq (d : List (S44)) (e : List Int) (f : Int) : spec_TagsOf.l0v d e f = if f < (d.length : Int) then (if 0 ≤ f then (if e.length < 17592186044416 then (spec_TagsOf.l0v d (e ++ [(rd_T44 d f).f0]) (wrap64 (f + 1))) else (none)) else (none)) else (some e) := by
  refine Is.step (spec_TagsOf.l0_is d e f).mo (fun k => by rw [spec_TagsOf.l0]) ?_
  exact is1_ @spec_TagsOf.l0_is
theorem spec_TagsOf.fv_eq (f : List (S44)) : spec_TagsOf.fv f = spec_TagsOf.l0v f (([] : List Int)) 0 := by
  refine Is.lim (g := fun k => spec_TagsOf.f k f) ?_
  · unfold spec_TagsOf.f
    exact is1_ @spec_TagsOf.l0_is
section
variable (d : List (S44))
noncomputable def spec_l11Copy.fv := Lim fun k => spec_l11Copy.f k d
theorem spec_l11Copy.f_is : Is (fun k => spec_l11Copy.f k d) (spec_l11Copy.fv d) := ⟨fun k => spec_l11Copy.mono d k, rfl⟩
theorem spec_l11Copy.fv_eq : spec_l11Copy.fv d = (spec_TagsOf.fv d).bind fun a => ((spec_KnownOf.fv d a).bind fun b => (some b)) := by
  refine Is.lim (g := fun k => spec_l11Copy.f k d) ?_
  · unfold spec_l11Copy.f
    exact is2_ @spec_KnownOf.f_is @spec_TagsOf.f_is
end
section
variable (d : List (S44)) (e f : Int)
noncomputable def spec_ExtOf.l0v := Lim fun k => spec_ExtOf.l0 k d e f
noncomputable def spec_ExtOf.fv := Lim fun k => spec_ExtOf.f k d f
theorem spec_ExtOf.l0_is : Is (fun k => spec_ExtOf.l0 k d e f) (spec_ExtOf.l0v d e f) := ⟨fun k => (spec_ExtOf.mono_l k) d e f, rfl⟩
theorem spec_ExtOf.f_is : Is (fun k => spec_ExtOf.f k d f) (spec_ExtOf.fv d f) := ⟨fun k => spec_ExtOf.mono d f k, rfl⟩
theorem spec_ExtOf.l0v_eq : spec_ExtOf.l0v d e f = if f < (d.length : Int) then (if 0 ≤ f then (if ((rd_T44 d f).f0) = e then (some f) else (spec_ExtOf.l0v d e (wrap64 (f + 1)))) else (none)) else (some (-1)) := by
  refine Is.step (spec_ExtOf.l0_is d e f).mo (fun k => by rw [spec_ExtOf.l0]) ?_
  exact is1_ @spec_ExtOf.l0_is
theorem spec_ExtOf.fv_eq : spec_ExtOf.fv d f = spec_ExtOf.l0v d f 0 := by
  refine Is.lim (g := fun k => spec_ExtOf.f k d f) ?_
  · unfold spec_ExtOf.f
    exact is1_ @spec_ExtOf.l0_is
end
section
variable (g : List (S44)) (h : Int)
noncomputable def spec_AreExts.l0v := Lim fun k => spec_AreExts.l0 k g h
noncomputable def spec_AreExts.fv := Lim fun k => spec_AreExts.f k g
theorem spec_AreExts.l0_is : Is (fun k => spec_AreExts.l0 k g h) (spec_AreExts.l0v g h) := ⟨fun k => (spec_AreExts.mono_l k) g h, rfl⟩
theorem spec_AreExts.f_is : Is (fun k => spec_AreExts.f k g) (spec_AreExts.fv g) := ⟨fun k => spec_AreExts.mono g k, rfl⟩
theorem spec_AreExts.l0v_eq : spec_AreExts.l0v g h = if h < (g.length : Int) then (if 0 ≤ h then ((spec_l1In.f ((rd_T44 g h).f0) 0 255).bind fun c => (if c = true then (if (((rd_T44 g h).f1).length : Int) > 4 then (some false) else ((spec_l9Byte.fv ((rd_T44 g h).f1)).bind fun d => (if d = true then ((spec_ExtOf.fv g ((rd_T44 g h).f0)).bind fun e => (if e < h then (some false) else (spec_AreExts.l0v g (wrap64 (h + 1))))) else (some false)))) else (some false))) else (none)) else (some (decide ((g.length : Int) ≤ 6))) := by
  refine Is.step (spec_AreExts.l0_is g h).mo (fun k => by rw [spec_AreExts.l0]) ?_
  exact is3_ @spec_AreExts.l0_is @spec_ExtOf.f_is @spec_l9Byte.f_is
theorem spec_AreExts.fv_eq : spec_AreExts.fv g = spec_AreExts.l0v g 0 := by
  refine Is.lim (g := fun k => spec_AreExts.f k g) ?_
  · unfold spec_AreExts.f
    exact is1_ @spec_AreExts.l0_is
end
end Go.Proofs.Ytibmehnippjakaa.Print

/- Written by a program of this session (limx.py): the equations of what the printed functions come to. No condition. -/
namespace Go.Proofs.Ytibmehnippjakaa.Print
open Go.RowKit Go.Proofs.YtibmehnippjakaaW.PrintWords Go.Proofs.YtibmehnippjakaaW.PrintLast Go.Proofs.Ytibmehnippjakaa.Base
set_option linter.unusedVariables false
set_option maxRecDepth 20000
noncomputable def spec_AddGrease.j0v (r : List (S44)) (s : Int) (t : Int) (u : List (S44)) (v : Bool) : Option ((List (S44))) := Lim fun k => spec_AddGrease.j0 k r s t u v
noncomputable def spec_AddGrease.l0v (w : List (S44)) (x : Int) (y : List (S44)) (z : Int) (v : Int) (A : List Int) : Option ((List (S44))) := Lim fun k => spec_AddGrease.l0 k w x y z v A
noncomputable def spec_AddGrease.fv (s : List (S44)) (t : Int) : Option ((List (S44))) := Lim fun k => spec_AddGrease.f k s t
theorem spec_AddGrease.j0_is (r : List (S44)) (s : Int) (t : Int) (u : List (S44)) (v : Bool) : Is (fun k => spec_AddGrease.j0 k r s t u v) (spec_AddGrease.j0v r s t u v) := ⟨fun k => (spec_AddGrease.mono_l k).1 r s t u v, rfl⟩
theorem spec_AddGrease.l0_is (w : List (S44)) (x : Int) (y : List (S44)) (z : Int) (v : Int) (A : List Int) : Is (fun k => spec_AddGrease.l0 k w x y z v A) (spec_AddGrease.l0v w x y z v A) := ⟨fun k => (spec_AddGrease.mono_l k).2 w x y z v A, rfl⟩
theorem spec_AddGrease.f_is (s : List (S44)) (t : Int) : Is (fun k => spec_AddGrease.f k s t) (spec_AddGrease.fv s t) := ⟨fun k => spec_AddGrease.mono s t k, rfl⟩
theorem spec_AddGrease.j0v_eq (r : List (S44)) (s : Int) (t : Int) (u : List (S44)) (v : Bool) : spec_AddGrease.j0v r s t u v = if v = true then (some u) else ((spec_PickOf.fv s 2 3).bind fun A => (spec_AddGrease.l0v r s u A t ([] : List Int))) := by
  refine Is.step (spec_AddGrease.j0_is r s t u v).mo (fun k => by rw [spec_AddGrease.j0]) ?_
  exact is2_ @spec_AddGrease.l0_is @spec_PickOf.f_is
theorem spec_AddGrease.l0v_eq (w : List (S44)) (x : Int) (y : List (S44)) (z : Int) (v : Int) (A : List Int) : spec_AddGrease.l0v w x y z v A = if z > 0 then ((spec_PickOf.fv x 3 256).bind fun m => ((some (([m] : List Int) : List Int)).bind fun u => (if A.length + u.length < 17592186044416 then (spec_AddGrease.l0v w x y (wrap64 (z - 1)) v (A ++ u)) else (none)))) else ((spec_PickOf.fv x 1 (wrap64 ((w.length : Int) + 1))).bind fun s => ((some (([] : List (S44)) : List (S44))).bind fun r => (if 0 ≤ s then (if s ≤ (y.length : Int) then ((some (y.take (s : Int).toNat : List (S44))).bind fun t => (if r.length + t.length < 4398046511104 then ((some (r ++ t : List (S44))).bind fun h => ((some (([(⟨v, A⟩ : S44)] : List (S44)) : List (S44))).bind fun i => (if h.length + i.length < 4398046511104 then ((some (h ++ i : List (S44))).bind fun j => ((some (y.drop (s : Int).toNat : List (S44))).bind fun l => (if j.length + l.length < 4398046511104 then (some (j ++ l)) else (none)))) else (none)))) else (none))) else (none)) else (none)))) := by
  refine Is.step (spec_AddGrease.l0_is w x y z v A).mo (fun k => by rw [spec_AddGrease.l0]) ?_
  exact is2_ @spec_AddGrease.l0_is @spec_PickOf.f_is
theorem spec_AddGrease.fv_eq (s : List (S44)) (t : Int) : spec_AddGrease.fv s t = (spec_GreaseTag.fv t).bind fun A => ((spec_l11Copy.fv s).bind fun v => ((spec_AreExts.fv s).bind fun u => (if u = true then (if (s.length : Int) ≥ 6 then (spec_AddGrease.j0v s t A v true) else ((spec_ExtOf.fv s A).bind fun r => (spec_AddGrease.j0v s t A v (decide (r ≥ 0))))) else (spec_AddGrease.j0v s t A v true)))) := by
  refine Is.lim (g := fun k => spec_AddGrease.f k s t) ?_
  · unfold spec_AddGrease.f
    exact is5_ @spec_AddGrease.j0_is @spec_AreExts.f_is @spec_ExtOf.f_is @spec_GreaseTag.f_is @spec_l11Copy.f_is
end Go.Proofs.Ytibmehnippjakaa.Print

/- Written by a program of this session (limx.py): the equations of what the printed functions come to. No condition. -/
namespace Go.Proofs.Ytibmehnippjakaa.Print
open Go.RowKit Go.Proofs.YtibmehnippjakaaW.PrintWords Go.Proofs.YtibmehnippjakaaW.PrintLast Go.Proofs.Ytibmehnippjakaa.Base
set_option linter.unusedVariables false
set_option maxRecDepth 20000
noncomputable def spec_HelloOf.l0v (l : Int) (m : List (S44)) (n : Int) (o : List Int) (p : List Int) (q : List (S59)) (r : Int) : Option (List Int × (List (S44))) := Lim fun k => spec_HelloOf.l0 k l m n o p q r
noncomputable def spec_HelloOf.fv (p : List Int) (q : List Int) (r : List (S59)) (o : Int) (s : Int) : Option (List Int × (List (S44))) := Lim fun k => spec_HelloOf.f k p q r o s
theorem spec_HelloOf.l0_is (l : Int) (m : List (S44)) (n : Int) (o : List Int) (p : List Int) (q : List (S59)) (r : Int) : Is (fun k => spec_HelloOf.l0 k l m n o p q r) (spec_HelloOf.l0v l m n o p q r) := ⟨fun k => (spec_HelloOf.mono_l k) l m n o p q r, rfl⟩
theorem spec_HelloOf.f_is (p : List Int) (q : List Int) (r : List (S59)) (o : Int) (s : Int) : Is (fun k => spec_HelloOf.f k p q r o s) (spec_HelloOf.fv p q r o s) := ⟨fun k => spec_HelloOf.mono p q r o s k, rfl⟩
theorem spec_HelloOf.l0v_eq (l : Int) (m : List (S44)) (n : Int) (o : List Int) (p : List Int) (q : List (S59)) (r : Int) : spec_HelloOf.l0v l m n o p q r = if n < (p.length : Int) then (if 0 ≤ n then (if m.length < 4398046511104 then (spec_HelloOf.l0v l (m ++ [(⟨rd p n, ([] : List Int)⟩ : S44)]) (wrap64 (n + 1)) o p q r) else (none)) else (none)) else ((some (([] : List Int) : List Int)).bind fun e => (if e.length + o.length < 17592186044416 then ((spec_AddGrease.fv m l).bind fun s => (some ((e ++ o), s))) else (none))) := by
  refine Is.step (spec_HelloOf.l0_is l m n o p q r).mo (fun k => by rw [spec_HelloOf.l0]) ?_
  exact is2_ @spec_AddGrease.f_is @spec_HelloOf.l0_is
theorem spec_HelloOf.fv_eq (p : List Int) (q : List Int) (r : List (S59)) (o : Int) (s : Int) : spec_HelloOf.fv p q r o s = (spec_IsEndpoint.fv p q r o).bind fun e => (if e = true then (spec_HelloOf.l0v s (([] : List (S44))) 0 p q r o) else (some (([] : List Int), ([] : List (S44))))) := by
  refine Is.lim (g := fun k => spec_HelloOf.f k p q r o s) ?_
  · unfold spec_HelloOf.f
    exact is2_ @spec_HelloOf.l0_is @spec_IsEndpoint.f_is
noncomputable def laws_toIntS.l0v (d : List Int) (e : List Int) (f : Int) : Option (List Int) := Lim fun k => laws_toIntS.l0 k d e f
noncomputable def laws_toIntS.fv (f : List Int) : Option (List Int) := Lim fun k => laws_toIntS.f k f
theorem laws_toIntS.l0_is (d : List Int) (e : List Int) (f : Int) : Is (fun k => laws_toIntS.l0 k d e f) (laws_toIntS.l0v d e f) := ⟨fun k => (laws_toIntS.mono_l k) d e f, rfl⟩
theorem laws_toIntS.f_is (f : List Int) : Is (fun k => laws_toIntS.f k f) (laws_toIntS.fv f) := ⟨fun k => laws_toIntS.mono f k, rfl⟩
theorem laws_toIntS.l0v_eq (d : List Int) (e : List Int) (f : Int) : laws_toIntS.l0v d e f = if f < (d.length : Int) then (if 0 ≤ f then (if f < (e.length : Int) then (laws_toIntS.l0v d (e.set (f : Int).toNat (rd d f)) (wrap64 (f + 1))) else (none)) else (none)) else (some e) := by
  refine Is.step (laws_toIntS.l0_is d e f).mo (fun k => by rw [laws_toIntS.l0]) ?_
  exact is1_ @laws_toIntS.l0_is
theorem laws_toIntS.fv_eq (f : List Int) : laws_toIntS.fv f = if 0 ≤ (f.length : Int) then (if ((f.length : Int) : Int).toNat ≤ 35184372088832 then (laws_toIntS.l0v f (List.replicate ((f.length : Int) : Int).toNat 0) 0) else (none)) else (none) := by
  refine Is.lim (g := fun k => laws_toIntS.f k f) ?_
  · unfold laws_toIntS.f
    exact is1_ @laws_toIntS.l0_is
section
variable (h : Int) (i j : List Int) (l : Bool)
noncomputable def laws_toBox.fv := Lim fun k => laws_toBox.f k h i j l
theorem laws_toBox.f_is : Is (fun k => laws_toBox.f k h i j l) (laws_toBox.fv h i j l) := ⟨fun k => laws_toBox.mono h i j l k, rfl⟩
theorem laws_toBox.fv_eq : laws_toBox.fv h i j l = (laws_toIntS.fv i).bind fun e => ((laws_toIntS.fv j).bind fun g => (some (h, e, g, l))) := by
  refine Is.lim (g := fun k => laws_toBox.f k h i j l) ?_
  · unfold laws_toBox.f
    exact is1_ @laws_toIntS.f_is
end
section
variable (e : List (S55)) (g : List (S59)) (h : Int) (i : List (S55))
noncomputable def laws_toBoxS.l0v := Lim fun k => laws_toBoxS.l0 k e g h
noncomputable def laws_toBoxS.fv := Lim fun k => laws_toBoxS.f k i
theorem laws_toBoxS.l0_is : Is (fun k => laws_toBoxS.l0 k e g h) (laws_toBoxS.l0v e g h) := ⟨fun k => (laws_toBoxS.mono_l k) e g h, rfl⟩
theorem laws_toBoxS.f_is : Is (fun k => laws_toBoxS.f k i) (laws_toBoxS.fv i) := ⟨fun k => laws_toBoxS.mono i k, rfl⟩
theorem laws_toBoxS.l0v_eq : laws_toBoxS.l0v e g h = if h < (e.length : Int) then (if 0 ≤ h then ((laws_toBox.fv ((rd_T55 e h).f0) ((rd_T55 e h).f1) ((rd_T55 e h).f2) ((rd_T55 e h).f3)).bind fun i => (if h < (g.length : Int) then (laws_toBoxS.l0v e (g.set (h : Int).toNat (⟨i.1, i.2.1, i.2.2.1, i.2.2.2⟩ : S59)) (wrap64 (h + 1))) else (none))) else (none)) else (some g) := by
  refine Is.step (laws_toBoxS.l0_is e g h).mo (fun k => by rw [laws_toBoxS.l0]) ?_
  exact is2_ @laws_toBox.f_is @laws_toBoxS.l0_is
theorem laws_toBoxS.fv_eq : laws_toBoxS.fv i = if 0 ≤ (i.length : Int) then (if ((i.length : Int) : Int).toNat ≤ 4398046511104 then (laws_toBoxS.l0v i (List.replicate ((i.length : Int) : Int).toNat z59) 0) else (none)) else (none) := by
  refine Is.lim (g := fun k => laws_toBoxS.f k i) ?_
  · unfold laws_toBoxS.f
    exact is1_ @laws_toBoxS.l0_is
end
section
variable (i j : List Int) (l : List (S55)) (m : Int)
noncomputable def laws_toEndpoint.fv := Lim fun k => laws_toEndpoint.f k i j l m
theorem laws_toEndpoint.f_is : Is (fun k => laws_toEndpoint.f k i j l m) (laws_toEndpoint.fv i j l m) := ⟨fun k => laws_toEndpoint.mono i j l m k, rfl⟩
theorem laws_toEndpoint.fv_eq : laws_toEndpoint.fv i j l m = (laws_toIntS.fv i).bind fun e => ((laws_toIntS.fv j).bind fun g => ((laws_toBoxS.fv l).bind fun h => (some (e, g, h, m)))) := by
  refine Is.lim (g := fun k => laws_toEndpoint.f k i j l m) ?_
  · unfold laws_toEndpoint.f
    exact is2_ @laws_toBoxS.f_is @laws_toIntS.f_is
end
noncomputable def impl_AreVersions.l0v (g : List Int) (h : List Int) (i : Int) (j : Int) : Option (Bool) := Lim fun k => impl_AreVersions.l0 k g h i j
noncomputable def impl_AreVersions.fv (j : List Int) : Option (Bool) := Lim fun k => impl_AreVersions.f k j
theorem impl_AreVersions.l0_is (g : List Int) (h : List Int) (i : Int) (j : Int) : Is (fun k => impl_AreVersions.l0 k g h i j) (impl_AreVersions.l0v g h i j) := ⟨fun k => (impl_AreVersions.mono_l k) g h i j, rfl⟩
theorem impl_AreVersions.f_is (j : List Int) : Is (fun k => impl_AreVersions.f k j) (impl_AreVersions.fv j) := ⟨fun k => impl_AreVersions.mono j k, rfl⟩
theorem impl_AreVersions.l0v_eq (g : List Int) (h : List Int) (i : Int) (j : Int) : impl_AreVersions.l0v g h i j = if j < i then (if 0 ≤ j then (if j < (h.length : Int) then ((impl_InRange.f (rd h j) 1 9).bind fun b => (if b = true then (if j > 0 then (if 0 ≤ (wrap64 (j - 1)) then (if (wrap64 (j - 1)) < (g.length : Int) then (if (rd g (wrap64 (j - 1))) ≥ (rd h j) then (some false) else (impl_AreVersions.l0v g h i (wrap64 (j + 1)))) else (none)) else (none)) else (impl_AreVersions.l0v g h i (wrap64 (j + 1)))) else (some false))) else (none)) else (none)) else (some (decide ((g.length : Int) > 0))) := by
  refine Is.step (impl_AreVersions.l0_is g h i j).mo (fun k => by rw [impl_AreVersions.l0]) ?_
  exact is1_ @impl_AreVersions.l0_is
theorem impl_AreVersions.fv_eq (j : List Int) : impl_AreVersions.fv j = impl_AreVersions.l0v j j (j.length : Int) 0 := by
  refine Is.lim (g := fun k => impl_AreVersions.f k j) ?_
  · unfold impl_AreVersions.f
    exact is1_ @impl_AreVersions.l0_is
end Go.Proofs.Ytibmehnippjakaa.Print

/- Written by a program of this session (limx.py): the equations of what the printed functions come to. No condition. -/
namespace Go.Proofs.Ytibmehnippjakaa.Print
open Go.RowKit Go.Proofs.YtibmehnippjakaaW.PrintWords Go.Proofs.YtibmehnippjakaaW.PrintLast Go.Proofs.Ytibmehnippjakaa.Base
set_option linter.unusedVariables false
set_option maxRecDepth 20000
noncomputable def slices_IndexFunc_int_int_with_impl_areNumbers_1.l0v (h : List Int) (i : Int) (j : Int) (l : Int) (m : Int) : Option (Int) := Lim fun k => slices_IndexFunc_int_int_with_impl_areNumbers_1.l0 k h i j l m
noncomputable def slices_IndexFunc_int_int_with_impl_areNumbers_1.fv (j : List Int) (l : Int) (m : Int) : Option (Int) := Lim fun k => slices_IndexFunc_int_int_with_impl_areNumbers_1.f k j l m
theorem slices_IndexFunc_int_int_with_impl_areNumbers_1.l0_is (h : List Int) (i : Int) (j : Int) (l : Int) (m : Int) : Is (fun k => slices_IndexFunc_int_int_with_impl_areNumbers_1.l0 k h i j l m) (slices_IndexFunc_int_int_with_impl_areNumbers_1.l0v h i j l m) := ⟨fun k => (slices_IndexFunc_int_int_with_impl_areNumbers_1.mono_l k) h i j l m, rfl⟩
theorem slices_IndexFunc_int_int_with_impl_areNumbers_1.f_is (j : List Int) (l : Int) (m : Int) : Is (fun k => slices_IndexFunc_int_int_with_impl_areNumbers_1.f k j l m) (slices_IndexFunc_int_int_with_impl_areNumbers_1.fv j l m) := ⟨fun k => slices_IndexFunc_int_int_with_impl_areNumbers_1.mono j l m k, rfl⟩
theorem slices_IndexFunc_int_int_with_impl_areNumbers_1.l0v_eq (h : List Int) (i : Int) (j : Int) (l : Int) (m : Int) : slices_IndexFunc_int_int_with_impl_areNumbers_1.l0v h i j l m = if j < i then (if 0 ≤ j then (if j < (h.length : Int) then ((impl_areNumbers_1.f (rd h j) l m).bind fun d => (if d = true then (some j) else (slices_IndexFunc_int_int_with_impl_areNumbers_1.l0v h i (wrap64 (j + 1)) l m))) else (none)) else (none)) else (some (-1)) := by
  refine Is.step (slices_IndexFunc_int_int_with_impl_areNumbers_1.l0_is h i j l m).mo (fun k => by rw [slices_IndexFunc_int_int_with_impl_areNumbers_1.l0]) ?_
  exact is1_ @slices_IndexFunc_int_int_with_impl_areNumbers_1.l0_is
theorem slices_IndexFunc_int_int_with_impl_areNumbers_1.fv_eq (j : List Int) (l : Int) (m : Int) : slices_IndexFunc_int_int_with_impl_areNumbers_1.fv j l m = slices_IndexFunc_int_int_with_impl_areNumbers_1.l0v j (j.length : Int) 0 l m := by
  refine Is.lim (g := fun k => slices_IndexFunc_int_int_with_impl_areNumbers_1.f k j l m) ?_
  · unfold slices_IndexFunc_int_int_with_impl_areNumbers_1.f
    exact is1_ @slices_IndexFunc_int_int_with_impl_areNumbers_1.l0_is
section
variable (e : List Int) (g h : Int)
noncomputable def slices_ContainsFunc_int_int_with_impl_areNumbers_1.fv := Lim fun k => slices_ContainsFunc_int_int_with_impl_areNumbers_1.f k e g h
theorem slices_ContainsFunc_int_int_with_impl_areNumbers_1.f_is : Is (fun k => slices_ContainsFunc_int_int_with_impl_areNumbers_1.f k e g h) (slices_ContainsFunc_int_int_with_impl_areNumbers_1.fv e g h) := ⟨fun k => slices_ContainsFunc_int_int_with_impl_areNumbers_1.mono e g h k, rfl⟩
theorem slices_ContainsFunc_int_int_with_impl_areNumbers_1.fv_eq : slices_ContainsFunc_int_int_with_impl_areNumbers_1.fv e g h = (slices_IndexFunc_int_int_with_impl_areNumbers_1.fv e g h).bind fun c => (some (decide (c ≥ 0))) := by
  refine Is.lim (g := fun k => slices_ContainsFunc_int_int_with_impl_areNumbers_1.f k e g h) ?_
  · unfold slices_ContainsFunc_int_int_with_impl_areNumbers_1.f
    exact is1_ @slices_IndexFunc_int_int_with_impl_areNumbers_1.f_is
end
section
variable (e : List Int) (g h : Int)
noncomputable def impl_areNumbers.fv := Lim fun k => impl_areNumbers.f k e g h
theorem impl_areNumbers.f_is : Is (fun k => impl_areNumbers.f k e g h) (impl_areNumbers.fv e g h) := ⟨fun k => impl_areNumbers.mono e g h k, rfl⟩
theorem impl_areNumbers.fv_eq : impl_areNumbers.fv e g h = (slices_ContainsFunc_int_int_with_impl_areNumbers_1.fv e g h).bind fun a => (some (!a)) := by
  refine Is.lim (g := fun k => impl_areNumbers.f k e g h) ?_
  · unfold impl_areNumbers.f
    exact is1_ @slices_ContainsFunc_int_int_with_impl_areNumbers_1.f_is
end
noncomputable def impl_areTags.l0v (g : List Int) (h : List Int) (i : Int) (j : Int) : Option (Bool) := Lim fun k => impl_areTags.l0 k g h i j
noncomputable def impl_areTags.fv (j : List Int) : Option (Bool) := Lim fun k => impl_areTags.f k j
theorem impl_areTags.l0_is (g : List Int) (h : List Int) (i : Int) (j : Int) : Is (fun k => impl_areTags.l0 k g h i j) (impl_areTags.l0v g h i j) := ⟨fun k => (impl_areTags.mono_l k) g h i j, rfl⟩
theorem impl_areTags.f_is (j : List Int) : Is (fun k => impl_areTags.f k j) (impl_areTags.fv j) := ⟨fun k => impl_areTags.mono j k, rfl⟩
theorem impl_areTags.l0v_eq (g : List Int) (h : List Int) (i : Int) (j : Int) : impl_areTags.l0v g h i j = if j < i then (if 0 ≤ j then (if j < (h.length : Int) then (if j > 0 then (if 0 ≤ (wrap64 (j - 1)) then (if (wrap64 (j - 1)) < (g.length : Int) then (if (rd g (wrap64 (j - 1))) ≥ (rd h j) then (some false) else (impl_areTags.l0v g h i (wrap64 (j + 1)))) else (none)) else (none)) else (impl_areTags.l0v g h i (wrap64 (j + 1)))) else (none)) else (none)) else ((impl_areNumbers.fv g 0 255).bind fun b => (some b)) := by
  refine Is.step (impl_areTags.l0_is g h i j).mo (fun k => by rw [impl_areTags.l0]) ?_
  exact is2_ @impl_areNumbers.f_is @impl_areTags.l0_is
theorem impl_areTags.fv_eq (j : List Int) : impl_areTags.fv j = impl_areTags.l0v j j (j.length : Int) 0 := by
  refine Is.lim (g := fun k => impl_areTags.f k j) ?_
  · unfold impl_areTags.f
    exact is1_ @impl_areTags.l0_is
noncomputable def slices_IndexFunc_int_int_with_impl_IsReserved.l0v (e : List Int) (g : Int) (h : Int) : Option (Int) := Lim fun k => slices_IndexFunc_int_int_with_impl_IsReserved.l0 k e g h
noncomputable def slices_IndexFunc_int_int_with_impl_IsReserved.fv (h : List Int) : Option (Int) := Lim fun k => slices_IndexFunc_int_int_with_impl_IsReserved.f k h
theorem slices_IndexFunc_int_int_with_impl_IsReserved.l0_is (e : List Int) (g : Int) (h : Int) : Is (fun k => slices_IndexFunc_int_int_with_impl_IsReserved.l0 k e g h) (slices_IndexFunc_int_int_with_impl_IsReserved.l0v e g h) := ⟨fun k => (slices_IndexFunc_int_int_with_impl_IsReserved.mono_l k) e g h, rfl⟩
theorem slices_IndexFunc_int_int_with_impl_IsReserved.f_is (h : List Int) : Is (fun k => slices_IndexFunc_int_int_with_impl_IsReserved.f k h) (slices_IndexFunc_int_int_with_impl_IsReserved.fv h) := ⟨fun k => slices_IndexFunc_int_int_with_impl_IsReserved.mono h k, rfl⟩
theorem slices_IndexFunc_int_int_with_impl_IsReserved.l0v_eq (e : List Int) (g : Int) (h : Int) : slices_IndexFunc_int_int_with_impl_IsReserved.l0v e g h = if h < g then (if 0 ≤ h then (if h < (e.length : Int) then ((impl_IsReserved.f (rd e h)).bind fun b => (if b = true then (some h) else (slices_IndexFunc_int_int_with_impl_IsReserved.l0v e g (wrap64 (h + 1))))) else (none)) else (none)) else (some (-1)) := by
  refine Is.step (slices_IndexFunc_int_int_with_impl_IsReserved.l0_is e g h).mo (fun k => by rw [slices_IndexFunc_int_int_with_impl_IsReserved.l0]) ?_
  exact is1_ @slices_IndexFunc_int_int_with_impl_IsReserved.l0_is
theorem slices_IndexFunc_int_int_with_impl_IsReserved.fv_eq (h : List Int) : slices_IndexFunc_int_int_with_impl_IsReserved.fv h = slices_IndexFunc_int_int_with_impl_IsReserved.l0v h (h.length : Int) 0 := by
  refine Is.lim (g := fun k => slices_IndexFunc_int_int_with_impl_IsReserved.f k h) ?_
  · unfold slices_IndexFunc_int_int_with_impl_IsReserved.f
    exact is1_ @slices_IndexFunc_int_int_with_impl_IsReserved.l0_is
section
variable (c : List Int)
noncomputable def slices_ContainsFunc_int_int_with_impl_IsReserved.fv := Lim fun k => slices_ContainsFunc_int_int_with_impl_IsReserved.f k c
theorem slices_ContainsFunc_int_int_with_impl_IsReserved.f_is : Is (fun k => slices_ContainsFunc_int_int_with_impl_IsReserved.f k c) (slices_ContainsFunc_int_int_with_impl_IsReserved.fv c) := ⟨fun k => slices_ContainsFunc_int_int_with_impl_IsReserved.mono c k, rfl⟩
theorem slices_ContainsFunc_int_int_with_impl_IsReserved.fv_eq : slices_ContainsFunc_int_int_with_impl_IsReserved.fv c = (slices_IndexFunc_int_int_with_impl_IsReserved.fv c).bind fun a => (some (decide (a ≥ 0))) := by
  refine Is.lim (g := fun k => slices_ContainsFunc_int_int_with_impl_IsReserved.f k c) ?_
  · unfold slices_ContainsFunc_int_int_with_impl_IsReserved.f
    exact is1_ @slices_IndexFunc_int_int_with_impl_IsReserved.f_is
end
section
variable (c : List Int)
noncomputable def impl_IsHardened.fv := Lim fun k => impl_IsHardened.f k c
theorem impl_IsHardened.f_is : Is (fun k => impl_IsHardened.f k c) (impl_IsHardened.fv c) := ⟨fun k => impl_IsHardened.mono c k, rfl⟩
theorem impl_IsHardened.fv_eq : impl_IsHardened.fv c = (slices_ContainsFunc_int_int_with_impl_IsReserved.fv c).bind fun a => (some a) := by
  refine Is.lim (g := fun k => impl_IsHardened.f k c) ?_
  · unfold impl_IsHardened.f
    exact is1_ @slices_ContainsFunc_int_int_with_impl_IsReserved.f_is
end
section
variable (i : Int) (j l : List Int) (m : Bool)
noncomputable def impl_IsBox.fv := Lim fun k => impl_IsBox.f k i j l m
theorem impl_IsBox.f_is : Is (fun k => impl_IsBox.f k i j l m) (impl_IsBox.fv i j l m) := ⟨fun k => impl_IsBox.mono i j l m k, rfl⟩
theorem impl_IsBox.fv_eq : impl_IsBox.fv i j l m = (impl_InRange.f i 0 9).bind fun d => (if d = true then (if (j.length : Int) ≤ 6 then (if (l.length : Int) ≤ 6 then ((impl_areNumbers.fv j 0 255).bind fun e => (if e = true then ((impl_areNumbers.fv l 0 255).bind fun g => (some g)) else (some false))) else (some false)) else (some false)) else (some false)) := by
  refine Is.lim (g := fun k => impl_IsBox.f k i j l m) ?_
  · unfold impl_IsBox.f
    exact is1_ @impl_areNumbers.f_is
end
section
variable (g : Int) (h i : List Int) (j : Bool)
noncomputable def impl_IsEndpoint_1.fv := Lim fun k => impl_IsEndpoint_1.f k g h i j
theorem impl_IsEndpoint_1.f_is : Is (fun k => impl_IsEndpoint_1.f k g h i j) (impl_IsEndpoint_1.fv g h i j) := ⟨fun k => impl_IsEndpoint_1.mono g h i j k, rfl⟩
theorem impl_IsEndpoint_1.fv_eq : impl_IsEndpoint_1.fv g h i j = (impl_IsBox.fv g h i j).bind fun e => (some (!e)) := by
  refine Is.lim (g := fun k => impl_IsEndpoint_1.f k g h i j) ?_
  · unfold impl_IsEndpoint_1.f
    exact is1_ @impl_IsBox.f_is
end
noncomputable def slices_IndexFunc_impl_Box_impl_Box_with_impl_IsEndpoint_1.l0v (e : List (S59)) (g : Int) (h : Int) : Option (Int) := Lim fun k => slices_IndexFunc_impl_Box_impl_Box_with_impl_IsEndpoint_1.l0 k e g h
noncomputable def slices_IndexFunc_impl_Box_impl_Box_with_impl_IsEndpoint_1.fv (h : List (S59)) : Option (Int) := Lim fun k => slices_IndexFunc_impl_Box_impl_Box_with_impl_IsEndpoint_1.f k h
theorem slices_IndexFunc_impl_Box_impl_Box_with_impl_IsEndpoint_1.l0_is (e : List (S59)) (g : Int) (h : Int) : Is (fun k => slices_IndexFunc_impl_Box_impl_Box_with_impl_IsEndpoint_1.l0 k e g h) (slices_IndexFunc_impl_Box_impl_Box_with_impl_IsEndpoint_1.l0v e g h) := ⟨fun k => (slices_IndexFunc_impl_Box_impl_Box_with_impl_IsEndpoint_1.mono_l k) e g h, rfl⟩
theorem slices_IndexFunc_impl_Box_impl_Box_with_impl_IsEndpoint_1.f_is (h : List (S59)) : Is (fun k => slices_IndexFunc_impl_Box_impl_Box_with_impl_IsEndpoint_1.f k h) (slices_IndexFunc_impl_Box_impl_Box_with_impl_IsEndpoint_1.fv h) := ⟨fun k => slices_IndexFunc_impl_Box_impl_Box_with_impl_IsEndpoint_1.mono h k, rfl⟩
theorem slices_IndexFunc_impl_Box_impl_Box_with_impl_IsEndpoint_1.l0v_eq (e : List (S59)) (g : Int) (h : Int) : slices_IndexFunc_impl_Box_impl_Box_with_impl_IsEndpoint_1.l0v e g h = if h < g then (if 0 ≤ h then (if h < (e.length : Int) then ((impl_IsEndpoint_1.fv ((rd_T59 e h).f0) ((rd_T59 e h).f1) ((rd_T59 e h).f2) ((rd_T59 e h).f3)).bind fun c => (if c = true then (some h) else (slices_IndexFunc_impl_Box_impl_Box_with_impl_IsEndpoint_1.l0v e g (wrap64 (h + 1))))) else (none)) else (none)) else (some (-1)) := by
  refine Is.step (slices_IndexFunc_impl_Box_impl_Box_with_impl_IsEndpoint_1.l0_is e g h).mo (fun k => by rw [slices_IndexFunc_impl_Box_impl_Box_with_impl_IsEndpoint_1.l0]) ?_
  exact is2_ @impl_IsEndpoint_1.f_is @slices_IndexFunc_impl_Box_impl_Box_with_impl_IsEndpoint_1.l0_is
theorem slices_IndexFunc_impl_Box_impl_Box_with_impl_IsEndpoint_1.fv_eq (h : List (S59)) : slices_IndexFunc_impl_Box_impl_Box_with_impl_IsEndpoint_1.fv h = slices_IndexFunc_impl_Box_impl_Box_with_impl_IsEndpoint_1.l0v h (h.length : Int) 0 := by
  refine Is.lim (g := fun k => slices_IndexFunc_impl_Box_impl_Box_with_impl_IsEndpoint_1.f k h) ?_
  · unfold slices_IndexFunc_impl_Box_impl_Box_with_impl_IsEndpoint_1.f
    exact is1_ @slices_IndexFunc_impl_Box_impl_Box_with_impl_IsEndpoint_1.l0_is
end Go.Proofs.Ytibmehnippjakaa.Print

/- Written by a program of this session (limx.py): the equations of what the printed functions come to. No condition. -/
namespace Go.Proofs.Ytibmehnippjakaa.Print
open Go.RowKit Go.Proofs.YtibmehnippjakaaW.PrintWords Go.Proofs.YtibmehnippjakaaW.PrintLast Go.Proofs.Ytibmehnippjakaa.Base
set_option linter.unusedVariables false
set_option maxRecDepth 20000
section
variable (c : List (S59))
noncomputable def slices_ContainsFunc_impl_Box_impl_Box_with_impl_IsEndpoint_1.fv := Lim fun k => slices_ContainsFunc_impl_Box_impl_Box_with_impl_IsEndpoint_1.f k c
theorem slices_ContainsFunc_impl_Box_impl_Box_with_impl_IsEndpoint_1.f_is : Is (fun k => slices_ContainsFunc_impl_Box_impl_Box_with_impl_IsEndpoint_1.f k c) (slices_ContainsFunc_impl_Box_impl_Box_with_impl_IsEndpoint_1.fv c) := ⟨fun k => slices_ContainsFunc_impl_Box_impl_Box_with_impl_IsEndpoint_1.mono c k, rfl⟩
theorem slices_ContainsFunc_impl_Box_impl_Box_with_impl_IsEndpoint_1.fv_eq : slices_ContainsFunc_impl_Box_impl_Box_with_impl_IsEndpoint_1.fv c = (slices_IndexFunc_impl_Box_impl_Box_with_impl_IsEndpoint_1.fv c).bind fun a => (some (decide (a ≥ 0))) := by
  refine Is.lim (g := fun k => slices_ContainsFunc_impl_Box_impl_Box_with_impl_IsEndpoint_1.f k c) ?_
  · unfold slices_ContainsFunc_impl_Box_impl_Box_with_impl_IsEndpoint_1.f
    exact is1_ @slices_IndexFunc_impl_Box_impl_Box_with_impl_IsEndpoint_1.f_is
end
section
variable (l m : List Int) (n : List (S59)) (o : Int)
noncomputable def impl_IsEndpoint.fv := Lim fun k => impl_IsEndpoint.f k l m n o
theorem impl_IsEndpoint.f_is : Is (fun k => impl_IsEndpoint.f k l m n o) (impl_IsEndpoint.fv l m n o) := ⟨fun k => impl_IsEndpoint.mono l m n o k, rfl⟩
theorem impl_IsEndpoint.fv_eq : impl_IsEndpoint.fv l m n o = (impl_AreVersions.fv l).bind fun e => (if e = true then (if (m.length : Int) ≤ 5 then ((impl_areTags.fv m).bind fun g => (if g = true then ((impl_IsHardened.fv m).bind fun h => (if h = true then (some false) else (if (n.length : Int) ≤ 4 then ((slices_ContainsFunc_impl_Box_impl_Box_with_impl_IsEndpoint_1.fv n).bind fun i => (if i = true then (some false) else ((impl_InRange.f o 0 5).bind fun j => (some j)))) else (some false)))) else (some false))) else (some false)) else (some false)) := by
  refine Is.lim (g := fun k => impl_IsEndpoint.f k l m n o) ?_
  · unfold impl_IsEndpoint.f
    exact is4_ @impl_AreVersions.f_is @impl_IsHardened.f_is @impl_areTags.f_is @slices_ContainsFunc_impl_Box_impl_Box_with_impl_IsEndpoint_1.f_is
end
noncomputable def impl_keptExts_with_impl_copyExts_1.l0v (h : List (S44)) (i : List (S44)) (j : Int) (l : Int) : Option ((List (S44))) := Lim fun k => impl_keptExts_with_impl_copyExts_1.l0 k h i j l
noncomputable def impl_keptExts_with_impl_copyExts_1.fv (l : List (S44)) : Option ((List (S44))) := Lim fun k => impl_keptExts_with_impl_copyExts_1.f k l
theorem impl_keptExts_with_impl_copyExts_1.l0_is (h : List (S44)) (i : List (S44)) (j : Int) (l : Int) : Is (fun k => impl_keptExts_with_impl_copyExts_1.l0 k h i j l) (impl_keptExts_with_impl_copyExts_1.l0v h i j l) := ⟨fun k => (impl_keptExts_with_impl_copyExts_1.mono_l k) h i j l, rfl⟩
theorem impl_keptExts_with_impl_copyExts_1.f_is (l : List (S44)) : Is (fun k => impl_keptExts_with_impl_copyExts_1.f k l) (impl_keptExts_with_impl_copyExts_1.fv l) := ⟨fun k => impl_keptExts_with_impl_copyExts_1.mono l k, rfl⟩
theorem impl_keptExts_with_impl_copyExts_1.l0v_eq (h : List (S44)) (i : List (S44)) (j : Int) (l : Int) : impl_keptExts_with_impl_copyExts_1.l0v h i j l = if l < j then (if 0 ≤ l then (if l < (i.length : Int) then ((impl_copyExts_1.f ((rd_T44 i l).f0)).bind fun e => (if e = true then ((some (([] : List Int) : List Int)).bind fun b => (if b.length + ((rd_T44 i l).f1).length < 17592186044416 then (if h.length < 4398046511104 then (impl_keptExts_with_impl_copyExts_1.l0v (h ++ [(⟨(rd_T44 i l).f0, (b ++ ((rd_T44 i l).f1))⟩ : S44)]) i j (wrap64 (l + 1))) else (none)) else (none))) else (impl_keptExts_with_impl_copyExts_1.l0v h i j (wrap64 (l + 1))))) else (none)) else (none)) else (some h) := by
  refine Is.step (impl_keptExts_with_impl_copyExts_1.l0_is h i j l).mo (fun k => by rw [impl_keptExts_with_impl_copyExts_1.l0]) ?_
  exact is1_ @impl_keptExts_with_impl_copyExts_1.l0_is
theorem impl_keptExts_with_impl_copyExts_1.fv_eq (l : List (S44)) : impl_keptExts_with_impl_copyExts_1.fv l = impl_keptExts_with_impl_copyExts_1.l0v (([] : List (S44))) l (l.length : Int) 0 := by
  refine Is.lim (g := fun k => impl_keptExts_with_impl_copyExts_1.f k l) ?_
  · unfold impl_keptExts_with_impl_copyExts_1.f
    exact is1_ @impl_keptExts_with_impl_copyExts_1.l0_is
section
variable (c : List (S44))
noncomputable def impl_copyExts.fv := Lim fun k => impl_copyExts.f k c
theorem impl_copyExts.f_is : Is (fun k => impl_copyExts.f k c) (impl_copyExts.fv c) := ⟨fun k => impl_copyExts.mono c k, rfl⟩
theorem impl_copyExts.fv_eq : impl_copyExts.fv c = (impl_keptExts_with_impl_copyExts_1.fv c).bind fun a => (some a) := by
  refine Is.lim (g := fun k => impl_copyExts.f k c) ?_
  · unfold impl_copyExts.f
    exact is1_ @impl_keptExts_with_impl_copyExts_1.f_is
end
section
variable (g : Int) (h : List Int) (i j : Int) (l : List Int)
noncomputable def impl_Hash.l0v := Lim fun k => impl_Hash.l0 k g h i j
noncomputable def impl_Hash.fv := Lim fun k => impl_Hash.f k l
theorem impl_Hash.l0_is : Is (fun k => impl_Hash.l0 k g h i j) (impl_Hash.l0v g h i j) := ⟨fun k => (impl_Hash.mono_l k) g h i j, rfl⟩
theorem impl_Hash.f_is : Is (fun k => impl_Hash.f k l) (impl_Hash.fv l) := ⟨fun k => impl_Hash.mono l k, rfl⟩
theorem impl_Hash.l0v_eq : impl_Hash.l0v g h i j = if j < i then (if 0 ≤ j then (if j < (h.length : Int) then ((impl_Mod.f (rd h j) 2147483647).bind fun l => (impl_Hash.l0v (Int.tmod (wrap64 ((wrap64 ((wrap64 (g * 1000003)) + l)) + 13)) 2147483647) h i (wrap64 (j + 1)))) else (none)) else (none)) else (some g) := by
  refine Is.step (impl_Hash.l0_is g h i j).mo (fun k => by rw [impl_Hash.l0]) ?_
  exact is1_ @impl_Hash.l0_is
theorem impl_Hash.fv_eq : impl_Hash.fv l = impl_Hash.l0v 11 l (l.length : Int) 0 := by
  refine Is.lim (g := fun k => impl_Hash.f k l) ?_
  · unfold impl_Hash.f
    exact is1_ @impl_Hash.l0_is
end
section
variable (g h i : Int)
noncomputable def impl_PickOf.fv := Lim fun k => impl_PickOf.f k g h i
theorem impl_PickOf.f_is : Is (fun k => impl_PickOf.f k g h i) (impl_PickOf.fv g h i) := ⟨fun k => impl_PickOf.mono g h i k, rfl⟩
theorem impl_PickOf.fv_eq : impl_PickOf.fv g h i = if i < 1 then (some 0) else ((impl_Hash.fv (([g, h] : List Int))).bind fun a => ((impl_Mod.f a i).bind fun b => (some b))) := by
  refine Is.lim (g := fun k => impl_PickOf.f k g h i) ?_
  · unfold impl_PickOf.f
    exact is1_ @impl_Hash.f_is
end
section
variable (c : Int)
noncomputable def impl_GreaseTag.fv := Lim fun k => impl_GreaseTag.f k c
theorem impl_GreaseTag.f_is : Is (fun k => impl_GreaseTag.f k c) (impl_GreaseTag.fv c) := ⟨fun k => impl_GreaseTag.mono c k, rfl⟩
theorem impl_GreaseTag.fv_eq : impl_GreaseTag.fv c = (impl_PickOf.fv c 0 16).bind fun a => (some (wrap64 ((wrap64 (16 * a)) + 10))) := by
  refine Is.lim (g := fun k => impl_GreaseTag.f k c) ?_
  · unfold impl_GreaseTag.f
    exact is1_ @impl_PickOf.f_is
end
noncomputable def slices_IndexFunc_impl_Ext_impl_Ext_with_impl_ExtOf_1.l0v (g : List (S44)) (h : Int) (i : Int) (j : Int) : Option (Int) := Lim fun k => slices_IndexFunc_impl_Ext_impl_Ext_with_impl_ExtOf_1.l0 k g h i j
noncomputable def slices_IndexFunc_impl_Ext_impl_Ext_with_impl_ExtOf_1.fv (i : List (S44)) (j : Int) : Option (Int) := Lim fun k => slices_IndexFunc_impl_Ext_impl_Ext_with_impl_ExtOf_1.f k i j
theorem slices_IndexFunc_impl_Ext_impl_Ext_with_impl_ExtOf_1.l0_is (g : List (S44)) (h : Int) (i : Int) (j : Int) : Is (fun k => slices_IndexFunc_impl_Ext_impl_Ext_with_impl_ExtOf_1.l0 k g h i j) (slices_IndexFunc_impl_Ext_impl_Ext_with_impl_ExtOf_1.l0v g h i j) := ⟨fun k => (slices_IndexFunc_impl_Ext_impl_Ext_with_impl_ExtOf_1.mono_l k) g h i j, rfl⟩
theorem slices_IndexFunc_impl_Ext_impl_Ext_with_impl_ExtOf_1.f_is (i : List (S44)) (j : Int) : Is (fun k => slices_IndexFunc_impl_Ext_impl_Ext_with_impl_ExtOf_1.f k i j) (slices_IndexFunc_impl_Ext_impl_Ext_with_impl_ExtOf_1.fv i j) := ⟨fun k => slices_IndexFunc_impl_Ext_impl_Ext_with_impl_ExtOf_1.mono i j k, rfl⟩
theorem slices_IndexFunc_impl_Ext_impl_Ext_with_impl_ExtOf_1.l0v_eq (g : List (S44)) (h : Int) (i : Int) (j : Int) : slices_IndexFunc_impl_Ext_impl_Ext_with_impl_ExtOf_1.l0v g h i j = if i < h then (if 0 ≤ i then (if i < (g.length : Int) then ((impl_ExtOf_1.f ((rd_T44 g i).f0) ((rd_T44 g i).f1) j).bind fun c => (if c = true then (some i) else (slices_IndexFunc_impl_Ext_impl_Ext_with_impl_ExtOf_1.l0v g h (wrap64 (i + 1)) j))) else (none)) else (none)) else (some (-1)) := by
  refine Is.step (slices_IndexFunc_impl_Ext_impl_Ext_with_impl_ExtOf_1.l0_is g h i j).mo (fun k => by rw [slices_IndexFunc_impl_Ext_impl_Ext_with_impl_ExtOf_1.l0]) ?_
  exact is1_ @slices_IndexFunc_impl_Ext_impl_Ext_with_impl_ExtOf_1.l0_is
theorem slices_IndexFunc_impl_Ext_impl_Ext_with_impl_ExtOf_1.fv_eq (i : List (S44)) (j : Int) : slices_IndexFunc_impl_Ext_impl_Ext_with_impl_ExtOf_1.fv i j = slices_IndexFunc_impl_Ext_impl_Ext_with_impl_ExtOf_1.l0v i (i.length : Int) 0 j := by
  refine Is.lim (g := fun k => slices_IndexFunc_impl_Ext_impl_Ext_with_impl_ExtOf_1.f k i j) ?_
  · unfold slices_IndexFunc_impl_Ext_impl_Ext_with_impl_ExtOf_1.f
    exact is1_ @slices_IndexFunc_impl_Ext_impl_Ext_with_impl_ExtOf_1.l0_is
end Go.Proofs.Ytibmehnippjakaa.Print

/- Written by a program of this session (limx.py): the equations of what the printed functions come to. No condition. -/
namespace Go.Proofs.Ytibmehnippjakaa.Print
open Go.RowKit Go.Proofs.YtibmehnippjakaaW.PrintWords Go.Proofs.YtibmehnippjakaaW.PrintLast Go.Proofs.Ytibmehnippjakaa.Base
set_option linter.unusedVariables false
set_option maxRecDepth 20000
section
variable (d : List (S44)) (e : Int)
noncomputable def impl_ExtOf.fv := Lim fun k => impl_ExtOf.f k d e
theorem impl_ExtOf.f_is : Is (fun k => impl_ExtOf.f k d e) (impl_ExtOf.fv d e) := ⟨fun k => impl_ExtOf.mono d e k, rfl⟩
theorem impl_ExtOf.fv_eq : impl_ExtOf.fv d e = (slices_IndexFunc_impl_Ext_impl_Ext_with_impl_ExtOf_1.fv d e).bind fun a => (some a) := by
  refine Is.lim (g := fun k => impl_ExtOf.f k d e) ?_
  · unfold impl_ExtOf.f
    exact is1_ @slices_IndexFunc_impl_Ext_impl_Ext_with_impl_ExtOf_1.f_is
end
noncomputable def impl_AreExts.l0v (i : List (S44)) (j : List (S44)) (l : Int) (m : Int) : Option (Bool) := Lim fun k => impl_AreExts.l0 k i j l m
noncomputable def impl_AreExts.fv (m : List (S44)) : Option (Bool) := Lim fun k => impl_AreExts.f k m
theorem impl_AreExts.l0_is (i : List (S44)) (j : List (S44)) (l : Int) (m : Int) : Is (fun k => impl_AreExts.l0 k i j l m) (impl_AreExts.l0v i j l m) := ⟨fun k => (impl_AreExts.mono_l k) i j l m, rfl⟩
theorem impl_AreExts.f_is (m : List (S44)) : Is (fun k => impl_AreExts.f k m) (impl_AreExts.fv m) := ⟨fun k => impl_AreExts.mono m k, rfl⟩
theorem impl_AreExts.l0v_eq (i : List (S44)) (j : List (S44)) (l : Int) (m : Int) : impl_AreExts.l0v i j l m = if m < l then (if 0 ≤ m then (if m < (j.length : Int) then ((impl_InRange.f ((rd_T44 j m).f0) 0 255).bind fun c => (if c = true then (if m ≤ (i.length : Int) then ((impl_ExtOf.fv (i.take (m : Int).toNat) ((rd_T44 j m).f0)).bind fun d => (if d ≥ 0 then (some false) else (if (((rd_T44 j m).f1).length : Int) > 4 then (some false) else ((impl_areNumbers.fv ((rd_T44 j m).f1) 0 255).bind fun e => (if e = true then (impl_AreExts.l0v i j l (wrap64 (m + 1))) else (some false)))))) else (none)) else (some false))) else (none)) else (none)) else (some (decide ((i.length : Int) ≤ 6))) := by
  refine Is.step (impl_AreExts.l0_is i j l m).mo (fun k => by rw [impl_AreExts.l0]) ?_
  exact is3_ @impl_AreExts.l0_is @impl_ExtOf.f_is @impl_areNumbers.f_is
theorem impl_AreExts.fv_eq (m : List (S44)) : impl_AreExts.fv m = impl_AreExts.l0v m m (m.length : Int) 0 := by
  refine Is.lim (g := fun k => impl_AreExts.f k m) ?_
  · unfold impl_AreExts.f
    exact is1_ @impl_AreExts.l0_is
section
variable (d : List (S44)) (g : Int)
noncomputable def impl_AddGrease.fv := Lim fun k => impl_AddGrease.f k d g
theorem impl_AddGrease.f_is : Is (fun k => impl_AddGrease.f k d g) (impl_AddGrease.fv d g) := ⟨fun k => impl_AddGrease.mono d g k, rfl⟩
theorem impl_AddGrease.fv_eq : impl_AddGrease.fv d g = (impl_copyExts.fv d).bind fun b => ((impl_GreaseTag.fv g).bind fun t => ((impl_AreExts.fv d).bind fun o => (if o = true then (if (d.length : Int) = 6 then (some b) else ((impl_ExtOf.fv d t).bind fun e => (if 0 ≤ e then (some b) else ((impl_PickOf.fv g 3 256).bind fun p => ((impl_PickOf.fv g 2 3).bind fun c => ((impl_PickOf.fv g 1 (wrap64 ((d.length : Int) + 1))).bind fun i => (if 0 ≤ c then (if c ≤ 2 then (if 0 ≤ i then (if i ≤ (b.length : Int) then (if (b.length : Int) ≤ 1000000 then (some (b.take i.toNat ++ (⟨t, List.replicate c.toNat p⟩ : S44) :: b.drop i.toNat)) else (none)) else (none)) else (none)) else (none)) else (none)))))))) else (some b)))) := by
  refine Is.lim (g := fun k => impl_AddGrease.f k d g) ?_
  · unfold impl_AddGrease.f
    exact is5_ @impl_AreExts.f_is @impl_ExtOf.f_is @impl_GreaseTag.f_is @impl_PickOf.f_is @impl_copyExts.f_is
end
noncomputable def impl_HelloOf.l0v (n : Int) (o : List (S44)) (p : List Int) (q : Int) (r : Int) (s : List Int) (t : List Int) (u : List (S59)) (v : Int) : Option (List Int × (List (S44))) := Lim fun k => impl_HelloOf.l0 k n o p q r s t u v
noncomputable def impl_HelloOf.fv (t : List Int) (s : List Int) (u : List (S59)) (r : Int) (w : Int) : Option (List Int × (List (S44))) := Lim fun k => impl_HelloOf.f k t s u r w
theorem impl_HelloOf.l0_is (n : Int) (o : List (S44)) (p : List Int) (q : Int) (r : Int) (s : List Int) (t : List Int) (u : List (S59)) (v : Int) : Is (fun k => impl_HelloOf.l0 k n o p q r s t u v) (impl_HelloOf.l0v n o p q r s t u v) := ⟨fun k => (impl_HelloOf.mono_l k) n o p q r s t u v, rfl⟩
theorem impl_HelloOf.f_is (t : List Int) (s : List Int) (u : List (S59)) (r : Int) (w : Int) : Is (fun k => impl_HelloOf.f k t s u r w) (impl_HelloOf.fv t s u r w) := ⟨fun k => impl_HelloOf.mono t s u r w k, rfl⟩
theorem impl_HelloOf.l0v_eq (n : Int) (o : List (S44)) (p : List Int) (q : Int) (r : Int) (s : List Int) (t : List Int) (u : List (S59)) (v : Int) : impl_HelloOf.l0v n o p q r s t u v = if r < q then (if 0 ≤ r then (if r < (p.length : Int) then (if o.length < 4398046511104 then (impl_HelloOf.l0v n (o ++ [(⟨rd p r, ([] : List Int)⟩ : S44)]) p q (wrap64 (r + 1)) s t u v) else (none)) else (none)) else (none)) else ((some (([] : List Int) : List Int)).bind fun w => (if w.length + s.length < 17592186044416 then ((impl_AddGrease.fv o n).bind fun i => (some ((w ++ s), i))) else (none))) := by
  refine Is.step (impl_HelloOf.l0_is n o p q r s t u v).mo (fun k => by rw [impl_HelloOf.l0]) ?_
  exact is2_ @impl_AddGrease.f_is @impl_HelloOf.l0_is
theorem impl_HelloOf.fv_eq (t : List Int) (s : List Int) (u : List (S59)) (r : Int) (w : Int) : impl_HelloOf.fv t s u r w = (impl_IsEndpoint.fv t s u r).bind fun v => (if v = true then (impl_HelloOf.l0v w (([] : List (S44))) s (s.length : Int) 0 t s u r) else (some (([] : List Int), ([] : List (S44))))) := by
  refine Is.lim (g := fun k => impl_HelloOf.f k t s u r w) ?_
  · unfold impl_HelloOf.f
    exact is2_ @impl_HelloOf.l0_is @impl_IsEndpoint.f_is
end Go.Proofs.Ytibmehnippjakaa.Print

/- Written by a program of this session (limx.py): the equations of what the printed functions come to. No condition. -/
namespace Go.Proofs.Ytibmehnippjakaa.Print
open Go.RowKit Go.Proofs.YtibmehnippjakaaW.PrintWords Go.Proofs.YtibmehnippjakaaW.PrintLast Go.Proofs.Ytibmehnippjakaa.Base
set_option linter.unusedVariables false
set_option maxRecDepth 20000
noncomputable def laws_eqIntS.l0v (d : List Int) (e : List Int) (f : Int) : Option (Bool) := Lim fun k => laws_eqIntS.l0 k d e f
noncomputable def laws_eqIntS.fv (f : List Int) (d : List Int) : Option (Bool) := Lim fun k => laws_eqIntS.f k f d
theorem laws_eqIntS.l0_is (d : List Int) (e : List Int) (f : Int) : Is (fun k => laws_eqIntS.l0 k d e f) (laws_eqIntS.l0v d e f) := ⟨fun k => (laws_eqIntS.mono_l k) d e f, rfl⟩
theorem laws_eqIntS.f_is (f : List Int) (d : List Int) : Is (fun k => laws_eqIntS.f k f d) (laws_eqIntS.fv f d) := ⟨fun k => laws_eqIntS.mono f d k, rfl⟩
theorem laws_eqIntS.l0v_eq (d : List Int) (e : List Int) (f : Int) : laws_eqIntS.l0v d e f = if f < (d.length : Int) then (if 0 ≤ f then (if f < (e.length : Int) then (if (rd d f) = (rd e f) then (laws_eqIntS.l0v d e (wrap64 (f + 1))) else (some false)) else (none)) else (none)) else (some true) := by
  refine Is.step (laws_eqIntS.l0_is d e f).mo (fun k => by rw [laws_eqIntS.l0]) ?_
  exact is1_ @laws_eqIntS.l0_is
theorem laws_eqIntS.fv_eq (f : List Int) (d : List Int) : laws_eqIntS.fv f d = if (f.length : Int) = (d.length : Int) then (laws_eqIntS.l0v f d 0) else (some false) := by
  refine Is.lim (g := fun k => laws_eqIntS.f k f d) ?_
  · unfold laws_eqIntS.f
    exact is1_ @laws_eqIntS.l0_is
section
variable (g : Int) (h : List Int) (i : Int) (j : List Int)
noncomputable def laws_eqExt.fv := Lim fun k => laws_eqExt.f k g h i j
theorem laws_eqExt.f_is : Is (fun k => laws_eqExt.f k g h i j) (laws_eqExt.fv g h i j) := ⟨fun k => laws_eqExt.mono g h i j k, rfl⟩
theorem laws_eqExt.fv_eq : laws_eqExt.fv g h i j = if g = i then ((laws_eqIntS.fv h j).bind fun e => (if e = true then (some true) else (some false))) else (some false) := by
  refine Is.lim (g := fun k => laws_eqExt.f k g h i j) ?_
  · unfold laws_eqExt.f
    exact is1_ @laws_eqIntS.f_is
end
noncomputable def laws_eqExtS.l0v (e : List (S44)) (g : List (S44)) (h : Int) : Option (Bool) := Lim fun k => laws_eqExtS.l0 k e g h
noncomputable def laws_eqExtS.fv (h : List (S44)) (i : List (S44)) : Option (Bool) := Lim fun k => laws_eqExtS.f k h i
theorem laws_eqExtS.l0_is (e : List (S44)) (g : List (S44)) (h : Int) : Is (fun k => laws_eqExtS.l0 k e g h) (laws_eqExtS.l0v e g h) := ⟨fun k => (laws_eqExtS.mono_l k) e g h, rfl⟩
theorem laws_eqExtS.f_is (h : List (S44)) (i : List (S44)) : Is (fun k => laws_eqExtS.f k h i) (laws_eqExtS.fv h i) := ⟨fun k => laws_eqExtS.mono h i k, rfl⟩
theorem laws_eqExtS.l0v_eq (e : List (S44)) (g : List (S44)) (h : Int) : laws_eqExtS.l0v e g h = if h < (e.length : Int) then (if 0 ≤ h then (if h < (g.length : Int) then ((laws_eqExt.fv ((rd_T44 e h).f0) ((rd_T44 e h).f1) ((rd_T44 g h).f0) ((rd_T44 g h).f1)).bind fun i => (if i = true then (laws_eqExtS.l0v e g (wrap64 (h + 1))) else (some false))) else (none)) else (none)) else (some true) := by
  refine Is.step (laws_eqExtS.l0_is e g h).mo (fun k => by rw [laws_eqExtS.l0]) ?_
  exact is2_ @laws_eqExt.f_is @laws_eqExtS.l0_is
theorem laws_eqExtS.fv_eq (h : List (S44)) (i : List (S44)) : laws_eqExtS.fv h i = if (h.length : Int) = (i.length : Int) then (laws_eqExtS.l0v h i 0) else (some false) := by
  refine Is.lim (g := fun k => laws_eqExtS.f k h i) ?_
  · unfold laws_eqExtS.f
    exact is1_ @laws_eqExtS.l0_is
section
variable (h : List Int) (i : List (S44)) (j : List Int) (l : List (S44))
noncomputable def laws_eqHello.fv := Lim fun k => laws_eqHello.f k h i j l
theorem laws_eqHello.f_is : Is (fun k => laws_eqHello.f k h i j l) (laws_eqHello.fv h i j l) := ⟨fun k => laws_eqHello.mono h i j l k, rfl⟩
theorem laws_eqHello.fv_eq : laws_eqHello.fv h i j l = (laws_eqIntS.fv h j).bind fun e => (if e = true then ((laws_eqExtS.fv i l).bind fun g => (if g = true then (some true) else (some false))) else (some false)) := by
  refine Is.lim (g := fun k => laws_eqHello.f k h i j l) ?_
  · unfold laws_eqHello.f
    exact is2_ @laws_eqExtS.f_is @laws_eqIntS.f_is
end
section
variable (m : Int) (n o : List Int) (p : Bool) (q : Int) (r s : List Int) (t : Bool)
noncomputable def laws_eqBox.fv := Lim fun k => laws_eqBox.f k m n o p q r s t
theorem laws_eqBox.f_is : Is (fun k => laws_eqBox.f k m n o p q r s t) (laws_eqBox.fv m n o p q r s t) := ⟨fun k => laws_eqBox.mono m n o p q r s t k, rfl⟩
theorem laws_eqBox.fv_eq : laws_eqBox.fv m n o p q r s t = if m = q then ((laws_eqIntS.fv n r).bind fun j => (if j = true then ((laws_eqIntS.fv o s).bind fun l => (if l = true then (if p = true then (if t = true then (some true) else (some false)) else (if t = true then (some false) else (some true))) else (some false))) else (some false))) else (some false) := by
  refine Is.lim (g := fun k => laws_eqBox.f k m n o p q r s t) ?_
  · unfold laws_eqBox.f
    exact is1_ @laws_eqIntS.f_is
end
end Go.Proofs.Ytibmehnippjakaa.Print

/- Written by a program of this session (limx.py): the equations of what the printed functions come to. No condition. -/
namespace Go.Proofs.Ytibmehnippjakaa.Print
open Go.RowKit Go.Proofs.YtibmehnippjakaaW.PrintWords Go.Proofs.YtibmehnippjakaaW.PrintLast Go.Proofs.Ytibmehnippjakaa.Base
set_option linter.unusedVariables false
set_option maxRecDepth 20000
noncomputable def laws_eqBoxS.l0v (e : List (S59)) (g : List (S59)) (h : Int) : Option (Bool) := Lim fun k => laws_eqBoxS.l0 k e g h
noncomputable def laws_eqBoxS.fv (h : List (S59)) (e : List (S59)) : Option (Bool) := Lim fun k => laws_eqBoxS.f k h e
theorem laws_eqBoxS.l0_is (e : List (S59)) (g : List (S59)) (h : Int) : Is (fun k => laws_eqBoxS.l0 k e g h) (laws_eqBoxS.l0v e g h) := ⟨fun k => (laws_eqBoxS.mono_l k) e g h, rfl⟩
theorem laws_eqBoxS.f_is (h : List (S59)) (e : List (S59)) : Is (fun k => laws_eqBoxS.f k h e) (laws_eqBoxS.fv h e) := ⟨fun k => laws_eqBoxS.mono h e k, rfl⟩
theorem laws_eqBoxS.l0v_eq (e : List (S59)) (g : List (S59)) (h : Int) : laws_eqBoxS.l0v e g h = if h < (e.length : Int) then (if 0 ≤ h then (if h < (g.length : Int) then ((laws_eqBox.fv ((rd_T59 e h).f0) ((rd_T59 e h).f1) ((rd_T59 e h).f2) ((rd_T59 e h).f3) ((rd_T59 g h).f0) ((rd_T59 g h).f1) ((rd_T59 g h).f2) ((rd_T59 g h).f3)).bind fun d => (if d = true then (laws_eqBoxS.l0v e g (wrap64 (h + 1))) else (some false))) else (none)) else (none)) else (some true) := by
  refine Is.step (laws_eqBoxS.l0_is e g h).mo (fun k => by rw [laws_eqBoxS.l0]) ?_
  exact is2_ @laws_eqBox.f_is @laws_eqBoxS.l0_is
theorem laws_eqBoxS.fv_eq (h : List (S59)) (e : List (S59)) : laws_eqBoxS.fv h e = if (h.length : Int) = (e.length : Int) then (laws_eqBoxS.l0v h e 0) else (some false) := by
  refine Is.lim (g := fun k => laws_eqBoxS.f k h e) ?_
  · unfold laws_eqBoxS.f
    exact is1_ @laws_eqBoxS.l0_is
section
variable (n o : List Int) (p : List (S59)) (q : Int) (r s : List Int) (t : List (S59)) (u : Int)
noncomputable def laws_eqEndpoint.fv := Lim fun k => laws_eqEndpoint.f k n o p q r s t u
theorem laws_eqEndpoint.f_is : Is (fun k => laws_eqEndpoint.f k n o p q r s t u) (laws_eqEndpoint.fv n o p q r s t u) := ⟨fun k => laws_eqEndpoint.mono n o p q r s t u k, rfl⟩
theorem laws_eqEndpoint.fv_eq : laws_eqEndpoint.fv n o p q r s t u = (laws_eqIntS.fv n r).bind fun j => (if j = true then ((laws_eqIntS.fv o s).bind fun l => (if l = true then ((laws_eqBoxS.fv p t).bind fun m => (if m = true then (if q = u then (some true) else (some false)) else (some false))) else (some false))) else (some false)) := by
  refine Is.lim (g := fun k => laws_eqEndpoint.f k n o p q r s t u) ?_
  · unfold laws_eqEndpoint.f
    exact is2_ @laws_eqBoxS.f_is @laws_eqIntS.f_is
end
section
variable (d : List Int) (e f : Int)
noncomputable def laws_markIntS.l0v := Lim fun k => laws_markIntS.l0 k d e f
noncomputable def laws_markIntS.fv := Lim fun k => laws_markIntS.f k d f
theorem laws_markIntS.l0_is : Is (fun k => laws_markIntS.l0 k d e f) (laws_markIntS.l0v d e f) := ⟨fun k => (laws_markIntS.mono_l k) d e f, rfl⟩
theorem laws_markIntS.f_is : Is (fun k => laws_markIntS.f k d f) (laws_markIntS.fv d f) := ⟨fun k => laws_markIntS.mono d f k, rfl⟩
theorem laws_markIntS.l0v_eq : laws_markIntS.l0v d e f = if f < (d.length : Int) then (if 0 ≤ f then (laws_markIntS.l0v (d.set (f : Int).toNat e) (wrap64 (e + 1)) (wrap64 (f + 1))) else (none)) else (some (e, d)) := by
  refine Is.step (laws_markIntS.l0_is d e f).mo (fun k => by rw [laws_markIntS.l0]) ?_
  exact is1_ @laws_markIntS.l0_is
theorem laws_markIntS.fv_eq : laws_markIntS.fv d f = laws_markIntS.l0v d f 0 := by
  refine Is.lim (g := fun k => laws_markIntS.f k d f) ?_
  · unfold laws_markIntS.f
    exact is1_ @laws_markIntS.l0_is
end
noncomputable def laws_markExtS.l0v (e : List (S44)) (g : Int) (h : Int) : Option (Int × List (S44)) := Lim fun k => laws_markExtS.l0 k e g h
noncomputable def laws_markExtS.fv (h : List (S44)) (i : Int) : Option (Int × List (S44)) := Lim fun k => laws_markExtS.f k h i
theorem laws_markExtS.l0_is (e : List (S44)) (g : Int) (h : Int) : Is (fun k => laws_markExtS.l0 k e g h) (laws_markExtS.l0v e g h) := ⟨fun k => (laws_markExtS.mono_l k) e g h, rfl⟩
theorem laws_markExtS.f_is (h : List (S44)) (i : Int) : Is (fun k => laws_markExtS.f k h i) (laws_markExtS.fv h i) := ⟨fun k => laws_markExtS.mono h i k, rfl⟩
theorem laws_markExtS.l0v_eq (e : List (S44)) (g : Int) (h : Int) : laws_markExtS.l0v e g h = if h < (e.length : Int) then (if 0 ≤ h then ((laws_markIntS.fv (rd_T44 e h).f1 (wrap64 (g + 1))).bind fun i => (laws_markExtS.l0v (e.set (h : Int).toNat (⟨g, i.2⟩ : S44)) i.1 (wrap64 (h + 1)))) else (none)) else (some (g, e)) := by
  refine Is.step (laws_markExtS.l0_is e g h).mo (fun k => by rw [laws_markExtS.l0]) ?_
  exact is2_ @laws_markExtS.l0_is @laws_markIntS.f_is
theorem laws_markExtS.fv_eq (h : List (S44)) (i : Int) : laws_markExtS.fv h i = laws_markExtS.l0v h i 0 := by
  refine Is.lim (g := fun k => laws_markExtS.f k h i) ?_
  · unfold laws_markExtS.f
    exact is1_ @laws_markExtS.l0_is
section
variable (g : List Int) (h : List (S44)) (i : Int)
noncomputable def laws_markHello.fv := Lim fun k => laws_markHello.f k g h i
theorem laws_markHello.f_is : Is (fun k => laws_markHello.f k g h i) (laws_markHello.fv g h i) := ⟨fun k => laws_markHello.mono g h i k, rfl⟩
theorem laws_markHello.fv_eq : laws_markHello.fv g h i = (laws_markIntS.fv g i).bind fun b => ((laws_markExtS.fv h b.1).bind fun c => (some (c.1, b.2, c.2))) := by
  refine Is.lim (g := fun k => laws_markHello.f k g h i) ?_
  · unfold laws_markHello.f
    exact is2_ @laws_markExtS.f_is @laws_markIntS.f_is
end
end Go.Proofs.Ytibmehnippjakaa.Print

/- Written by a program of this session (limx.py): the equations of what the printed functions come to. No condition. -/
namespace Go.Proofs.Ytibmehnippjakaa.Print
open Go.RowKit Go.Proofs.YtibmehnippjakaaW.PrintWords Go.Proofs.YtibmehnippjakaaW.PrintLast Go.Proofs.Ytibmehnippjakaa.Base
set_option linter.unusedVariables false
set_option maxRecDepth 20000
section
variable (d : List Int) (e f : Int)
noncomputable def laws_heldIntS.l0v := Lim fun k => laws_heldIntS.l0 k d e f
noncomputable def laws_heldIntS.fv := Lim fun k => laws_heldIntS.f k d f
theorem laws_heldIntS.l0_is : Is (fun k => laws_heldIntS.l0 k d e f) (laws_heldIntS.l0v d e f) := ⟨fun k => (laws_heldIntS.mono_l k) d e f, rfl⟩
theorem laws_heldIntS.f_is : Is (fun k => laws_heldIntS.f k d f) (laws_heldIntS.fv d f) := ⟨fun k => laws_heldIntS.mono d f k, rfl⟩
theorem laws_heldIntS.l0v_eq : laws_heldIntS.l0v d e f = if f < (d.length : Int) then (if 0 ≤ f then (if (rd d f) = e then (laws_heldIntS.l0v d (wrap64 (e + 1)) (wrap64 (f + 1))) else (some (-1))) else (none)) else (some e) := by
  refine Is.step (laws_heldIntS.l0_is d e f).mo (fun k => by rw [laws_heldIntS.l0]) ?_
  exact is1_ @laws_heldIntS.l0_is
theorem laws_heldIntS.fv_eq : laws_heldIntS.fv d f = laws_heldIntS.l0v d f 0 := by
  refine Is.lim (g := fun k => laws_heldIntS.f k d f) ?_
  · unfold laws_heldIntS.f
    exact is1_ @laws_heldIntS.l0_is
end
noncomputable def laws_heldExtS.l0v (e : List (S44)) (g : Int) (h : Int) : Option (Int) := Lim fun k => laws_heldExtS.l0 k e g h
noncomputable def laws_heldExtS.fv (h : List (S44)) (i : Int) : Option (Int) := Lim fun k => laws_heldExtS.f k h i
theorem laws_heldExtS.l0_is (e : List (S44)) (g : Int) (h : Int) : Is (fun k => laws_heldExtS.l0 k e g h) (laws_heldExtS.l0v e g h) := ⟨fun k => (laws_heldExtS.mono_l k) e g h, rfl⟩
theorem laws_heldExtS.f_is (h : List (S44)) (i : Int) : Is (fun k => laws_heldExtS.f k h i) (laws_heldExtS.fv h i) := ⟨fun k => laws_heldExtS.mono h i k, rfl⟩
theorem laws_heldExtS.l0v_eq (e : List (S44)) (g : Int) (h : Int) : laws_heldExtS.l0v e g h = if h < (e.length : Int) then (if 0 ≤ h then (if ((rd_T44 e h).f0) = g then ((laws_heldIntS.fv ((rd_T44 e h).f1) (wrap64 (g + 1))).bind fun i => (if i < 0 then (some (-1)) else (laws_heldExtS.l0v e i (wrap64 (h + 1))))) else (some (-1))) else (none)) else (some g) := by
  refine Is.step (laws_heldExtS.l0_is e g h).mo (fun k => by rw [laws_heldExtS.l0]) ?_
  exact is2_ @laws_heldExtS.l0_is @laws_heldIntS.f_is
theorem laws_heldExtS.fv_eq (h : List (S44)) (i : Int) : laws_heldExtS.fv h i = laws_heldExtS.l0v h i 0 := by
  refine Is.lim (g := fun k => laws_heldExtS.f k h i) ?_
  · unfold laws_heldExtS.f
    exact is1_ @laws_heldExtS.l0_is
section
variable (g : List Int) (h : List (S44)) (i : Int)
noncomputable def laws_heldHello.fv := Lim fun k => laws_heldHello.f k g h i
theorem laws_heldHello.f_is : Is (fun k => laws_heldHello.f k g h i) (laws_heldHello.fv g h i) := ⟨fun k => laws_heldHello.mono g h i k, rfl⟩
theorem laws_heldHello.fv_eq : laws_heldHello.fv g h i = (laws_heldIntS.fv g i).bind fun a => (if a < 0 then (some (-1)) else ((laws_heldExtS.fv h a).bind fun b => (if b < 0 then (some (-1)) else (some b)))) := by
  refine Is.lim (g := fun k => laws_heldHello.f k g h i) ?_
  · unfold laws_heldHello.f
    exact is2_ @laws_heldExtS.f_is @laws_heldIntS.f_is
end
end Go.Proofs.Ytibmehnippjakaa.Print

/- Written by a program of this session (limx.py): the equations of what the printed functions come to. No condition. -/
namespace Go.Proofs.Ytibmehnippjakaa.Print
open Go.RowKit Go.Proofs.YtibmehnippjakaaW.PrintWords Go.Proofs.YtibmehnippjakaaW.PrintLast Go.Proofs.Ytibmehnippjakaa.Base
set_option linter.unusedVariables false
set_option maxRecDepth 20000
noncomputable def laws_FnExactHelloOf.j0v (s : Int) (t : Bool) (u : List Int) (v : List Int) (w : List (S55)) (x : Int) (y : List Int) (z : List (S44)) (A : List Int) (B : List (S44)) : Option (Bool) := Lim fun k => laws_FnExactHelloOf.j0 k s t u v w x y z A B
noncomputable def laws_FnExactHelloOf.fv (v : List Int) (w : List Int) (x : List (S55)) (u : Int) (t : Int) : Option (Bool) := Lim fun k => laws_FnExactHelloOf.f k v w x u t
theorem laws_FnExactHelloOf.j0_is (s : Int) (t : Bool) (u : List Int) (v : List Int) (w : List (S55)) (x : Int) (y : List Int) (z : List (S44)) (A : List Int) (B : List (S44)) : Is (fun k => laws_FnExactHelloOf.j0 k s t u v w x y z A B) (laws_FnExactHelloOf.j0v s t u v w x y z A B) := ⟨fun k => (laws_FnExactHelloOf.mono_l k) s t u v w x y z A B, rfl⟩
theorem laws_FnExactHelloOf.f_is (v : List Int) (w : List Int) (x : List (S55)) (u : Int) (t : Int) : Is (fun k => laws_FnExactHelloOf.f k v w x u t) (laws_FnExactHelloOf.fv v w x u t) := ⟨fun k => laws_FnExactHelloOf.mono v w x u t k, rfl⟩
theorem laws_FnExactHelloOf.j0v_eq (s : Int) (t : Bool) (u : List Int) (v : List Int) (w : List (S55)) (x : Int) (y : List Int) (z : List (S44)) (A : List Int) (B : List (S44)) : laws_FnExactHelloOf.j0v s t u v w x y z A B = if t = true then (some false) else ((laws_markHello.fv A B 1).bind fun a => ((laws_heldHello.fv a.2.1 a.2.2 1).bind fun n => (if n < 0 then (some false) else (if n = a.1 then ((laws_toEndpoint.fv u v w x).bind fun b => ((impl_HelloOf.fv b.1 b.2.1 b.2.2.1 b.2.2.2 s).bind fun c => ((laws_eqHello.fv c.1 c.2 y z).bind fun p => (if p = true then ((laws_heldHello.fv a.2.1 a.2.2 1).bind fun o => (if o < 0 then (some false) else (if o = a.1 then (some true) else (some false)))) else (some false))))) else (some false))))) := by
  refine Is.step (laws_FnExactHelloOf.j0_is s t u v w x y z A B).mo (fun k => by rw [laws_FnExactHelloOf.j0]) ?_
  exact is5_ @impl_HelloOf.f_is @laws_eqHello.f_is @laws_heldHello.f_is @laws_markHello.f_is @laws_toEndpoint.f_is
theorem laws_FnExactHelloOf.fv_eq (v : List Int) (w : List Int) (x : List (S55)) (u : Int) (t : Int) : laws_FnExactHelloOf.fv v w x u t = (laws_szEndpoint.fv v w x u 1048576).bind fun A => (if A < 0 then (some true) else ((laws_toEndpoint.fv v w x u).bind fun y => ((spec_HelloOf.fv y.1 y.2.1 y.2.2.1 y.2.2.2 t).bind fun b => ((laws_toEndpoint.fv v w x u).bind fun a => ((impl_HelloOf.fv a.1 a.2.1 a.2.2.1 a.2.2.2 t).bind fun c => ((laws_eqHello.fv c.1 c.2 b.1 b.2).bind fun B => (if B = true then ((laws_toEndpoint.fv v w x u).bind fun z => ((laws_eqEndpoint.fv a.1 a.2.1 a.2.2.1 a.2.2.2 z.1 z.2.1 z.2.2.1 z.2.2.2).bind fun n => (if n = true then ((laws_markEndpoint.f a.1 a.2.1 a.2.2.1 a.2.2.2 1).bind fun o => (if o < 0 then (laws_FnExactHelloOf.j0v t true v w x u b.1 b.2 c.1 c.2) else ((laws_eqHello.fv c.1 c.2 b.1 b.2).bind fun p => (laws_FnExactHelloOf.j0v t (!p) v w x u b.1 b.2 c.1 c.2)))) else (some false)))) else (some false)))))))) := by
  refine Is.lim (g := fun k => laws_FnExactHelloOf.f k v w x u t) ?_
  · unfold laws_FnExactHelloOf.f
    exact is7_ @impl_HelloOf.f_is @laws_FnExactHelloOf.j0_is @laws_eqEndpoint.f_is @laws_eqHello.f_is @laws_szEndpoint.f_is @laws_toEndpoint.f_is @spec_HelloOf.f_is
end Go.Proofs.Ytibmehnippjakaa.Print
