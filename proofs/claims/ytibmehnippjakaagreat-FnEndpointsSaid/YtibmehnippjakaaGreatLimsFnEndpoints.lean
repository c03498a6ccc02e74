/- Written by a program of this session (merge.py): texts that the law's plain side leans on, laid together. No condition. -/
import Derived.Test.YtibmehnippjakaaGreatWWords
import Derived.Test.YtibmehnippjakaaGreatPrint1
import Derived.Test.YtibmehnippjakaaGreatPrint4
import Derived.Test.YtibmehnippjakaaGreatPrint6
import Derived.Test.YtibmehnippjakaaGreatPrint8
import Derived.Test.YtibmehnippjakaaGreatPrint10
import Derived.Test.YtibmehnippjakaaGreatPrint12
import Derived.Test.YtibmehnippjakaaGreatPrint15
import Derived.Test.YtibmehnippjakaaGreatPrint17
import Derived.Test.YtibmehnippjakaaGreatPrint19
import Derived.Test.YtibmehnippjakaaGreatPrint20
import Derived.Test.YtibmehnippjakaaGreatPrint21
import Derived.Test.YtibmehnippjakaaGreatPrint23
/- What a function with rounds comes to when it has rounds enough, as an option: its equations hold without rounds. No condition. -/
namespace Go.Proofs.YtibmehnippjakaaGreat.Base
open Go.RowKit Go.Proofs.YtibmehnippjakaaGreatW.PrintWords
def Mo {α : Type} (g : Nat → Option α) : Prop := ∀ k, LeO (g k) (g (k + 1))
theorem Nw {α : Type} {g : Nat → Option α} (h : Mo g) {k k' : Nat} (hk : k ≤ k') {r : α} (hr : g k = some r) : g k' = some r := UU h hk hr
open Classical in
noncomputable def Lim {α : Type} (g : Nat → Option α) : Option α := if h : ∃ r, ∃ k, g k = some r then some (Classical.choose h) else none
theorem N1 {α : Type} {g : Nat → Option α} (h : Mo g) {k : Nat} {r : α} (hr : g k = some r) : Lim g = some r := by
 have hx : ∃ r, ∃ k, g k = some r := ⟨r, k, hr⟩
 unfold Lim
 rw [dif_pos hx]
 obtain ⟨k', hk'⟩ := Classical.choose_spec hx
 have h1 := Nw h (Nat.le_max_left k k') hr
 have h2 := Nw h (Nat.le_max_right k k') hk'
 rw [h1] at h2
 exact h2.symm
theorem QC {α : Type} {g : Nat → Option α} {r : α} (h : Lim g = some r) : ∃ k, g k = some r := by
 unfold Lim at h
 split at h
 · rename_i hx
   obtain rfl := Option.some.inj h
   exact Classical.choose_spec hx
 · cases h
theorem NS {α : Type} {g : Nat → Option α} (h : Lim g = none) (k : Nat) : g k = none := by
 cases hk : g k with
 | none => rfl
 | some r =>
  unfold Lim at h
  rw [dif_pos ⟨r, k, hk⟩] at h
  cases h
theorem LL {α : Type} {g : Nat → Option α} (h : ∀ k, g k = none) : Lim g = none := by
 unfold Lim
 rw [dif_neg]
 rintro ⟨r, k, hk⟩
 rw [h k] at hk
 cases hk
structure Is {α : Type} (g : Nat → Option α) (v : Option α) : Prop where
 mo : Mo g
 lim : Lim g = v
theorem Is.now {α : Type} (v : Option α) : Is (fun _ => v) v := by
 refine ⟨fun _ => LeO.refl _, ?_⟩
 cases v with
 | none => exact LL fun _ => rfl
 | some r => exact N1 (g := fun _ => some r) (fun _ => LeO.refl _) (k := 0) rfl
theorem Is.ite {α : Type} {c : Prop} [Decidable c] {g h : Nat → Option α} {a b : Option α} (hg : Is g a) (hh : Is h b) : Is (fun k => if c then g k else h k) (if c then a else b) := by
 by_cases hc : c
 · simp only [if_pos hc]
   exact hg
 · simp only [if_neg hc]
   exact hh
theorem Is.bind {α β : Type} {g : Nat → Option α} {f : Nat → α → Option β} {a : Option α} {b : α → Option β} (hg : Is g a) (hf : ∀ x, Is (fun k => f k x) (b x)) : Is (fun k => (g k).bind (f k)) (a.bind b) := by
 have hm : Mo (fun k => (g k).bind (f k)) := fun k => LeO.bind (hg.mo k) (fun x => (hf x).mo k)
 refine ⟨hm, ?_⟩
 cases ha : a with
 | none =>
  refine LL fun k => ?_
  rw [NS (hg.lim.trans ha) k]
  rfl
 | some x =>
  obtain ⟨k, hk⟩ := QC (hg.lim.trans ha)
  show _ = b x
  cases hb : b x with
  | none =>
   refine LL fun k' => ?_
   cases hx : (g k').bind (f k') with
   | none => rfl
   | some r =>
    have h1 := Nw hm (Nat.le_max_left k' k) hx
    have h2 := Nw hg.mo (Nat.le_max_right k' k) hk
    simp only [h2, Option.bind_some] at h1
    rw [NS ((hf x).lim.trans hb)] at h1
    cases h1
  | some r =>
   obtain ⟨k', hk'⟩ := QC ((hf x).lim.trans hb)
   refine N1 hm (k := max k k') ?_
   simp only [Nw hg.mo (Nat.le_max_left k k') hk, Option.bind_some]
   exact Nw (hf x).mo (Nat.le_max_right k k') hk'
theorem Is.step {α : Type} {g b : Nat → Option α} {v : Option α} (hg : Mo g) (h : ∀ k, g (k + 1) = b k) (hb : Is b v) : Lim g = v := by
 rw [← hb.lim]
 cases hx : Lim g with
 | none =>
  symm
  refine LL fun k => ?_
  rw [← h k]
  exact NS hx _
 | some r =>
  obtain ⟨k, hk⟩ := QC hx
  symm
  refine N1 hb.mo (k := k) ?_
  rw [← h k]
  exact Nw hg (Nat.le_succ k) hk
theorem ends {α : Type} {g : Nat → Option α} {r : α} (h : Lim g = some r) : ∃ k, g k = some r := QC h
theorem Is.fe {α : Type} {g b : Nat → Option α} {v : Option α} (h : ∀ k, g k = b k) (hb : Is b v) : Lim g = v := by
 have e : g = b := funext h
 rw [e]
 exact Is.lim hb
theorem ZU {q : Prop} (e : q := by repeat' first | with_reducible exact Is.now _ | with_reducible refine Is.ite ?_ ?_ | with_reducible refine Is.bind ?_ (fun _ => ?_)) : q := e
theorem FQ {q p0 : Prop} (h0_ : p0) (e : p0 → q := by intro h0_; repeat' first | (with_reducible apply h0_) | with_reducible exact Is.now _ | with_reducible refine Is.ite ?_ ?_ | with_reducible refine Is.bind ?_ (fun _ => ?_)) : q := e h0_
theorem Hu {q p0 p1 : Prop} (h0_ : p0) (h1_ : p1) (e : p0 → p1 → q := by intro h0_ h1_; repeat' first | (with_reducible apply h0_) | (with_reducible apply h1_) | with_reducible exact Is.now _ | with_reducible refine Is.ite ?_ ?_ | with_reducible refine Is.bind ?_ (fun _ => ?_)) : q := e h0_ h1_
theorem NJ {q p0 p1 p2 : Prop} (h0_ : p0) (h1_ : p1) (h2_ : p2) (e : p0 → p1 → p2 → q := by intro h0_ h1_ h2_; repeat' first | (with_reducible apply h0_) | (with_reducible apply h1_) | (with_reducible apply h2_) | with_reducible exact Is.now _ | with_reducible refine Is.ite ?_ ?_ | with_reducible refine Is.bind ?_ (fun _ => ?_)) : q := e h0_ h1_ h2_
theorem Ut {q p0 p1 p2 p3 : Prop} (h0_ : p0) (h1_ : p1) (h2_ : p2) (h3_ : p3) (e : p0 → p1 → p2 → p3 → q := by intro h0_ h1_ h2_ h3_; repeat' first | (with_reducible apply h0_) | (with_reducible apply h1_) | (with_reducible apply h2_) | (with_reducible apply h3_) | with_reducible exact Is.now _ | with_reducible refine Is.ite ?_ ?_ | with_reducible refine Is.bind ?_ (fun _ => ?_)) : q := e h0_ h1_ h2_ h3_
theorem ZX {q p0 p1 p2 p3 p4 : Prop} (h0_ : p0) (h1_ : p1) (h2_ : p2) (h3_ : p3) (h4_ : p4) (e : p0 → p1 → p2 → p3 → p4 → q := by intro h0_ h1_ h2_ h3_ h4_; repeat' first | (with_reducible apply h0_) | (with_reducible apply h1_) | (with_reducible apply h2_) | (with_reducible apply h3_) | (with_reducible apply h4_) | with_reducible exact Is.now _ | with_reducible refine Is.ite ?_ ?_ | with_reducible refine Is.bind ?_ (fun _ => ?_)) : q := e h0_ h1_ h2_ h3_ h4_
theorem YG {q p0 p1 p2 p3 p4 p5 : Prop} (h0_ : p0) (h1_ : p1) (h2_ : p2) (h3_ : p3) (h4_ : p4) (h5_ : p5) (e : p0 → p1 → p2 → p3 → p4 → p5 → q := by intro h0_ h1_ h2_ h3_ h4_ h5_; repeat' first | (with_reducible apply h0_) | (with_reducible apply h1_) | (with_reducible apply h2_) | (with_reducible apply h3_) | (with_reducible apply h4_) | (with_reducible apply h5_) | with_reducible exact Is.now _ | with_reducible refine Is.ite ?_ ?_ | with_reducible refine Is.bind ?_ (fun _ => ?_)) : q := e h0_ h1_ h2_ h3_ h4_ h5_
end Go.Proofs.YtibmehnippjakaaGreat.Base

/- Written by a program of this session (limx.py): the equations of what the printed functions come to. No condition. -/
namespace Go.Proofs.YtibmehnippjakaaGreat.Print
open Go.RowKit Go.Proofs.YtibmehnippjakaaGreatW.PrintWords Go.Proofs.YtibmehnippjakaaGreatW.PrintLast Go.Proofs.YtibmehnippjakaaGreat.Base
set_option linter.unusedVariables false
set_option maxRecDepth 20000
noncomputable def Ah.l0v (g : List Int) (h : List Int) (i : Int) (j : Int) : Option (Bool) := Lim fun k => Ah.l0 k g h i j
noncomputable def Ah.fv (j : List Int) : Option (Bool) := Lim fun k => Ah.f k j
theorem Ah.l0_is (g : List Int) (h : List Int) (i : Int) (j : Int) : Is (fun k => Ah.l0 k g h i j) (Ah.l0v g h i j) := ⟨fun k => (Ah.mono_l k) g h i j, rfl⟩
theorem Ah.f_is (j : List Int) : Is (fun k => Ah.f k j) (Ah.fv j) := ⟨fun k => Ah.mono j k, rfl⟩
theorem Ah.l0v_eq (g : List Int) (h : List Int) (i : Int) (j : Int) : Ah.l0v g h i j = if j < i then (if 0 ≤ j then (if j < (h.length : Int) then ((Cb.f (rd h j) 1 9).bind fun b => (if b = true then (if j > 0 then (if 0 ≤ (wrap64 (j - 1)) then (if (wrap64 (j - 1)) < (g.length : Int) then (if (rd g (wrap64 (j - 1))) ≥ (rd h j) then (some false) else (Ah.l0v g h i (wrap64 (j + 1)))) else (none)) else (none)) else (Ah.l0v g h i (wrap64 (j + 1)))) else (some false))) else (none)) else (none)) else (some (decide ((g.length : Int) > 0))) := by
  refine Is.step (Ah.l0_is g h i j).mo (fun k => by rw [Ah.l0]) ?_
  exact FQ @Ah.l0_is
theorem Ah.fv_eq (j : List Int) : Ah.fv j = Ah.l0v j j (j.length : Int) 0 := Is.fe (fun k => by rw [Ah.f]) (FQ @Ah.l0_is)
noncomputable def AK.l0v (h : List Int) (i : Int) (j : Int) (l : Int) (m : Int) : Option (Int) := Lim fun k => AK.l0 k h i j l m
noncomputable def AK.fv (j : List Int) (l : Int) (m : Int) : Option (Int) := Lim fun k => AK.f k j l m
theorem AK.l0_is (h : List Int) (i : Int) (j : Int) (l : Int) (m : Int) : Is (fun k => AK.l0 k h i j l m) (AK.l0v h i j l m) := ⟨fun k => (AK.mono_l k) h i j l m, rfl⟩
theorem AK.f_is (j : List Int) (l : Int) (m : Int) : Is (fun k => AK.f k j l m) (AK.fv j l m) := ⟨fun k => AK.mono j l m k, rfl⟩
theorem AK.l0v_eq (h : List Int) (i : Int) (j : Int) (l : Int) (m : Int) : AK.l0v h i j l m = if j < i then (if 0 ≤ j then (if j < (h.length : Int) then ((HE.f (rd h j) l m).bind fun d => (if d = true then (some j) else (AK.l0v h i (wrap64 (j + 1)) l m))) else (none)) else (none)) else (some (-1)) := by
  refine Is.step (AK.l0_is h i j l m).mo (fun k => by rw [AK.l0]) ?_
  exact FQ @AK.l0_is
theorem AK.fv_eq (j : List Int) (l : Int) (m : Int) : AK.fv j l m = AK.l0v j (j.length : Int) 0 l m := Is.fe (fun k => by rw [AK.f]) (FQ @AK.l0_is)
section
variable (e : List Int) (g h : Int)
noncomputable def Ao.fv := Lim fun k => Ao.f k e g h
theorem Ao.f_is : Is (fun k => Ao.f k e g h) (Ao.fv e g h) := ⟨fun k => Ao.mono e g h k, rfl⟩
theorem Ao.fv_eq : Ao.fv e g h = (AK.fv e g h).bind fun c => (some (decide (c ≥ 0))) := Is.fe (fun k => by rw [Ao.f]) (FQ @AK.f_is)
end
section
variable (e : List Int) (g h : Int)
noncomputable def Bn.fv := Lim fun k => Bn.f k e g h
theorem Bn.f_is : Is (fun k => Bn.f k e g h) (Bn.fv e g h) := ⟨fun k => Bn.mono e g h k, rfl⟩
theorem Bn.fv_eq : Bn.fv e g h = (Ao.fv e g h).bind fun a => (some (!a)) := Is.fe (fun k => by rw [Bn.f]) (FQ @Ao.f_is)
end
noncomputable def Bm.l0v (g : List Int) (h : List Int) (i : Int) (j : Int) : Option (Bool) := Lim fun k => Bm.l0 k g h i j
noncomputable def Bm.fv (j : List Int) : Option (Bool) := Lim fun k => Bm.f k j
theorem Bm.l0_is (g : List Int) (h : List Int) (i : Int) (j : Int) : Is (fun k => Bm.l0 k g h i j) (Bm.l0v g h i j) := ⟨fun k => (Bm.mono_l k) g h i j, rfl⟩
theorem Bm.f_is (j : List Int) : Is (fun k => Bm.f k j) (Bm.fv j) := ⟨fun k => Bm.mono j k, rfl⟩
theorem Bm.l0v_eq (g : List Int) (h : List Int) (i : Int) (j : Int) : Bm.l0v g h i j = if j < i then (if 0 ≤ j then (if j < (h.length : Int) then (if j > 0 then (if 0 ≤ (wrap64 (j - 1)) then (if (wrap64 (j - 1)) < (g.length : Int) then (if (rd g (wrap64 (j - 1))) ≥ (rd h j) then (some false) else (Bm.l0v g h i (wrap64 (j + 1)))) else (none)) else (none)) else (Bm.l0v g h i (wrap64 (j + 1)))) else (none)) else (none)) else ((Bn.fv g 0 255).bind fun b => (some b)) := by
  refine Is.step (Bm.l0_is g h i j).mo (fun k => by rw [Bm.l0]) ?_
  exact Hu @Bn.f_is @Bm.l0_is
theorem Bm.fv_eq (j : List Int) : Bm.fv j = Bm.l0v j j (j.length : Int) 0 := Is.fe (fun k => by rw [Bm.f]) (FQ @Bm.l0_is)
noncomputable def AO.l0v (e : List Int) (g : Int) (h : Int) : Option (Int) := Lim fun k => AO.l0 k e g h
noncomputable def AO.fv (h : List Int) : Option (Int) := Lim fun k => AO.f k h
theorem AO.l0_is (e : List Int) (g : Int) (h : Int) : Is (fun k => AO.l0 k e g h) (AO.l0v e g h) := ⟨fun k => (AO.mono_l k) e g h, rfl⟩
theorem AO.f_is (h : List Int) : Is (fun k => AO.f k h) (AO.fv h) := ⟨fun k => AO.mono h k, rfl⟩
theorem AO.l0v_eq (e : List Int) (g : Int) (h : Int) : AO.l0v e g h = if h < g then (if 0 ≤ h then (if h < (e.length : Int) then ((GU.f (rd e h)).bind fun b => (if b = true then (some h) else (AO.l0v e g (wrap64 (h + 1))))) else (none)) else (none)) else (some (-1)) := by
  refine Is.step (AO.l0_is e g h).mo (fun k => by rw [AO.l0]) ?_
  exact FQ @AO.l0_is
theorem AO.fv_eq (h : List Int) : AO.fv h = AO.l0v h (h.length : Int) 0 := Is.fe (fun k => by rw [AO.f]) (FQ @AO.l0_is)
section
variable (c : List Int)
noncomputable def Ap.fv := Lim fun k => Ap.f k c
theorem Ap.f_is : Is (fun k => Ap.f k c) (Ap.fv c) := ⟨fun k => Ap.mono c k, rfl⟩
theorem Ap.fv_eq : Ap.fv c = (AO.fv c).bind fun a => (some (decide (a ≥ 0))) := Is.fe (fun k => by rw [Ap.f]) (FQ @AO.f_is)
end
section
variable (c : List Int)
noncomputable def DJ.fv := Lim fun k => DJ.f k c
theorem DJ.f_is : Is (fun k => DJ.f k c) (DJ.fv c) := ⟨fun k => DJ.mono c k, rfl⟩
theorem DJ.fv_eq : DJ.fv c = (Ap.fv c).bind fun a => (some a) := Is.fe (fun k => by rw [DJ.f]) (FQ @Ap.f_is)
end
end Go.Proofs.YtibmehnippjakaaGreat.Print

/- Written by a program of this session (limx.py): the equations of what the printed functions come to. No condition. -/
namespace Go.Proofs.YtibmehnippjakaaGreat.Print
open Go.RowKit Go.Proofs.YtibmehnippjakaaGreatW.PrintWords Go.Proofs.YtibmehnippjakaaGreatW.PrintLast Go.Proofs.YtibmehnippjakaaGreat.Base
set_option linter.unusedVariables false
set_option maxRecDepth 20000
section
variable (i : Int) (j l : List Int) (m : Bool)
noncomputable def EW.fv := Lim fun k => EW.f k i j l m
theorem EW.f_is : Is (fun k => EW.f k i j l m) (EW.fv i j l m) := ⟨fun k => EW.mono i j l m k, rfl⟩
theorem EW.fv_eq : EW.fv i j l m = (Cb.f i 0 9).bind fun d => (if d = true then (if (j.length : Int) ≤ 6 then (if (l.length : Int) ≤ 6 then ((Bn.fv j 0 255).bind fun e => (if e = true then ((Bn.fv l 0 255).bind fun g => (some g)) else (some false))) else (some false)) else (some false)) else (some false)) := Is.fe (fun k => by rw [EW.f]) (FQ @Bn.f_is)
end
section
variable (g : Int) (h i : List Int) (j : Bool)
noncomputable def Di.fv := Lim fun k => Di.f k g h i j
theorem Di.f_is : Is (fun k => Di.f k g h i j) (Di.fv g h i j) := ⟨fun k => Di.mono g h i j k, rfl⟩
theorem Di.fv_eq : Di.fv g h i j = (EW.fv g h i j).bind fun e => (some (!e)) := Is.fe (fun k => by rw [Di.f]) (FQ @EW.f_is)
end
noncomputable def AC.l0v (e : List (S75)) (g : Int) (h : Int) : Option (Int) := Lim fun k => AC.l0 k e g h
noncomputable def AC.fv (h : List (S75)) : Option (Int) := Lim fun k => AC.f k h
theorem AC.l0_is (e : List (S75)) (g : Int) (h : Int) : Is (fun k => AC.l0 k e g h) (AC.l0v e g h) := ⟨fun k => (AC.mono_l k) e g h, rfl⟩
theorem AC.f_is (h : List (S75)) : Is (fun k => AC.f k h) (AC.fv h) := ⟨fun k => AC.mono h k, rfl⟩
theorem AC.l0v_eq (e : List (S75)) (g : Int) (h : Int) : AC.l0v e g h = if h < g then (if 0 ≤ h then (if h < (e.length : Int) then ((Di.fv ((EM e h).f0) ((EM e h).f1) ((EM e h).f2) ((EM e h).f3)).bind fun c => (if c = true then (some h) else (AC.l0v e g (wrap64 (h + 1))))) else (none)) else (none)) else (some (-1)) := by
  refine Is.step (AC.l0_is e g h).mo (fun k => by rw [AC.l0]) ?_
  exact Hu @Di.f_is @AC.l0_is
theorem AC.fv_eq (h : List (S75)) : AC.fv h = AC.l0v h (h.length : Int) 0 := Is.fe (fun k => by rw [AC.f]) (FQ @AC.l0_is)
section
variable (c : List (S75))
noncomputable def Aa.fv := Lim fun k => Aa.f k c
theorem Aa.f_is : Is (fun k => Aa.f k c) (Aa.fv c) := ⟨fun k => Aa.mono c k, rfl⟩
theorem Aa.fv_eq : Aa.fv c = (AC.fv c).bind fun a => (some (decide (a ≥ 0))) := Is.fe (fun k => by rw [Aa.f]) (FQ @AC.f_is)
end
section
variable (l m : List Int) (n : List (S75)) (o : Int)
noncomputable def B9.fv := Lim fun k => B9.f k l m n o
theorem B9.f_is : Is (fun k => B9.f k l m n o) (B9.fv l m n o) := ⟨fun k => B9.mono l m n o k, rfl⟩
theorem B9.fv_eq : B9.fv l m n o = (Ah.fv l).bind fun e => (if e = true then (if (m.length : Int) ≤ 5 then ((Bm.fv m).bind fun g => (if g = true then ((DJ.fv m).bind fun h => (if h = true then (some false) else (if (n.length : Int) ≤ 4 then ((Aa.fv n).bind fun i => (if i = true then (some false) else ((Cb.f o 0 5).bind fun j => (some j)))) else (some false)))) else (some false))) else (some false)) else (some false)) := Is.fe (fun k => by rw [B9.f]) (Ut @Ah.f_is @DJ.f_is @Bm.f_is @Aa.f_is)
end
noncomputable def AG.l0v (g : List (S81)) (h : Int) (i : Int) (j : Int) : Option (Int) := Lim fun k => AG.l0 k g h i j
noncomputable def AG.fv (i : List (S81)) (j : Int) : Option (Int) := Lim fun k => AG.f k i j
theorem AG.l0_is (g : List (S81)) (h : Int) (i : Int) (j : Int) : Is (fun k => AG.l0 k g h i j) (AG.l0v g h i j) := ⟨fun k => (AG.mono_l k) g h i j, rfl⟩
theorem AG.f_is (i : List (S81)) (j : Int) : Is (fun k => AG.f k i j) (AG.fv i j) := ⟨fun k => AG.mono i j k, rfl⟩
theorem AG.l0v_eq (g : List (S81)) (h : Int) (i : Int) (j : Int) : AG.l0v g h i j = if i < h then (if 0 ≤ i then (if i < (g.length : Int) then ((H7.f ((AX g i).f0) ((AX g i).f1) j).bind fun c => (if c = true then (some i) else (AG.l0v g h (wrap64 (i + 1)) j))) else (none)) else (none)) else (some (-1)) := by
  refine Is.step (AG.l0_is g h i j).mo (fun k => by rw [AG.l0]) ?_
  exact FQ @AG.l0_is
theorem AG.fv_eq (i : List (S81)) (j : Int) : AG.fv i j = AG.l0v i (i.length : Int) 0 j := Is.fe (fun k => by rw [AG.f]) (FQ @AG.l0_is)
section
variable (d : List (S81)) (e : Int)
noncomputable def EO.fv := Lim fun k => EO.f k d e
theorem EO.f_is : Is (fun k => EO.f k d e) (EO.fv d e) := ⟨fun k => EO.mono d e k, rfl⟩
theorem EO.fv_eq : EO.fv d e = (AG.fv d e).bind fun a => (some a) := Is.fe (fun k => by rw [EO.f]) (FQ @AG.f_is)
end
end Go.Proofs.YtibmehnippjakaaGreat.Print

/- Written by a program of this session (limx.py): the equations of what the printed functions come to. No condition. -/
namespace Go.Proofs.YtibmehnippjakaaGreat.Print
open Go.RowKit Go.Proofs.YtibmehnippjakaaGreatW.PrintWords Go.Proofs.YtibmehnippjakaaGreatW.PrintLast Go.Proofs.YtibmehnippjakaaGreat.Base
set_option linter.unusedVariables false
set_option maxRecDepth 20000
noncomputable def BE.l0v (i : List (S81)) (j : List (S81)) (l : Int) (m : Int) : Option (Bool) := Lim fun k => BE.l0 k i j l m
noncomputable def BE.fv (m : List (S81)) : Option (Bool) := Lim fun k => BE.f k m
theorem BE.l0_is (i : List (S81)) (j : List (S81)) (l : Int) (m : Int) : Is (fun k => BE.l0 k i j l m) (BE.l0v i j l m) := ⟨fun k => (BE.mono_l k) i j l m, rfl⟩
theorem BE.f_is (m : List (S81)) : Is (fun k => BE.f k m) (BE.fv m) := ⟨fun k => BE.mono m k, rfl⟩
theorem BE.l0v_eq (i : List (S81)) (j : List (S81)) (l : Int) (m : Int) : BE.l0v i j l m = if m < l then (if 0 ≤ m then (if m < (j.length : Int) then ((Cb.f ((AX j m).f0) 0 255).bind fun c => (if c = true then (if m ≤ (i.length : Int) then ((EO.fv (i.take (m : Int).toNat) ((AX j m).f0)).bind fun d => (if d ≥ 0 then (some false) else (if (((AX j m).f1).length : Int) > 4 then (some false) else ((Bn.fv ((AX j m).f1) 0 255).bind fun e => (if e = true then (BE.l0v i j l (wrap64 (m + 1))) else (some false)))))) else (none)) else (some false))) else (none)) else (none)) else (some (decide ((i.length : Int) ≤ 6))) := by
  refine Is.step (BE.l0_is i j l m).mo (fun k => by rw [BE.l0]) ?_
  exact NJ @BE.l0_is @EO.f_is @Bn.f_is
theorem BE.fv_eq (m : List (S81)) : BE.fv m = BE.l0v m m (m.length : Int) 0 := Is.fe (fun k => by rw [BE.f]) (FQ @BE.l0_is)
noncomputable def AN.l0v (h : List (S81)) (i : List (S81)) (j : Int) (l : Int) : Option ((List (S81))) := Lim fun k => AN.l0 k h i j l
noncomputable def AN.fv (l : List (S81)) : Option ((List (S81))) := Lim fun k => AN.f k l
theorem AN.l0_is (h : List (S81)) (i : List (S81)) (j : Int) (l : Int) : Is (fun k => AN.l0 k h i j l) (AN.l0v h i j l) := ⟨fun k => (AN.mono_l k) h i j l, rfl⟩
theorem AN.f_is (l : List (S81)) : Is (fun k => AN.f k l) (AN.fv l) := ⟨fun k => AN.mono l k, rfl⟩
theorem AN.l0v_eq (h : List (S81)) (i : List (S81)) (j : Int) (l : Int) : AN.l0v h i j l = if l < j then (if 0 ≤ l then (if l < (i.length : Int) then ((HJ.f ((AX i l).f0)).bind fun e => (if e = true then ((some (([] : List Int) : List Int)).bind fun b => (if b.length + ((AX i l).f1).length < 17592186044416 then (if h.length < 4398046511104 then (AN.l0v (h ++ [(⟨(AX i l).f0, (b ++ ((AX i l).f1))⟩ : S81)]) i j (wrap64 (l + 1))) else (none)) else (none))) else (AN.l0v h i j (wrap64 (l + 1))))) else (none)) else (none)) else (some h) := by
  refine Is.step (AN.l0_is h i j l).mo (fun k => by rw [AN.l0]) ?_
  exact FQ @AN.l0_is
theorem AN.fv_eq (l : List (S81)) : AN.fv l = AN.l0v (([] : List (S81))) l (l.length : Int) 0 := Is.fe (fun k => by rw [AN.f]) (FQ @AN.l0_is)
section
variable (c : List (S81))
noncomputable def Dc.fv := Lim fun k => Dc.f k c
theorem Dc.f_is : Is (fun k => Dc.f k c) (Dc.fv c) := ⟨fun k => Dc.mono c k, rfl⟩
theorem Dc.fv_eq : Dc.fv c = (AN.fv c).bind fun a => (some a) := Is.fe (fun k => by rw [Dc.f]) (FQ @AN.f_is)
end
end Go.Proofs.YtibmehnippjakaaGreat.Print

/- Written by a program of this session (limx.py): the equations of what the printed functions come to. No condition. -/
namespace Go.Proofs.YtibmehnippjakaaGreat.Print
open Go.RowKit Go.Proofs.YtibmehnippjakaaGreatW.PrintWords Go.Proofs.YtibmehnippjakaaGreatW.PrintLast Go.Proofs.YtibmehnippjakaaGreat.Base
set_option linter.unusedVariables false
set_option maxRecDepth 20000
section
variable (g : Int) (h : List Int) (i j : Int) (l : List Int)
noncomputable def CJ.l0v := Lim fun k => CJ.l0 k g h i j
noncomputable def CJ.fv := Lim fun k => CJ.f k l
theorem CJ.l0_is : Is (fun k => CJ.l0 k g h i j) (CJ.l0v g h i j) := ⟨fun k => (CJ.mono_l k) g h i j, rfl⟩
theorem CJ.f_is : Is (fun k => CJ.f k l) (CJ.fv l) := ⟨fun k => CJ.mono l k, rfl⟩
theorem CJ.l0v_eq : CJ.l0v g h i j = if j < i then (if 0 ≤ j then (if j < (h.length : Int) then ((Hq.f (rd h j) 2147483647).bind fun l => (CJ.l0v (Int.tmod (wrap64 ((wrap64 ((wrap64 (g * 1000003)) + l)) + 13)) 2147483647) h i (wrap64 (j + 1)))) else (none)) else (none)) else (some g) := by
  refine Is.step (CJ.l0_is g h i j).mo (fun k => by rw [CJ.l0]) ?_
  exact FQ @CJ.l0_is
theorem CJ.fv_eq : CJ.fv l = CJ.l0v 11 l (l.length : Int) 0 := Is.fe (fun k => by rw [CJ.f]) (FQ @CJ.l0_is)
end
section
variable (g h i : Int)
noncomputable def D4.fv := Lim fun k => D4.f k g h i
theorem D4.f_is : Is (fun k => D4.f k g h i) (D4.fv g h i) := ⟨fun k => D4.mono g h i k, rfl⟩
theorem D4.fv_eq : D4.fv g h i = if i < 1 then (some 0) else ((CJ.fv (([g, h] : List Int))).bind fun a => ((Hq.f a i).bind fun b => (some b))) := Is.fe (fun k => by rw [D4.f]) (FQ @CJ.f_is)
end
section
variable (c : Int)
noncomputable def EJ.fv := Lim fun k => EJ.f k c
theorem EJ.f_is : Is (fun k => EJ.f k c) (EJ.fv c) := ⟨fun k => EJ.mono c k, rfl⟩
theorem EJ.fv_eq : EJ.fv c = (D4.fv c 0 16).bind fun a => (some (wrap64 ((wrap64 (16 * a)) + 10))) := Is.fe (fun k => by rw [EJ.f]) (FQ @D4.f_is)
end
section
variable (d : List (S81)) (g : Int)
noncomputable def Dt.fv := Lim fun k => Dt.f k d g
theorem Dt.f_is : Is (fun k => Dt.f k d g) (Dt.fv d g) := ⟨fun k => Dt.mono d g k, rfl⟩
theorem Dt.fv_eq : Dt.fv d g = (Dc.fv d).bind fun b => ((EJ.fv g).bind fun t => ((BE.fv d).bind fun o => (if o = true then (if (d.length : Int) = 6 then (some b) else ((EO.fv d t).bind fun e => (if 0 ≤ e then (some b) else ((D4.fv g 3 256).bind fun p => ((D4.fv g 2 3).bind fun c => ((D4.fv g 1 (wrap64 ((d.length : Int) + 1))).bind fun i => (if 0 ≤ c then (if c ≤ 2 then (if 0 ≤ i then (if i ≤ (b.length : Int) then (if (b.length : Int) ≤ 1000000 then (some (b.take i.toNat ++ (⟨t, List.replicate c.toNat p⟩ : S81) :: b.drop i.toNat)) else (none)) else (none)) else (none)) else (none)) else (none)))))))) else (some b)))) := Is.fe (fun k => by rw [Dt.f]) (ZX @BE.f_is @EO.f_is @EJ.f_is @D4.f_is @Dc.f_is)
end
noncomputable def Bj.l0v (n : Int) (o : List (S81)) (p : List Int) (q : Int) (r : Int) (s : List Int) (t : List Int) (u : List (S75)) (v : Int) : Option (List Int × (List (S81))) := Lim fun k => Bj.l0 k n o p q r s t u v
noncomputable def Bj.fv (t : List Int) (s : List Int) (u : List (S75)) (r : Int) (w : Int) : Option (List Int × (List (S81))) := Lim fun k => Bj.f k t s u r w
theorem Bj.l0_is (n : Int) (o : List (S81)) (p : List Int) (q : Int) (r : Int) (s : List Int) (t : List Int) (u : List (S75)) (v : Int) : Is (fun k => Bj.l0 k n o p q r s t u v) (Bj.l0v n o p q r s t u v) := ⟨fun k => (Bj.mono_l k) n o p q r s t u v, rfl⟩
theorem Bj.f_is (t : List Int) (s : List Int) (u : List (S75)) (r : Int) (w : Int) : Is (fun k => Bj.f k t s u r w) (Bj.fv t s u r w) := ⟨fun k => Bj.mono t s u r w k, rfl⟩
theorem Bj.l0v_eq (n : Int) (o : List (S81)) (p : List Int) (q : Int) (r : Int) (s : List Int) (t : List Int) (u : List (S75)) (v : Int) : Bj.l0v n o p q r s t u v = if r < q then (if 0 ≤ r then (if r < (p.length : Int) then (if o.length < 4398046511104 then (Bj.l0v n (o ++ [(⟨rd p r, ([] : List Int)⟩ : S81)]) p q (wrap64 (r + 1)) s t u v) else (none)) else (none)) else (none)) else ((some (([] : List Int) : List Int)).bind fun w => (if w.length + s.length < 17592186044416 then ((Dt.fv o n).bind fun i => (some ((w ++ s), i))) else (none))) := by
  refine Is.step (Bj.l0_is n o p q r s t u v).mo (fun k => by rw [Bj.l0]) ?_
  exact Hu @Dt.f_is @Bj.l0_is
theorem Bj.fv_eq (t : List Int) (s : List Int) (u : List (S75)) (r : Int) (w : Int) : Bj.fv t s u r w = (B9.fv t s u r).bind fun v => (if v = true then (Bj.l0v w (([] : List (S81))) s (s.length : Int) 0 t s u r) else (some (([] : List Int), ([] : List (S81))))) := Is.fe (fun k => by rw [Bj.f]) (Hu @Bj.l0_is @B9.f_is)
section
variable (e : List Int) (g : List (S81))
noncomputable def BQ.fv := Lim fun k => BQ.f k e g
theorem BQ.f_is : Is (fun k => BQ.f k e g) (BQ.fv e g) := ⟨fun k => BQ.mono e g k, rfl⟩
theorem BQ.fv_eq : BQ.fv e g = (Ah.fv e).bind fun c => (if c = true then ((BE.fv g).bind fun d => (some d)) else (some false)) := Is.fe (fun k => by rw [BQ.f]) (Hu @BE.f_is @Ah.f_is)
end
section
variable (e : List Int) (g : List (S81))
noncomputable def DC.fv := Lim fun k => DC.f k e g
theorem DC.f_is : Is (fun k => DC.f k e g) (DC.fv e g) := ⟨fun k => DC.mono e g k, rfl⟩
theorem DC.fv_eq : DC.fv e g = (some (([] : List Int) : List Int)).bind fun b => (if b.length + e.length < 17592186044416 then ((Dc.fv g).bind fun d => (some ((b ++ e), d))) else (none)) := Is.fe (fun k => by rw [DC.f]) (FQ @Dc.f_is)
end
noncomputable def BG.l0v (d : List Int) (e : Int) (f : Int) : Option (Int) := Lim fun k => BG.l0 k d e f
noncomputable def BG.fv (f : List Int) : Option (Int) := Lim fun k => BG.f k f
theorem BG.l0_is (d : List Int) (e : Int) (f : Int) : Is (fun k => BG.l0 k d e f) (BG.l0v d e f) := ⟨fun k => (BG.mono_l k) d e f, rfl⟩
theorem BG.f_is (f : List Int) : Is (fun k => BG.f k f) (BG.fv f) := ⟨fun k => BG.mono f k, rfl⟩
theorem BG.l0v_eq (d : List Int) (e : Int) (f : Int) : BG.l0v d e f = if f < (d.length : Int) then (if 0 ≤ f then (BG.l0v d (mx e (rd d f)) (wrap64 (f + 1))) else (none)) else (some e) := by
  refine Is.step (BG.l0_is d e f).mo (fun k => by rw [BG.l0]) ?_
  exact FQ @BG.l0_is
theorem BG.fv_eq (f : List Int) : BG.fv f = if (f.length : Int) < 1 then (none) else (if 0 < (f.length : Int) then (BG.l0v f (rd f 0) 1) else (none)) := Is.fe (fun k => by rw [BG.f]) (FQ @BG.l0_is)
end Go.Proofs.YtibmehnippjakaaGreat.Print

/- Written by a program of this session (limx.py): the equations of what the printed functions come to. No condition. -/
namespace Go.Proofs.YtibmehnippjakaaGreat.Print
open Go.RowKit Go.Proofs.YtibmehnippjakaaGreatW.PrintWords Go.Proofs.YtibmehnippjakaaGreatW.PrintLast Go.Proofs.YtibmehnippjakaaGreat.Base
set_option linter.unusedVariables false
set_option maxRecDepth 20000
noncomputable def BC.l0v (e : List Int) (f : Int) (g : Int) (h : Int) : Option (Int) := Lim fun k => BC.l0 k e f g h
noncomputable def BC.fv (h : List Int) (e : Int) : Option (Int) := Lim fun k => BC.f k h e
theorem BC.l0_is (e : List Int) (f : Int) (g : Int) (h : Int) : Is (fun k => BC.l0 k e f g h) (BC.l0v e f g h) := ⟨fun k => (BC.mono_l k) e f g h, rfl⟩
theorem BC.f_is (h : List Int) (e : Int) : Is (fun k => BC.f k h e) (BC.fv h e) := ⟨fun k => BC.mono h e k, rfl⟩
theorem BC.l0v_eq (e : List Int) (f : Int) (g : Int) (h : Int) : BC.l0v e f g h = if h < g then (if 0 ≤ h then (if h < (e.length : Int) then (if f = (rd e h) then (some h) else (BC.l0v e f g (wrap64 (h + 1)))) else (none)) else (none)) else (some (-1)) := by
  refine Is.step (BC.l0_is e f g h).mo (fun k => by rw [BC.l0]) ?_
  exact FQ @BC.l0_is
theorem BC.fv_eq (h : List Int) (e : Int) : BC.fv h e = BC.l0v h e (h.length : Int) 0 := Is.fe (fun k => by rw [BC.f]) (FQ @BC.l0_is)
section
variable (d : List Int) (e : Int)
noncomputable def Ad.fv := Lim fun k => Ad.f k d e
theorem Ad.f_is : Is (fun k => Ad.f k d e) (Ad.fv d e) := ⟨fun k => Ad.mono d e k, rfl⟩
theorem Ad.fv_eq : Ad.fv d e = (BC.fv d e).bind fun a => (some (decide (a ≥ 0))) := Is.fe (fun k => by rw [Ad.f]) (FQ @BC.f_is)
end
section
variable (l : Int) (m : List Int) (n : Int) (o p : List Int) (q : Bool)
noncomputable def Ee.fv := Lim fun k => Ee.f k l m n o p q
theorem Ee.f_is : Is (fun k => Ee.f k l m n o p q) (Ee.fv l m n o p q) := ⟨fun k => Ee.mono l m n o p q k, rfl⟩
theorem Ee.fv_eq : Ee.fv l m n o p q = (Ad.fv o l).bind fun e => (if e = true then (some true) else (if q = true then ((Ad.fv p l).bind fun g => (if g = true then (some false) else ((Cb.f l 1 3).bind fun h => (some (!h))))) else (some false))) := Is.fe (fun k => by rw [Ee.f]) (FQ @Ad.f_is)
end
noncomputable def AE.l0v (j : List (S81)) (l : Int) (m : Int) (n : Int) (o : List Int) (p : List Int) (q : Bool) : Option (Int) := Lim fun k => AE.l0 k j l m n o p q
noncomputable def AE.fv (m : List (S81)) (n : Int) (p : List Int) (q : List Int) (o : Bool) : Option (Int) := Lim fun k => AE.f k m n p q o
theorem AE.l0_is (j : List (S81)) (l : Int) (m : Int) (n : Int) (o : List Int) (p : List Int) (q : Bool) : Is (fun k => AE.l0 k j l m n o p q) (AE.l0v j l m n o p q) := ⟨fun k => (AE.mono_l k) j l m n o p q, rfl⟩
theorem AE.f_is (m : List (S81)) (n : Int) (p : List Int) (q : List Int) (o : Bool) : Is (fun k => AE.f k m n p q o) (AE.fv m n p q o) := ⟨fun k => AE.mono m n p q o k, rfl⟩
theorem AE.l0v_eq (j : List (S81)) (l : Int) (m : Int) (n : Int) (o : List Int) (p : List Int) (q : Bool) : AE.l0v j l m n o p q = if m < l then (if 0 ≤ m then (if m < (j.length : Int) then ((Ee.fv ((AX j m).f0) ((AX j m).f1) n o p q).bind fun g => (if g = true then (some m) else (AE.l0v j l (wrap64 (m + 1)) n o p q))) else (none)) else (none)) else (some (-1)) := by
  refine Is.step (AE.l0_is j l m n o p q).mo (fun k => by rw [AE.l0]) ?_
  exact Hu @Ee.f_is @AE.l0_is
theorem AE.fv_eq (m : List (S81)) (n : Int) (p : List Int) (q : List Int) (o : Bool) : AE.fv m n p q o = AE.l0v m (m.length : Int) 0 n p q o := Is.fe (fun k => by rw [AE.f]) (FQ @AE.l0_is)
section
variable (h : List (S81)) (i : Int) (j l : List Int) (m : Bool)
noncomputable def Ac.fv := Lim fun k => Ac.f k h i j l m
theorem Ac.f_is : Is (fun k => Ac.f k h i j l m) (Ac.fv h i j l m) := ⟨fun k => Ac.mono h i j l m k, rfl⟩
theorem Ac.fv_eq : Ac.fv h i j l m = (AE.fv h i j l m).bind fun e => (some (decide (e ≥ 0))) := Is.fe (fun k => by rw [Ac.f]) (FQ @AE.f_is)
end
section
variable (l : Int) (m n : List Int) (o : Bool) (p : List Int) (q : List (S81))
noncomputable def ED.fv := Lim fun k => ED.f k l m n o p q
theorem ED.f_is : Is (fun k => ED.f k l m n o p q) (ED.fv l m n o p q) := ⟨fun k => ED.mono l m n o p q k, rfl⟩
theorem ED.fv_eq : ED.fv l m n o p q = if l = 0 then ((Ac.fv q l m n o).bind fun h => (some h)) else ((BG.fv p).bind fun i => (if i > l then (some true) else ((Ac.fv q l m n o).bind fun j => (some j)))) := Is.fe (fun k => by rw [ED.f]) (Hu @Ac.f_is @BG.f_is)
end
section
variable (h i : Int) (j l : List Int) (m : Bool)
noncomputable def EF.fv := Lim fun k => EF.f k h i j l m
theorem EF.f_is : Is (fun k => EF.f k h i j l m) (EF.fv h i j l m) := ⟨fun k => EF.mono h i j l m k, rfl⟩
theorem EF.fv_eq : EF.fv h i j l m = (Ad.fv l h).bind fun b => (some (!b)) := Is.fe (fun k => by rw [EF.f]) (FQ @Ad.f_is)
end
end Go.Proofs.YtibmehnippjakaaGreat.Print

/- Written by a program of this session (limx.py): the equations of what the printed functions come to. No condition. -/
namespace Go.Proofs.YtibmehnippjakaaGreat.Print
open Go.RowKit Go.Proofs.YtibmehnippjakaaGreatW.PrintWords Go.Proofs.YtibmehnippjakaaGreatW.PrintLast Go.Proofs.YtibmehnippjakaaGreat.Base
set_option linter.unusedVariables false
set_option maxRecDepth 20000
noncomputable def AU.l0v (m : List (S81)) (n : List (S81)) (o : Int) (p : Int) (q : Int) (r : List Int) (s : List Int) (t : Bool) : Option ((List (S81))) := Lim fun k => AU.l0 k m n o p q r s t
noncomputable def AU.fv (t : List (S81)) (p : Int) (r : List Int) (s : List Int) (q : Bool) : Option ((List (S81))) := Lim fun k => AU.f k t p r s q
theorem AU.l0_is (m : List (S81)) (n : List (S81)) (o : Int) (p : Int) (q : Int) (r : List Int) (s : List Int) (t : Bool) : Is (fun k => AU.l0 k m n o p q r s t) (AU.l0v m n o p q r s t) := ⟨fun k => (AU.mono_l k) m n o p q r s t, rfl⟩
theorem AU.f_is (t : List (S81)) (p : Int) (r : List Int) (s : List Int) (q : Bool) : Is (fun k => AU.f k t p r s q) (AU.fv t p r s q) := ⟨fun k => AU.mono t p r s q k, rfl⟩
theorem AU.l0v_eq (m : List (S81)) (n : List (S81)) (o : Int) (p : Int) (q : Int) (r : List Int) (s : List Int) (t : Bool) : AU.l0v m n o p q r s t = if p < o then (if 0 ≤ p then (if p < (n.length : Int) then ((EF.fv ((AX n p).f0) q r s t).bind fun j => (if j = true then ((some (([] : List Int) : List Int)).bind fun g => (if g.length + ((AX n p).f1).length < 17592186044416 then (if m.length < 4398046511104 then (AU.l0v (m ++ [(⟨(AX n p).f0, (g ++ ((AX n p).f1))⟩ : S81)]) n o (wrap64 (p + 1)) q r s t) else (none)) else (none))) else (AU.l0v m n o (wrap64 (p + 1)) q r s t))) else (none)) else (none)) else (some m) := by
  refine Is.step (AU.l0_is m n o p q r s t).mo (fun k => by rw [AU.l0]) ?_
  exact Hu @EF.f_is @AU.l0_is
theorem AU.fv_eq (t : List (S81)) (p : Int) (r : List Int) (s : List Int) (q : Bool) : AU.fv t p r s q = AU.l0v (([] : List (S81))) t (t.length : Int) 0 p r s q := Is.fe (fun k => by rw [AU.f]) (FQ @AU.l0_is)
noncomputable def Bh.j0v (l : Bool) (m : Int) (n : List Int) (o : List Int) (p : Bool) (q : List Int) (r : List (S81)) : Option (List Int × (List (S81)) × Bool) := Lim fun k => Bh.j0 k l m n o p q r
noncomputable def Bh.fv (m : Int) (o : List Int) (p : List Int) (n : Bool) (q : List Int) (r : List (S81)) : Option (List Int × (List (S81)) × Bool) := Lim fun k => Bh.f k m o p n q r
theorem Bh.j0_is (l : Bool) (m : Int) (n : List Int) (o : List Int) (p : Bool) (q : List Int) (r : List (S81)) : Is (fun k => Bh.j0 k l m n o p q r) (Bh.j0v l m n o p q r) := ⟨fun k => (Bh.mono_l k) l m n o p q r, rfl⟩
theorem Bh.f_is (m : Int) (o : List Int) (p : List Int) (n : Bool) (q : List Int) (r : List (S81)) : Is (fun k => Bh.f k m o p n q r) (Bh.fv m o p n q r) := ⟨fun k => Bh.mono m o p n q r k, rfl⟩
theorem Bh.j0v_eq (l : Bool) (m : Int) (n : List Int) (o : List Int) (p : Bool) (q : List Int) (r : List (S81)) : Bh.j0v l m n o p q r = if l = true then (some (([] : List Int), ([] : List (S81)), false)) else ((Ep.f q).bind fun h => ((AU.fv r m n o p).bind fun i => (some (h, i, true)))) := by
  refine Is.step (Bh.j0_is l m n o p q r).mo (fun k => by rw [Bh.j0]) ?_
  exact FQ @AU.f_is
theorem Bh.fv_eq (m : Int) (o : List Int) (p : List Int) (n : Bool) (q : List Int) (r : List (S81)) : Bh.fv m o p n q r = (EW.fv m o p n).bind fun h => (if h = true then ((BQ.fv q r).bind fun i => (if i = true then ((ED.fv m o p n q r).bind fun l => (Bh.j0v l m o p n q r)) else (Bh.j0v true m o p n q r))) else (Bh.j0v true m o p n q r)) := Is.fe (fun k => by rw [Bh.f]) (Ut @EW.f_is @BQ.f_is @Bh.j0_is @ED.f_is)
end Go.Proofs.YtibmehnippjakaaGreat.Print

/- Written by a program of this session (limx.py): the equations of what the printed functions come to. No condition. -/
namespace Go.Proofs.YtibmehnippjakaaGreat.Print
open Go.RowKit Go.Proofs.YtibmehnippjakaaGreatW.PrintWords Go.Proofs.YtibmehnippjakaaGreatW.PrintLast Go.Proofs.YtibmehnippjakaaGreat.Base
set_option linter.unusedVariables false
set_option maxRecDepth 20000
noncomputable def Am.j0v (h : List (S75)) (i : Bool) (j : List Int) (l : List (S81)) : Option (List Int × (List (S81)) × Bool) := Lim fun k => Am.j0 k h i j l
noncomputable def Am.l0v (h : List (S75)) (m : Bool) (i : Int) (n : List Int) (j : List (S81)) : Option (List Int × (List (S81)) × Bool) := Lim fun k => Am.l0 k h m i n j
noncomputable def Am.fv (i : List (S75)) (n : List Int) (j : List (S81)) : Option (List Int × (List (S81)) × Bool) := Lim fun k => Am.f k i n j
theorem Am.j0_is (h : List (S75)) (i : Bool) (j : List Int) (l : List (S81)) : Is (fun k => Am.j0 k h i j l) (Am.j0v h i j l) := ⟨fun k => (Am.mono_l k).1 h i j l, rfl⟩
theorem Am.l0_is (h : List (S75)) (m : Bool) (i : Int) (n : List Int) (j : List (S81)) : Is (fun k => Am.l0 k h m i n j) (Am.l0v h m i n j) := ⟨fun k => (Am.mono_l k).2 h m i n j, rfl⟩
theorem Am.f_is (i : List (S75)) (n : List Int) (j : List (S81)) : Is (fun k => Am.f k i n j) (Am.fv i n j) := ⟨fun k => Am.mono i n j k, rfl⟩
theorem Am.j0v_eq (h : List (S75)) (i : Bool) (j : List Int) (l : List (S81)) : Am.j0v h i j l = if i = true then (some (([] : List Int), ([] : List (S81)), false)) else ((DC.fv j l).bind fun n => (Am.l0v h true 0 n.1 n.2)) := by
  refine Is.step (Am.j0_is h i j l).mo (fun k => by rw [Am.j0]) ?_
  exact Hu @Am.l0_is @DC.f_is
theorem Am.l0v_eq (h : List (S75)) (m : Bool) (i : Int) (n : List Int) (j : List (S81)) : Am.l0v h m i n j = if i < (h.length : Int) then (if m = true then (if 0 ≤ i then ((Bh.fv ((EM h i).f0) ((EM h i).f1) ((EM h i).f2) ((EM h i).f3) n j).bind fun l => (Am.l0v h l.2.2 (wrap64 (i + 1)) l.1 l.2.1)) else (none)) else (some (n, j, m))) else (some (n, j, m)) := by
  refine Is.step (Am.l0_is h m i n j).mo (fun k => by rw [Am.l0]) ?_
  exact Hu @Bh.f_is @Am.l0_is
theorem Am.fv_eq (i : List (S75)) (n : List Int) (j : List (S81)) : Am.fv i n j = (BQ.fv n j).bind fun l => (if l = true then (Am.j0v i (decide ((i.length : Int) > 4)) n j) else (Am.j0v i true n j)) := Is.fe (fun k => by rw [Am.f]) (Hu @BQ.f_is @Am.j0_is)
noncomputable def Ai.l0v (e : List Int) (f : List Int) (g : Int) (h : Int) : Option (Bool) := Lim fun k => Ai.l0 k e f g h
noncomputable def Ai.fv (h : List Int) (g : List Int) : Option (Bool) := Lim fun k => Ai.f k h g
theorem Ai.l0_is (e : List Int) (f : List Int) (g : Int) (h : Int) : Is (fun k => Ai.l0 k e f g h) (Ai.l0v e f g h) := ⟨fun k => (Ai.mono_l k) e f g h, rfl⟩
theorem Ai.f_is (h : List Int) (g : List Int) : Is (fun k => Ai.f k h g) (Ai.fv h g) := ⟨fun k => Ai.mono h g k, rfl⟩
theorem Ai.l0v_eq (e : List Int) (f : List Int) (g : Int) (h : Int) : Ai.l0v e f g h = if h < g then (if 0 ≤ h then (if h < (e.length : Int) then (if h < (f.length : Int) then (if (rd e h) = (rd f h) then (Ai.l0v e f g (wrap64 (h + 1))) else (some false)) else (none)) else (none)) else (none)) else (some true) := by
  refine Is.step (Ai.l0_is e f g h).mo (fun k => by rw [Ai.l0]) ?_
  exact FQ @Ai.l0_is
theorem Ai.fv_eq (h : List Int) (g : List Int) : Ai.fv h g = if (h.length : Int) = (g.length : Int) then (Ai.l0v h g (h.length : Int) 0) else (some false) := Is.fe (fun k => by rw [Ai.f]) (FQ @Ai.l0_is)
section
variable (g : Int) (h : List Int) (i : Int) (j : List Int)
noncomputable def EK.fv := Lim fun k => EK.f k g h i j
theorem EK.f_is : Is (fun k => EK.f k g h i j) (EK.fv g h i j) := ⟨fun k => EK.mono g h i j k, rfl⟩
theorem EK.fv_eq : EK.fv g h i j = if g = i then ((Ai.fv h j).bind fun e => (some e)) else (some false) := Is.fe (fun k => by rw [EK.f]) (FQ @Ai.f_is)
end
noncomputable def AA.l0v (g : List (S81)) (h : List (S81)) (i : Int) (j : Int) : Option (Bool) := Lim fun k => AA.l0 k g h i j
noncomputable def AA.fv (j : List (S81)) (h : List (S81)) : Option (Bool) := Lim fun k => AA.f k j h
theorem AA.l0_is (g : List (S81)) (h : List (S81)) (i : Int) (j : Int) : Is (fun k => AA.l0 k g h i j) (AA.l0v g h i j) := ⟨fun k => (AA.mono_l k) g h i j, rfl⟩
theorem AA.f_is (j : List (S81)) (h : List (S81)) : Is (fun k => AA.f k j h) (AA.fv j h) := ⟨fun k => AA.mono j h k, rfl⟩
theorem AA.l0v_eq (g : List (S81)) (h : List (S81)) (i : Int) (j : Int) : AA.l0v g h i j = if j < i then (if 0 ≤ j then (if j < (h.length : Int) then (if j < (g.length : Int) then ((EK.fv ((AX h j).f0) ((AX h j).f1) ((AX g j).f0) ((AX g j).f1)).bind fun c => (if c = true then (AA.l0v g h i (wrap64 (j + 1))) else (some false))) else (none)) else (none)) else (none)) else (some true) := by
  refine Is.step (AA.l0_is g h i j).mo (fun k => by rw [AA.l0]) ?_
  exact Hu @EK.f_is @AA.l0_is
theorem AA.fv_eq (j : List (S81)) (h : List (S81)) : AA.fv j h = if (j.length : Int) = (h.length : Int) then (AA.l0v h j (j.length : Int) 0) else (some false) := Is.fe (fun k => by rw [AA.f]) (FQ @AA.l0_is)
section
variable (d e : List (S81))
noncomputable def EE.fv := Lim fun k => EE.f k d e
theorem EE.f_is : Is (fun k => EE.f k d e) (EE.fv d e) := ⟨fun k => EE.mono d e k, rfl⟩
theorem EE.fv_eq : EE.fv d e = (AA.fv d e).bind fun a => (some a) := Is.fe (fun k => by rw [EE.f]) (FQ @AA.f_is)
end
end Go.Proofs.YtibmehnippjakaaGreat.Print

/- Written by a program of this session (limx.py): the equations of what the printed functions come to. No condition. -/
namespace Go.Proofs.YtibmehnippjakaaGreat.Print
open Go.RowKit Go.Proofs.YtibmehnippjakaaGreatW.PrintWords Go.Proofs.YtibmehnippjakaaGreatW.PrintLast Go.Proofs.YtibmehnippjakaaGreat.Base
set_option linter.unusedVariables false
set_option maxRecDepth 20000
section
variable (h : List Int) (i : List (S81)) (j : List Int) (l : List (S81))
noncomputable def D1.fv := Lim fun k => D1.f k h i j l
theorem D1.f_is : Is (fun k => D1.f k h i j l) (D1.fv h i j l) := ⟨fun k => D1.mono h i j l k, rfl⟩
theorem D1.fv_eq : D1.fv h i j l = (Ai.fv h j).bind fun e => (if e = true then ((EE.fv i l).bind fun g => (some g)) else (some false)) := Is.fe (fun k => by rw [D1.f]) (Hu @EE.f_is @Ai.f_is)
end
section
variable (g : List Int) (h : List (S81)) (i : List (S75))
noncomputable def Cj.fv := Lim fun k => Cj.f k g h i
theorem Cj.f_is : Is (fun k => Cj.f k g h i) (Cj.fv g h i) := ⟨fun k => Cj.mono g h i k, rfl⟩
theorem Cj.fv_eq : Cj.fv g h i = (Am.fv i g h).bind fun a => (if a.2.2 = true then ((D1.fv a.1 a.2.1 g h).bind fun d => (some d)) else (some false)) := Is.fe (fun k => by rw [Cj.f]) (Hu @D1.f_is @Am.f_is)
end
noncomputable def BI.l0v (h : List Int) (i : List Int) (j : List Int) (l : Int) (m : Int) : Option (List Int) := Lim fun k => BI.l0 k h i j l m
noncomputable def BI.fv (m : List Int) (l : List Int) : Option (List Int) := Lim fun k => BI.f k m l
theorem BI.l0_is (h : List Int) (i : List Int) (j : List Int) (l : Int) (m : Int) : Is (fun k => BI.l0 k h i j l m) (BI.l0v h i j l m) := ⟨fun k => (BI.mono_l k) h i j l m, rfl⟩
theorem BI.f_is (m : List Int) (l : List Int) : Is (fun k => BI.f k m l) (BI.fv m l) := ⟨fun k => BI.mono m l k, rfl⟩
theorem BI.l0v_eq (h : List Int) (i : List Int) (j : List Int) (l : Int) (m : Int) : BI.l0v h i j l m = if m < l then (if 0 ≤ m then (if m < (j.length : Int) then ((Ad.fv h (rd j m)).bind fun c => (if c = true then (BI.l0v h i j l (wrap64 (m + 1))) else (if i.length < 17592186044416 then (BI.l0v h (i ++ [rd j m]) j l (wrap64 (m + 1))) else (none)))) else (none)) else (none)) else (some i) := by
  refine Is.step (BI.l0_is h i j l m).mo (fun k => by rw [BI.l0]) ?_
  exact Hu @BI.l0_is @Ad.f_is
theorem BI.fv_eq (m : List Int) (l : List Int) : BI.fv m l = BI.l0v l (([] : List Int)) m (m.length : Int) 0 := Is.fe (fun k => by rw [BI.f]) (FQ @BI.l0_is)
section
variable (i : List (S75)) (j : List Int) (o : List (S75)) (l : List Int) (m n : Int)
noncomputable def Az.l0v := Lim fun k => Az.l0 k i j l m n
noncomputable def Az.fv := Lim fun k => Az.f k o l
theorem Az.l0_is : Is (fun k => Az.l0 k i j l m n) (Az.l0v i j l m n) := ⟨fun k => (Az.mono_l k) i j l m n, rfl⟩
theorem Az.f_is : Is (fun k => Az.f k o l) (Az.fv o l) := ⟨fun k => Az.mono o l k, rfl⟩
theorem Az.l0v_eq : Az.l0v i j l m n = if n < m then (if 0 ≤ n then (if n < (l.length : Int) then ((E5.f (([rd l n] : List Int))).bind fun b => ((Am.fv i b.1 b.2).bind fun o => (if o.2.2 = true then (Az.l0v i j l m (wrap64 (n + 1))) else (if j.length < 17592186044416 then (Az.l0v i (j ++ [rd l n]) l m (wrap64 (n + 1))) else (none))))) else (none)) else (none)) else (some j) := by
  refine Is.step (Az.l0_is i j l m n).mo (fun k => by rw [Az.l0]) ?_
  exact Hu @Az.l0_is @Am.f_is
theorem Az.fv_eq : Az.fv o l = (some (([] : List Int) : List Int)).bind fun n => ((Ah.fv l).bind fun b => (if b = true then (Az.l0v o n l (l.length : Int) 0) else (some n))) := Is.fe (fun k => by rw [Az.f]) (Hu @Ah.f_is @Az.l0_is)
end
section
variable (d : Int) (e : List Int)
noncomputable def Dx.fv := Lim fun k => Dx.f k d e
theorem Dx.f_is : Is (fun k => Dx.f k d e) (Dx.fv d e) := ⟨fun k => Dx.mono d e k, rfl⟩
theorem Dx.fv_eq : Dx.fv d e = (Ad.fv e d).bind fun b => (some (!b)) := Is.fe (fun k => by rw [Dx.f]) (FQ @Ad.f_is)
end
noncomputable def AP.l0v (i : List (S81)) (j : List (S81)) (l : Int) (m : Int) (n : List Int) : Option ((List (S81))) := Lim fun k => AP.l0 k i j l m n
noncomputable def AP.fv (n : List (S81)) (m : List Int) : Option ((List (S81))) := Lim fun k => AP.f k n m
theorem AP.l0_is (i : List (S81)) (j : List (S81)) (l : Int) (m : Int) (n : List Int) : Is (fun k => AP.l0 k i j l m n) (AP.l0v i j l m n) := ⟨fun k => (AP.mono_l k) i j l m n, rfl⟩
theorem AP.f_is (n : List (S81)) (m : List Int) : Is (fun k => AP.f k n m) (AP.fv n m) := ⟨fun k => AP.mono n m k, rfl⟩
theorem AP.l0v_eq (i : List (S81)) (j : List (S81)) (l : Int) (m : Int) (n : List Int) : AP.l0v i j l m n = if m < l then (if 0 ≤ m then (if m < (j.length : Int) then ((Dx.fv ((AX j m).f0) n).bind fun g => (if g = true then ((some (([] : List Int) : List Int)).bind fun c => (if c.length + ((AX j m).f1).length < 17592186044416 then (if i.length < 4398046511104 then (AP.l0v (i ++ [(⟨(AX j m).f0, (c ++ ((AX j m).f1))⟩ : S81)]) j l (wrap64 (m + 1)) n) else (none)) else (none))) else (AP.l0v i j l (wrap64 (m + 1)) n))) else (none)) else (none)) else (some i) := by
  refine Is.step (AP.l0_is i j l m n).mo (fun k => by rw [AP.l0]) ?_
  exact Hu @Dx.f_is @AP.l0_is
theorem AP.fv_eq (n : List (S81)) (m : List Int) : AP.fv n m = AP.l0v (([] : List (S81))) n (n.length : Int) 0 m := Is.fe (fun k => by rw [AP.f]) (FQ @AP.l0_is)
end Go.Proofs.YtibmehnippjakaaGreat.Print

/- Written by a program of this session (limx.py): the equations of what the printed functions come to. No condition. -/
namespace Go.Proofs.YtibmehnippjakaaGreat.Print
open Go.RowKit Go.Proofs.YtibmehnippjakaaGreatW.PrintWords Go.Proofs.YtibmehnippjakaaGreatW.PrintLast Go.Proofs.YtibmehnippjakaaGreat.Base
set_option linter.unusedVariables false
set_option maxRecDepth 20000
section
variable (i : List Int) (j : List (S81)) (l m : List Int)
noncomputable def EG.fv := Lim fun k => EG.f k i j l m
theorem EG.f_is : Is (fun k => EG.f k i j l m) (EG.fv i j l m) := ⟨fun k => EG.mono i j l m k, rfl⟩
theorem EG.fv_eq : EG.fv i j l m = (BI.fv i l).bind fun c => ((BQ.fv i j).bind fun d => (if d = true then (if (c.length : Int) = 0 then (some (([] : List Int), ([] : List (S81)), false)) else ((AP.fv j m).bind fun e => (some (c, e, true)))) else (some (([] : List Int), ([] : List (S81)), false)))) := Is.fe (fun k => by rw [EG.f]) (NJ @BQ.f_is @AP.f_is @BI.f_is)
end
section
variable (g : List (S75)) (h : List Int)
noncomputable def DZ.fv := Lim fun k => DZ.f k g h
theorem DZ.f_is : Is (fun k => DZ.f k g h) (DZ.fv g h) := ⟨fun k => DZ.mono g h k, rfl⟩
theorem DZ.fv_eq : DZ.fv g h = (Ah.fv h).bind fun c => (if c = true then (if 1 ≤ (h.length : Int) then ((E5.f (h.take 1)).bind fun a => ((Am.fv g a.1 a.2).bind fun b => (some b.2.2))) else (none)) else (some false)) := Is.fe (fun k => by rw [DZ.f]) (Hu @Ah.f_is @Am.f_is)
end
noncomputable def Au.j0v (i : List (S75)) (j : List Int) (l : List (S81)) (m : List Int) (n : Bool) : Option (List Int) := Lim fun k => Au.j0 k i j l m n
noncomputable def Au.l0v (o : List (S75)) (j : List Int) (p : List Int) (l : List (S81)) (m : Int) (n : Int) : Option (List Int) := Lim fun k => Au.l0 k o j p l m n
noncomputable def Au.fv (i : List (S75)) (j : List Int) (p : List (S81)) : Option (List Int) := Lim fun k => Au.f k i j p
theorem Au.j0_is (i : List (S75)) (j : List Int) (l : List (S81)) (m : List Int) (n : Bool) : Is (fun k => Au.j0 k i j l m n) (Au.j0v i j l m n) := ⟨fun k => (Au.mono_l k).1 i j l m n, rfl⟩
theorem Au.l0_is (o : List (S75)) (j : List Int) (p : List Int) (l : List (S81)) (m : Int) (n : Int) : Is (fun k => Au.l0 k o j p l m n) (Au.l0v o j p l m n) := ⟨fun k => (Au.mono_l k).2 o j p l m n, rfl⟩
theorem Au.f_is (i : List (S75)) (j : List Int) (p : List (S81)) : Is (fun k => Au.f k i j p) (Au.fv i j p) := ⟨fun k => Au.mono i j p k, rfl⟩
theorem Au.j0v_eq (i : List (S75)) (j : List Int) (l : List (S81)) (m : List Int) (n : Bool) : Au.j0v i j l m n = if n = true then (some m) else (Au.l0v i j m l (l.length : Int) 0) := by
  refine Is.step (Au.j0_is i j l m n).mo (fun k => by rw [Au.j0]) ?_
  exact FQ @Au.l0_is
theorem Au.l0v_eq (o : List (S75)) (j : List Int) (p : List Int) (l : List (S81)) (m : Int) (n : Int) : Au.l0v o j p l m n = if n < m then (if 0 ≤ n then (if n < (l.length : Int) then (if 1 ≤ (j.length : Int) then ((Cj.fv (j.take 1) (([(⟨(AX l n).f0, (AX l n).f1⟩ : S81)] : List (S81))) o).bind fun i => (if i = true then (Au.l0v o j p l m (wrap64 (n + 1))) else (if p.length < 17592186044416 then (Au.l0v o j (p ++ [(AX l n).f0]) l m (wrap64 (n + 1))) else (none)))) else (none)) else (none)) else (none)) else (some p) := by
  refine Is.step (Au.l0_is o j p l m n).mo (fun k => by rw [Au.l0]) ?_
  exact Hu @Au.l0_is @Cj.f_is
theorem Au.fv_eq (i : List (S75)) (j : List Int) (p : List (S81)) : Au.fv i j p = (some (([] : List Int) : List Int)).bind fun n => ((DZ.fv i j).bind fun l => (if l = true then ((BE.fv p).bind fun m => (Au.j0v i j p n (!m))) else (Au.j0v i j p n true))) := Is.fe (fun k => by rw [Au.f]) (NJ @BE.f_is @DZ.f_is @Au.j0_is)
section
variable (i : List Int) (j : List (S81)) (l : List (S75))
noncomputable def CB.fv := Lim fun k => CB.f k i j l
theorem CB.f_is : Is (fun k => CB.f k i j l) (CB.fv i j l) := ⟨fun k => CB.mono i j l k, rfl⟩
theorem CB.fv_eq : CB.fv i j l = (Az.fv l i).bind fun d => ((BI.fv i d).bind fun e => ((Au.fv l e j).bind fun g => ((EG.fv i j d g).bind fun a => (some (a.1, a.2.1, a.2.2))))) := Is.fe (fun k => by rw [CB.f]) (Ut @Au.f_is @Az.f_is @EG.f_is @BI.f_is)
end
end Go.Proofs.YtibmehnippjakaaGreat.Print

/- Written by a program of this session (limx.py): the equations of what the printed functions come to. No condition. -/
namespace Go.Proofs.YtibmehnippjakaaGreat.Print
open Go.RowKit Go.Proofs.YtibmehnippjakaaGreatW.PrintWords Go.Proofs.YtibmehnippjakaaGreatW.PrintLast Go.Proofs.YtibmehnippjakaaGreat.Base
set_option linter.unusedVariables false
set_option maxRecDepth 20000
section
variable (j : List Int) (l : List (S81)) (m : List (S75))
noncomputable def EN.fv := Lim fun k => EN.f k j l m
theorem EN.f_is : Is (fun k => EN.f k j l m) (EN.fv j l m) := ⟨fun k => EN.mono j l m k, rfl⟩
theorem EN.fv_eq : EN.fv j l m = (BQ.fv j l).bind fun e => (if e = true then ((Cj.fv j l m).bind fun g => (if g = true then ((DC.fv j l).bind fun d => (some (d.1, d.2, 1, true))) else ((CB.fv j l m).bind fun a => (if a.2.2 = true then ((Cj.fv a.1 a.2.1 m).bind fun h => (if h = true then (some (a.1, a.2.1, 2, true)) else (some (([] : List Int), ([] : List (S81)), 2, false)))) else (some (([] : List Int), ([] : List (S81)), 2, false)))))) else (some (([] : List Int), ([] : List (S81)), 0, false))) := Is.fe (fun k => by rw [EN.f]) (Ut @CB.f_is @BQ.f_is @Cj.f_is @DC.f_is)
end
noncomputable def BO.l0v (e : List Int) (f : List (S81)) (g : Int) (h : Int) : Option (List Int) := Lim fun k => BO.l0 k e f g h
noncomputable def BO.fv (h : List (S81)) : Option (List Int) := Lim fun k => BO.f k h
theorem BO.l0_is (e : List Int) (f : List (S81)) (g : Int) (h : Int) : Is (fun k => BO.l0 k e f g h) (BO.l0v e f g h) := ⟨fun k => (BO.mono_l k) e f g h, rfl⟩
theorem BO.f_is (h : List (S81)) : Is (fun k => BO.f k h) (BO.fv h) := ⟨fun k => BO.mono h k, rfl⟩
theorem BO.l0v_eq (e : List Int) (f : List (S81)) (g : Int) (h : Int) : BO.l0v e f g h = if h < g then (if 0 ≤ h then (if h < (f.length : Int) then (if e.length < 17592186044416 then (BO.l0v (e ++ [(AX f h).f0]) f g (wrap64 (h + 1))) else (none)) else (none)) else (none)) else (some e) := by
  refine Is.step (BO.l0_is e f g h).mo (fun k => by rw [BO.l0]) ?_
  exact FQ @BO.l0_is
theorem BO.fv_eq (h : List (S81)) : BO.fv h = BO.l0v (([] : List Int)) h (h.length : Int) 0 := Is.fe (fun k => by rw [BO.f]) (FQ @BO.l0_is)
noncomputable def Bf.l0v (h : List Int) (i : List Int) (j : List Int) (l : Int) (m : Int) : Option (List Int) := Lim fun k => Bf.l0 k h i j l m
noncomputable def Bf.fv (m : List Int) (l : List Int) : Option (List Int) := Lim fun k => Bf.f k m l
theorem Bf.l0_is (h : List Int) (i : List Int) (j : List Int) (l : Int) (m : Int) : Is (fun k => Bf.l0 k h i j l m) (Bf.l0v h i j l m) := ⟨fun k => (Bf.mono_l k) h i j l m, rfl⟩
theorem Bf.f_is (m : List Int) (l : List Int) : Is (fun k => Bf.f k m l) (Bf.fv m l) := ⟨fun k => Bf.mono m l k, rfl⟩
theorem Bf.l0v_eq (h : List Int) (i : List Int) (j : List Int) (l : Int) (m : Int) : Bf.l0v h i j l m = if m < l then (if 0 ≤ m then (if m < (j.length : Int) then ((Ad.fv h (rd j m)).bind fun c => (if c = true then (if i.length < 17592186044416 then (Bf.l0v h (i ++ [rd j m]) j l (wrap64 (m + 1))) else (none)) else (Bf.l0v h i j l (wrap64 (m + 1))))) else (none)) else (none)) else (some i) := by
  refine Is.step (Bf.l0_is h i j l m).mo (fun k => by rw [Bf.l0]) ?_
  exact Hu @Bf.l0_is @Ad.f_is
theorem Bf.fv_eq (m : List Int) (l : List Int) : Bf.fv m l = Bf.l0v l (([] : List Int)) m (m.length : Int) 0 := Is.fe (fun k => by rw [Bf.f]) (FQ @Bf.l0_is)
noncomputable def Ak.j0v (e : List Int) (g : List Int) (h : Bool) : Option (Int) := Lim fun k => Ak.j0 k e g h
noncomputable def Ak.l0v (g : Int) (h : List Int) (e : Int) (i : Int) : Option (Int) := Lim fun k => Ak.l0 k g h e i
noncomputable def Ak.fv (e : List Int) (g : List Int) : Option (Int) := Lim fun k => Ak.f k e g
theorem Ak.j0_is (e : List Int) (g : List Int) (h : Bool) : Is (fun k => Ak.j0 k e g h) (Ak.j0v e g h) := ⟨fun k => (Ak.mono_l k).1 e g h, rfl⟩
theorem Ak.l0_is (g : Int) (h : List Int) (e : Int) (i : Int) : Is (fun k => Ak.l0 k g h e i) (Ak.l0v g h e i) := ⟨fun k => (Ak.mono_l k).2 g h e i, rfl⟩
theorem Ak.f_is (e : List Int) (g : List Int) : Is (fun k => Ak.f k e g) (Ak.fv e g) := ⟨fun k => Ak.mono e g k, rfl⟩
theorem Ak.j0v_eq (e : List Int) (g : List Int) (h : Bool) : Ak.j0v e g h = if h = true then (some 0) else ((Bf.fv e g).bind fun i => (Ak.l0v 0 i (i.length : Int) 0)) := by
  refine Is.step (Ak.j0_is e g h).mo (fun k => by rw [Ak.j0]) ?_
  exact Hu @Ak.l0_is @Bf.f_is
theorem Ak.l0v_eq (g : Int) (h : List Int) (e : Int) (i : Int) : Ak.l0v g h e i = if i < e then (if 0 ≤ i then (if i < (h.length : Int) then (Ak.l0v (mx g (rd h i)) h e (wrap64 (i + 1))) else (none)) else (none)) else (some g) := by
  refine Is.step (Ak.l0_is g h e i).mo (fun k => by rw [Ak.l0]) ?_
  exact FQ @Ak.l0_is
theorem Ak.fv_eq (e : List Int) (g : List Int) : Ak.fv e g = (Ah.fv e).bind fun i => (if i = true then ((Ah.fv g).bind fun h => (Ak.j0v e g (!h))) else (Ak.j0v e g true)) := Is.fe (fun k => by rw [Ak.f]) (Hu @Ah.f_is @Ak.j0_is)
end Go.Proofs.YtibmehnippjakaaGreat.Print

/- Written by a program of this session (limx.py): the equations of what the printed functions come to. No condition. -/
namespace Go.Proofs.YtibmehnippjakaaGreat.Print
open Go.RowKit Go.Proofs.YtibmehnippjakaaGreatW.PrintWords Go.Proofs.YtibmehnippjakaaGreatW.PrintLast Go.Proofs.YtibmehnippjakaaGreat.Base
set_option linter.unusedVariables false
set_option maxRecDepth 20000
noncomputable def AM.l0v (h : List (S81)) (i : List (S81)) (j : Int) (l : Int) : Option ((List (S81))) := Lim fun k => AM.l0 k h i j l
noncomputable def AM.fv (l : List (S81)) : Option ((List (S81))) := Lim fun k => AM.f k l
theorem AM.l0_is (h : List (S81)) (i : List (S81)) (j : Int) (l : Int) : Is (fun k => AM.l0 k h i j l) (AM.l0v h i j l) := ⟨fun k => (AM.mono_l k) h i j l, rfl⟩
theorem AM.f_is (l : List (S81)) : Is (fun k => AM.f k l) (AM.fv l) := ⟨fun k => AM.mono l k, rfl⟩
theorem AM.l0v_eq (h : List (S81)) (i : List (S81)) (j : Int) (l : Int) : AM.l0v h i j l = if l < j then (if 0 ≤ l then (if l < (i.length : Int) then ((Gx.f ((AX i l).f0)).bind fun e => (if e = true then ((some (([] : List Int) : List Int)).bind fun b => (if b.length + ((AX i l).f1).length < 17592186044416 then (if h.length < 4398046511104 then (AM.l0v (h ++ [(⟨(AX i l).f0, (b ++ ((AX i l).f1))⟩ : S81)]) i j (wrap64 (l + 1))) else (none)) else (none))) else (AM.l0v h i j (wrap64 (l + 1))))) else (none)) else (none)) else (some h) := by
  refine Is.step (AM.l0_is h i j l).mo (fun k => by rw [AM.l0]) ?_
  exact FQ @AM.l0_is
theorem AM.fv_eq (l : List (S81)) : AM.fv l = AM.l0v (([] : List (S81))) l (l.length : Int) 0 := Is.fe (fun k => by rw [AM.f]) (FQ @AM.l0_is)
section
variable (c : List (S81))
noncomputable def Dl.fv := Lim fun k => Dl.f k c
theorem Dl.f_is : Is (fun k => Dl.f k c) (Dl.fv c) := ⟨fun k => Dl.mono c k, rfl⟩
theorem Dl.fv_eq : Dl.fv c = (AM.fv c).bind fun a => (some a) := Is.fe (fun k => by rw [Dl.f]) (FQ @AM.f_is)
end
section
variable (d : Int) (e : List Int)
noncomputable def EH.fv := Lim fun k => EH.f k d e
theorem EH.f_is : Is (fun k => EH.f k d e) (EH.fv d e) := ⟨fun k => EH.mono d e k, rfl⟩
theorem EH.fv_eq : EH.fv d e = (Ad.fv e d).bind fun b => (some b) := Is.fe (fun k => by rw [EH.f]) (FQ @Ad.f_is)
end
noncomputable def AV.l0v (i : List (S81)) (j : List (S81)) (l : Int) (m : Int) (n : List Int) : Option ((List (S81))) := Lim fun k => AV.l0 k i j l m n
noncomputable def AV.fv (n : List (S81)) (m : List Int) : Option ((List (S81))) := Lim fun k => AV.f k n m
theorem AV.l0_is (i : List (S81)) (j : List (S81)) (l : Int) (m : Int) (n : List Int) : Is (fun k => AV.l0 k i j l m n) (AV.l0v i j l m n) := ⟨fun k => (AV.mono_l k) i j l m n, rfl⟩
theorem AV.f_is (n : List (S81)) (m : List Int) : Is (fun k => AV.f k n m) (AV.fv n m) := ⟨fun k => AV.mono n m k, rfl⟩
theorem AV.l0v_eq (i : List (S81)) (j : List (S81)) (l : Int) (m : Int) (n : List Int) : AV.l0v i j l m n = if m < l then (if 0 ≤ m then (if m < (j.length : Int) then ((EH.fv ((AX j m).f0) n).bind fun g => (if g = true then ((some (([] : List Int) : List Int)).bind fun c => (if c.length + ((AX j m).f1).length < 17592186044416 then (if i.length < 4398046511104 then (AV.l0v (i ++ [(⟨(AX j m).f0, (c ++ ((AX j m).f1))⟩ : S81)]) j l (wrap64 (m + 1)) n) else (none)) else (none))) else (AV.l0v i j l (wrap64 (m + 1)) n))) else (none)) else (none)) else (some i) := by
  refine Is.step (AV.l0_is i j l m n).mo (fun k => by rw [AV.l0]) ?_
  exact Hu @EH.f_is @AV.l0_is
theorem AV.fv_eq (n : List (S81)) (m : List Int) : AV.fv n m = AV.l0v (([] : List (S81))) n (n.length : Int) 0 m := Is.fe (fun k => by rw [AV.f]) (FQ @AV.l0_is)
section
variable (d : List (S81)) (e : List Int)
noncomputable def EZ.fv := Lim fun k => EZ.f k d e
theorem EZ.f_is : Is (fun k => EZ.f k d e) (EZ.fv d e) := ⟨fun k => EZ.mono d e k, rfl⟩
theorem EZ.fv_eq : EZ.fv d e = (AV.fv d e).bind fun a => (some a) := Is.fe (fun k => by rw [EZ.f]) (FQ @AV.f_is)
end
noncomputable def BN.j0v (i : List Int) (j : Int) (l : Bool) (m : List Int) (n : List (S81)) : Option (Int × (List (S81)) × Bool) := Lim fun k => BN.j0 k i j l m n
noncomputable def BN.fv (i : List Int) (l : List Int) (n : List Int) (o : List (S81)) : Option (Int × (List (S81)) × Bool) := Lim fun k => BN.f k i l n o
theorem BN.j0_is (i : List Int) (j : Int) (l : Bool) (m : List Int) (n : List (S81)) : Is (fun k => BN.j0 k i j l m n) (BN.j0v i j l m n) := ⟨fun k => (BN.mono_l k) i j l m n, rfl⟩
theorem BN.f_is (i : List Int) (l : List Int) (n : List Int) (o : List (S81)) : Is (fun k => BN.f k i l n o) (BN.fv i l n o) := ⟨fun k => BN.mono i l n o k, rfl⟩
theorem BN.j0v_eq (i : List Int) (j : Int) (l : Bool) (m : List Int) (n : List (S81)) : BN.j0v i j l m n = if l = true then (some (0, ([] : List (S81)), false)) else ((EZ.fv n i).bind fun o => ((Dl.fv o).bind fun c => (some (j, c, true)))) := by
  refine Is.step (BN.j0_is i j l m n).mo (fun k => by rw [BN.j0]) ?_
  exact Hu @EZ.f_is @Dl.f_is
theorem BN.fv_eq (i : List Int) (l : List Int) (n : List Int) (o : List (S81)) : BN.fv i l n o = (Ak.fv i n).bind fun c => ((BQ.fv n o).bind fun m => (if m = true then (BN.j0v l c (c == 0) n o) else (BN.j0v l c true n o))) := Is.fe (fun k => by rw [BN.f]) (NJ @Ak.f_is @BN.j0_is @BQ.f_is)
section
variable (c : List Int)
noncomputable def DL.fv := Lim fun k => DL.f k c
theorem DL.f_is : Is (fun k => DL.f k c) (DL.fv c) := ⟨fun k => DL.mono c k, rfl⟩
theorem DL.fv_eq : DL.fv c = (Bn.fv c 0 255).bind fun a => (some (!a)) := Is.fe (fun k => by rw [DL.f]) (FQ @Bn.f_is)
end
end Go.Proofs.YtibmehnippjakaaGreat.Print

/- Written by a program of this session (limx.py): the equations of what the printed functions come to. No condition. -/
namespace Go.Proofs.YtibmehnippjakaaGreat.Print
open Go.RowKit Go.Proofs.YtibmehnippjakaaGreatW.PrintWords Go.Proofs.YtibmehnippjakaaGreatW.PrintLast Go.Proofs.YtibmehnippjakaaGreat.Base
set_option linter.unusedVariables false
set_option maxRecDepth 20000
noncomputable def AH.l0v (e : List (List Int)) (g : Int) (h : Int) : Option (Int) := Lim fun k => AH.l0 k e g h
noncomputable def AH.fv (h : List (List Int)) : Option (Int) := Lim fun k => AH.f k h
theorem AH.l0_is (e : List (List Int)) (g : Int) (h : Int) : Is (fun k => AH.l0 k e g h) (AH.l0v e g h) := ⟨fun k => (AH.mono_l k) e g h, rfl⟩
theorem AH.f_is (h : List (List Int)) : Is (fun k => AH.f k h) (AH.fv h) := ⟨fun k => AH.mono h k, rfl⟩
theorem AH.l0v_eq (e : List (List Int)) (g : Int) (h : Int) : AH.l0v e g h = if h < g then (if 0 ≤ h then (if h < (e.length : Int) then ((DL.fv (HU e h)).bind fun b => (if b = true then (some h) else (AH.l0v e g (wrap64 (h + 1))))) else (none)) else (none)) else (some (-1)) := by
  refine Is.step (AH.l0_is e g h).mo (fun k => by rw [AH.l0]) ?_
  exact Hu @DL.f_is @AH.l0_is
theorem AH.fv_eq (h : List (List Int)) : AH.fv h = AH.l0v h (h.length : Int) 0 := Is.fe (fun k => by rw [AH.f]) (FQ @AH.l0_is)
section
variable (c : List (List Int))
noncomputable def An.fv := Lim fun k => An.f k c
theorem An.f_is : Is (fun k => An.f k c) (An.fv c) := ⟨fun k => An.mono c k, rfl⟩
theorem An.fv_eq : An.fv c = (AH.fv c).bind fun a => (some (decide (a ≥ 0))) := Is.fe (fun k => by rw [An.f]) (FQ @AH.f_is)
end
section
variable (c : List (List Int))
noncomputable def Ce.fv := Lim fun k => Ce.f k c
theorem Ce.f_is : Is (fun k => Ce.f k c) (Ce.fv c) := ⟨fun k => Ce.mono c k, rfl⟩
theorem Ce.fv_eq : Ce.fv c = if (c.length : Int) ≤ 12 then ((An.fv c).bind fun a => (some (!a))) else (some false) := Is.fe (fun k => by rw [Ce.f]) (FQ @An.f_is)
end
section
variable (b : Int)
noncomputable def DK.fv := Lim fun k => DK.f k b
theorem DK.f_is : Is (fun k => DK.f k b) (DK.fv b) := ⟨fun k => DK.mono b k, rfl⟩
theorem DK.fv_eq : DK.fv b = if 0 ≤ b then (if b < 17592186044416 then (some []) else none) else none := Is.fe (fun k => by rw [DK.f]) ZU
end
noncomputable def AW.l0v (h : List (List Int)) (i : Int) (j : List (List Int)) (l : Int) (m : Int) : Option (List Int) := Lim fun k => AW.l0 k h i j l m
noncomputable def AW.l1v (j : List Int) (n : List (List Int)) (l : Int) (m : Int) : Option (List Int) := Lim fun k => AW.l1 k j n l m
noncomputable def AW.fv (m : List (List Int)) : Option (List Int) := Lim fun k => AW.f k m
theorem AW.l0_is (h : List (List Int)) (i : Int) (j : List (List Int)) (l : Int) (m : Int) : Is (fun k => AW.l0 k h i j l m) (AW.l0v h i j l m) := ⟨fun k => (AW.mono_l k).1 h i j l m, rfl⟩
theorem AW.l1_is (j : List Int) (n : List (List Int)) (l : Int) (m : Int) : Is (fun k => AW.l1 k j n l m) (AW.l1v j n l m) := ⟨fun k => (AW.mono_l k).2 j n l m, rfl⟩
theorem AW.f_is (m : List (List Int)) : Is (fun k => AW.f k m) (AW.fv m) := ⟨fun k => AW.mono m k, rfl⟩
theorem AW.l0v_eq (h : List (List Int)) (i : Int) (j : List (List Int)) (l : Int) (m : Int) : AW.l0v h i j l m = if m < l then (if 0 ≤ m then (if m < (j.length : Int) then (if (wrap64 (i + ((HU j m).length : Int))) < 0 then (none) else (AW.l0v h (wrap64 (i + ((HU j m).length : Int))) j l (wrap64 (m + 1)))) else (none)) else (none)) else ((DK.fv i).bind fun n => (AW.l1v n h (h.length : Int) 0)) := by
  refine Is.step (AW.l0_is h i j l m).mo (fun k => by rw [AW.l0]) ?_
  exact NJ @AW.l0_is @AW.l1_is @DK.f_is
theorem AW.l1v_eq (j : List Int) (n : List (List Int)) (l : Int) (m : Int) : AW.l1v j n l m = if m < l then (if 0 ≤ m then (if m < (n.length : Int) then (if j.length + (HU n m).length < 17592186044416 then (AW.l1v (j ++ (HU n m)) n l (wrap64 (m + 1))) else (none)) else (none)) else (none)) else (some j) := by
  refine Is.step (AW.l1_is j n l m).mo (fun k => by rw [AW.l1]) ?_
  exact FQ @AW.l1_is
theorem AW.fv_eq (m : List (List Int)) : AW.fv m = AW.l0v m 0 m (m.length : Int) 0 := Is.fe (fun k => by rw [AW.f]) (FQ @AW.l0_is)
section
variable (e : Int) (g : List Int)
noncomputable def EB.fv := Lim fun k => EB.f k e g
theorem EB.f_is : Is (fun k => EB.f k e g) (EB.fv e g) := ⟨fun k => EB.mono e g k, rfl⟩
theorem EB.fv_eq : EB.fv e g = (AW.fv (([(([e] : List Int)), g, (([e] : List Int))] : List (List Int)))).bind fun a => ((CJ.fv a).bind fun b => (some b)) := Is.fe (fun k => by rw [EB.f]) (Hu @CJ.f_is @AW.f_is)
end
section
variable (h : Int) (i : List (List Int)) (j l : Int) (m : List (List Int))
noncomputable def BA.l0v := Lim fun k => BA.l0 k h i j l
noncomputable def BA.fv := Lim fun k => BA.f k m
theorem BA.l0_is : Is (fun k => BA.l0 k h i j l) (BA.l0v h i j l) := ⟨fun k => (BA.mono_l k) h i j l, rfl⟩
theorem BA.f_is : Is (fun k => BA.f k m) (BA.fv m) := ⟨fun k => BA.mono m k, rfl⟩
theorem BA.l0v_eq : BA.l0v h i j l = if l < j then (if 0 ≤ l then (if l < (i.length : Int) then ((some (([h, ((HU i l).length : Int)] : List Int) : List Int)).bind fun m => (if m.length + (HU i l).length < 17592186044416 then ((CJ.fv (m ++ (HU i l))).bind fun c => (BA.l0v c i j (wrap64 (l + 1)))) else (none))) else (none)) else (none)) else (some h) := by
  refine Is.step (BA.l0_is h i j l).mo (fun k => by rw [BA.l0]) ?_
  exact Hu @CJ.f_is @BA.l0_is
theorem BA.fv_eq : BA.fv m = (Ce.fv m).bind fun l => (if l = true then (BA.l0v 1 m (m.length : Int) 0) else (some 0)) := Is.fe (fun k => by rw [BA.f]) (Hu @Ce.f_is @BA.l0_is)
end
noncomputable def BR.j0v (h : Int) (i : List (List Int)) (j : Int) (l : Bool) : Option (Int) := Lim fun k => BR.j0 k h i j l
noncomputable def BR.fv (h : Int) (j : List (List Int)) (i : Int) : Option (Int) := Lim fun k => BR.f k h j i
theorem BR.j0_is (h : Int) (i : List (List Int)) (j : Int) (l : Bool) : Is (fun k => BR.j0 k h i j l) (BR.j0v h i j l) := ⟨fun k => (BR.mono_l k) h i j l, rfl⟩
theorem BR.f_is (h : Int) (j : List (List Int)) (i : Int) : Is (fun k => BR.f k h j i) (BR.fv h j i) := ⟨fun k => BR.mono h j i k, rfl⟩
theorem BR.j0v_eq (h : Int) (i : List (List Int)) (j : Int) (l : Bool) : BR.j0v h i j l = if l = true then (some 0) else ((BA.fv i).bind fun a => ((EB.fv h (([j, a] : List Int))).bind fun b => (some b))) := by
  refine Is.step (BR.j0_is h i j l).mo (fun k => by rw [BR.j0]) ?_
  exact Hu @EB.f_is @BA.f_is
theorem BR.fv_eq (h : Int) (j : List (List Int)) (i : Int) : BR.fv h j i = (Ey.f h).bind fun a => (if a = true then ((Ce.fv j).bind fun b => (if b = true then ((Cb.f i 0 1).bind fun l => (BR.j0v h j i (!l))) else (BR.j0v h j i true))) else (BR.j0v h j i true)) := Is.fe (fun k => by rw [BR.f]) (Hu @BR.j0_is @Ce.f_is)
end Go.Proofs.YtibmehnippjakaaGreat.Print

/- Written by a program of this session (limx.py): the equations of what the printed functions come to. No condition. -/
namespace Go.Proofs.YtibmehnippjakaaGreat.Print
open Go.RowKit Go.Proofs.YtibmehnippjakaaGreatW.PrintWords Go.Proofs.YtibmehnippjakaaGreatW.PrintLast Go.Proofs.YtibmehnippjakaaGreat.Base
set_option linter.unusedVariables false
set_option maxRecDepth 20000
section
variable (g : List Int) (h : List (S81)) (i j : Int)
noncomputable def BF.l0v := Lim fun k => BF.l0 k g h i j
noncomputable def BF.fv := Lim fun k => BF.f k h
theorem BF.l0_is : Is (fun k => BF.l0 k g h i j) (BF.l0v g h i j) := ⟨fun k => (BF.mono_l k) g h i j, rfl⟩
theorem BF.f_is : Is (fun k => BF.f k h) (BF.fv h) := ⟨fun k => BF.mono h k, rfl⟩
theorem BF.l0v_eq : BF.l0v g h i j = if j < i then (if 0 ≤ j then (if j < (h.length : Int) then ((some (([(AX h j).f0, (((AX h j).f1).length : Int)] : List Int) : List Int)).bind fun c => (if g.length + c.length < 17592186044416 then ((some (g ++ c : List Int)).bind fun d => (if d.length + ((AX h j).f1).length < 17592186044416 then (BF.l0v (d ++ ((AX h j).f1)) h i (wrap64 (j + 1))) else (none))) else (none))) else (none)) else (none)) else (some (g, true)) := by
  refine Is.step (BF.l0_is g h i j).mo (fun k => by rw [BF.l0]) ?_
  exact FQ @BF.l0_is
theorem BF.fv_eq : BF.fv h = (BE.fv h).bind fun j => (if j = true then (BF.l0v (([(h.length : Int)] : List Int)) h (h.length : Int) 0) else (some (([] : List Int), false))) := Is.fe (fun k => by rw [BF.f]) (Hu @BE.f_is @BF.l0_is)
end
section
variable (g : List Int) (h : List (S81))
noncomputable def DY.fv := Lim fun k => DY.f k g h
theorem DY.f_is : Is (fun k => DY.f k g h) (DY.fv g h) := ⟨fun k => DY.mono g h k, rfl⟩
theorem DY.fv_eq : DY.fv g h = (BQ.fv g h).bind fun d => (if d = true then ((BF.fv h).bind fun c => ((AW.fv (([(([(g.length : Int)] : List Int)), g, c.1] : List (List Int)))).bind fun e => (some e))) else (some ([] : List Int))) := Is.fe (fun k => by rw [DY.f]) (NJ @BF.f_is @BQ.f_is @AW.f_is)
end
section
variable (e : Int) (g : List (S81))
noncomputable def Dk.fv := Lim fun k => Dk.f k e g
theorem Dk.f_is : Is (fun k => Dk.f k e g) (Dk.fv e g) := ⟨fun k => Dk.mono e g k, rfl⟩
theorem Dk.fv_eq : Dk.fv e g = (Cb.f e 1 9).bind fun c => (if c = true then ((BE.fv g).bind fun d => (some d)) else (some false)) := Is.fe (fun k => by rw [Dk.f]) (FQ @BE.f_is)
end
section
variable (g : Int) (h : List (S81))
noncomputable def DT.fv := Lim fun k => DT.f k g h
theorem DT.f_is : Is (fun k => DT.f k g h) (DT.fv g h) := ⟨fun k => DT.mono g h k, rfl⟩
theorem DT.fv_eq : DT.fv g h = (Dk.fv g h).bind fun e => (if e = true then ((BF.fv h).bind fun a => ((some (([g] : List Int) : List Int)).bind fun d => (if d.length + a.1.length < 17592186044416 then (some (d ++ a.1)) else (none)))) else (some ([] : List Int))) := Is.fe (fun k => by rw [DT.f]) (Hu @BF.f_is @Dk.f_is)
end
section
variable (d : List (S81))
noncomputable def DU.fv := Lim fun k => DU.f k d
theorem DU.f_is : Is (fun k => DU.f k d) (DU.fv d) := ⟨fun k => DU.mono d k, rfl⟩
theorem DU.fv_eq : DU.fv d = (BO.fv d).bind fun a => ((DJ.fv a).bind fun b => (some b)) := Is.fe (fun k => by rw [DU.f]) (Hu @DJ.f_is @BO.f_is)
end
end Go.Proofs.YtibmehnippjakaaGreat.Print

/- Written by a program of this session (limx.py): the equations of what the printed functions come to. No condition. -/
namespace Go.Proofs.YtibmehnippjakaaGreat.Print
open Go.RowKit Go.Proofs.YtibmehnippjakaaGreatW.PrintWords Go.Proofs.YtibmehnippjakaaGreatW.PrintLast Go.Proofs.YtibmehnippjakaaGreat.Base
set_option linter.unusedVariables false
set_option maxRecDepth 20000
section
variable (n : List Int) (o : List (S81)) (p : Int) (q : List (S81))
noncomputable def B'.fv := Lim fun k => B'.f k n o p q
theorem B'.f_is : Is (fun k => B'.f k n o p q) (B'.fv n o p q) := ⟨fun k => B'.mono n o p q k, rfl⟩
theorem B'.fv_eq : B'.fv n o p q = (BQ.fv n o).bind fun e => (if e = true then ((Dk.fv p q).bind fun g => (if g = true then ((Ad.fv n p).bind fun h => (if h = true then ((BO.fv q).bind fun i => ((BO.fv o).bind fun j => ((BI.fv i j).bind fun l => (if (l.length : Int) = 0 then ((DU.fv q).bind fun m => (some (!m))) else (some false))))) else (some false))) else (some false))) else (some false)) := Is.fe (fun k => by rw [B'.f]) (YG @DU.f_is @Dk.f_is @BQ.f_is @BO.f_is @BI.f_is @Ad.f_is)
end
section
variable (g : Int) (h : List (List Int)) (i j : Int)
noncomputable def Dz.fv := Lim fun k => Dz.f k g h i j
theorem Dz.f_is : Is (fun k => Dz.f k g h i j) (Dz.fv g h i j) := ⟨fun k => Dz.mono g h i j k, rfl⟩
theorem Dz.fv_eq : Dz.fv g h i j = if j = 0 then (some false) else ((BR.fv g h i).bind fun a => (some (j == a))) := Is.fe (fun k => by rw [Dz.f]) (FQ @BR.f_is)
end
end Go.Proofs.YtibmehnippjakaaGreat.Print

/- Written by a program of this session (limx.py): the equations of what the printed functions come to. No condition. -/
namespace Go.Proofs.YtibmehnippjakaaGreat.Print
open Go.RowKit Go.Proofs.YtibmehnippjakaaGreatW.PrintWords Go.Proofs.YtibmehnippjakaaGreatW.PrintLast Go.Proofs.YtibmehnippjakaaGreat.Base
set_option linter.unusedVariables false
set_option maxRecDepth 20000
noncomputable def Bw.l0v (w : Int) (x : List (K9)) (y : Int) (z : Int) (A : List Int) (B : List (S81)) (C : List Int) (D : List (S81)) (E : Int) (F : List (S81)) (G : Int) (H : List (S81)) : Option (Bool × Int × List Int) := Lim fun k => Bw.l0 k w x y z A B C D E F G H
noncomputable def Bw.fv (B : List Int) (C : List (S81)) (H : List Int) (A : List (S81)) (F : List Int) (z : List Int) (E : Int) (D : List (K9)) : Option (Bool × Int × List Int) := Lim fun k => Bw.f k B C H A F z E D
theorem Bw.l0_is (w : Int) (x : List (K9)) (y : Int) (z : Int) (A : List Int) (B : List (S81)) (C : List Int) (D : List (S81)) (E : Int) (F : List (S81)) (G : Int) (H : List (S81)) : Is (fun k => Bw.l0 k w x y z A B C D E F G H) (Bw.l0v w x y z A B C D E F G H) := ⟨fun k => (Bw.mono_l k) w x y z A B C D E F G H, rfl⟩
theorem Bw.f_is (B : List Int) (C : List (S81)) (H : List Int) (A : List (S81)) (F : List Int) (z : List Int) (E : Int) (D : List (K9)) : Is (fun k => Bw.f k B C H A F z E D) (Bw.fv B C H A F z E D) := ⟨fun k => Bw.mono B C H A F z E D k, rfl⟩
theorem Bw.l0v_eq (w : Int) (x : List (K9)) (y : Int) (z : Int) (A : List Int) (B : List (S81)) (C : List Int) (D : List (S81)) (E : Int) (F : List (S81)) (G : Int) (H : List (S81)) : Bw.l0v w x y z A B C D E F G H = if z < y then (if 0 ≤ z then (if z < (x.length : Int) then (none) else (none)) else (none)) else ((DY.fv C D).bind fun l => ((DT.fv E F).bind fun m => ((BR.fv w (([l, m] : List (List Int))) 1).bind fun n => ((B'.fv A B G H).bind fun o => (if o = true then ((DY.fv A B).bind fun p => ((DT.fv G H).bind fun q => ((Dz.fv w (([p, q] : List (List Int))) 1 n).bind fun r => (if r = true then ((BO.fv H).bind fun s => (some (true, G, s))) else (some (false, 0, ([] : List Int))))))) else (some (false, 0, ([] : List Int)))))))) := by
  refine Is.step (Bw.l0_is w x y z A B C D E F G H).mo (fun k => by rw [Bw.l0]) ?_
  exact YG @DT.f_is @Dz.f_is @BR.f_is @B'.f_is @DY.f_is @BO.f_is
theorem Bw.fv_eq (B : List Int) (C : List (S81)) (H : List Int) (A : List (S81)) (F : List Int) (z : List Int) (E : Int) (D : List (K9)) : Bw.fv B C H A F z E D = (BN.fv F z H A).bind fun G => (if G.2.2 = true then (Bw.l0v E D (D.length : Int) 0 B C H A G.1 G.2.1 G.1 G.2.1) else (some (false, 0, ([] : List Int)))) := Is.fe (fun k => by rw [Bw.f]) (Hu @BN.f_is @Bw.l0_is)
section
variable (j : List Int) (l : List (S81)) (m : List (S75)) (n o : List Int) (p : Int)
noncomputable def EP.fv := Lim fun k => EP.f k j l m n o p
theorem EP.f_is : Is (fun k => EP.f k j l m n o p) (EP.fv j l m n o p) := ⟨fun k => EP.mono j l m n o p k, rfl⟩
theorem EP.fv_eq : EP.fv j l m n o p = (Am.fv m j l).bind fun a => (if a.2.2 = true then ((Bw.fv j l a.1 a.2.1 n o p ([] : List (K9))).bind fun b => (some (b.1, b.2.1, b.2.2))) else (some (false, 0, ([] : List Int)))) := Is.fe (fun k => by rw [EP.f]) (Hu @Am.f_is @Bw.f_is)
end
end Go.Proofs.YtibmehnippjakaaGreat.Print

/- Written by a program of this session (limx.py): the equations of what the printed functions come to. No condition. -/
namespace Go.Proofs.YtibmehnippjakaaGreat.Print
open Go.RowKit Go.Proofs.YtibmehnippjakaaGreatW.PrintWords Go.Proofs.YtibmehnippjakaaGreatW.PrintLast Go.Proofs.YtibmehnippjakaaGreat.Base
set_option linter.unusedVariables false
set_option maxRecDepth 20000
noncomputable def Be.l0v (j : List Int) (l : List Int) (m : Int) (n : Int) : Option (List Int) := Lim fun k => Be.l0 k j l m n
noncomputable def Be.fv (l : List Int) (m : List (S81)) (o : List Int) (j : List (S81)) : Option (List Int) := Lim fun k => Be.f k l m o j
theorem Be.l0_is (j : List Int) (l : List Int) (m : Int) (n : Int) : Is (fun k => Be.l0 k j l m n) (Be.l0v j l m n) := ⟨fun k => (Be.mono_l k) j l m n, rfl⟩
theorem Be.f_is (l : List Int) (m : List (S81)) (o : List Int) (j : List (S81)) : Is (fun k => Be.f k l m o j) (Be.fv l m o j) := ⟨fun k => Be.mono l m o j k, rfl⟩
theorem Be.l0v_eq (j : List Int) (l : List Int) (m : Int) (n : Int) : Be.l0v j l m n = if n < m then (if 0 ≤ n then (if n < (l.length : Int) then ((Cb.f (rd l n) 0 255).bind fun o => (if o = true then (if j.length < 17592186044416 then (Be.l0v (j ++ [wrap64 (1000 + (rd l n))]) l m (wrap64 (n + 1))) else (none)) else (Be.l0v j l m (wrap64 (n + 1))))) else (none)) else (none)) else (some j) := by
  refine Is.step (Be.l0_is j l m n).mo (fun k => by rw [Be.l0]) ?_
  exact FQ @Be.l0_is
theorem Be.fv_eq (l : List Int) (m : List (S81)) (o : List Int) (j : List (S81)) : Be.fv l m o j = (BI.fv l o).bind fun g => ((BO.fv m).bind fun h => ((BO.fv j).bind fun i => ((BI.fv h i).bind fun n => (Be.l0v g n (n.length : Int) 0)))) := Is.fe (fun k => by rw [Be.f]) (NJ @Be.l0_is @BO.f_is @BI.f_is)
section
variable (l : List Int) (m : List (S81)) (n : List (S75)) (o p : List Int) (q : Int)
noncomputable def Ei.fv := Lim fun k => Ei.f k l m n o p q
theorem Ei.f_is : Is (fun k => Ei.f k l m n o p q) (Ei.fv l m n o p q) := ⟨fun k => Ei.mono l m n o p q k, rfl⟩
theorem Ei.fv_eq : Ei.fv l m n o p q = (EN.fv l m n).bind fun a => (if a.2.2.2 = true then ((EP.fv a.1 a.2.1 n o p q).bind fun b => ((Be.fv l m a.1 a.2.1).bind fun e => (some (b.1, b.2.1, b.2.2, a.2.2.1, e)))) else (some (false, 0, ([] : List Int), a.2.2.1, ([] : List Int)))) := Is.fe (fun k => by rw [Ei.f]) (NJ @EP.f_is @Be.f_is @EN.f_is)
end
section
variable (n o : List Int) (p : List (S75)) (q : Int) (r s : List Int) (t u : Int)
noncomputable def DX.fv := Lim fun k => DX.f k n o p q r s t u
theorem DX.f_is : Is (fun k => DX.f k n o p q r s t u) (DX.fv n o p q r s t u) := ⟨fun k => DX.mono n o p q r s t u k, rfl⟩
theorem DX.fv_eq : DX.fv n o p q r s t u = (B9.fv n o p q).bind fun h => (if h = true then ((Bj.fv n o p q u).bind fun b => ((Ei.fv b.1 b.2 p r s t).bind fun a => (some (a.1, a.2.1, a.2.2.1, a.2.2.2.1, a.2.2.2.2)))) else (some (false, 0, ([] : List Int), 0, ([] : List Int)))) := Is.fe (fun k => by rw [DX.f]) (NJ @Ei.f_is @Bj.f_is @B9.f_is)
end
end Go.Proofs.YtibmehnippjakaaGreat.Print

/- Written by a program of this session (limx.py): the equations of what the printed functions come to. No condition. -/
namespace Go.Proofs.YtibmehnippjakaaGreat.Print
open Go.RowKit Go.Proofs.YtibmehnippjakaaGreatW.PrintWords Go.Proofs.YtibmehnippjakaaGreatW.PrintLast Go.Proofs.YtibmehnippjakaaGreat.Base
set_option linter.unusedVariables false
set_option maxRecDepth 20000
section
variable (d : List Int) (e f : Int)
noncomputable def CE.l0v := Lim fun k => CE.l0 k d e f
noncomputable def CE.fv := Lim fun k => CE.f k d
theorem CE.l0_is : Is (fun k => CE.l0 k d e f) (CE.l0v d e f) := ⟨fun k => (CE.mono_l k) d e f, rfl⟩
theorem CE.f_is : Is (fun k => CE.f k d) (CE.fv d) := ⟨fun k => CE.mono d k, rfl⟩
theorem CE.l0v_eq : CE.l0v d e f = if f < (d.length : Int) then (if f < 4000 then (if 0 ≤ f then (CE.l0v d (Go.bits .and .i64 (wrap64 ((wrap64 ((wrap64 (e * 137)) + (wrap64 (rd d f)))) + 11)) 1073741823) (wrap64 (f + 1))) else (none)) else (some (d, 0, e))) else (some (d, 0, e)) := by
  refine Is.step (CE.l0_is d e f).mo (fun k => by rw [CE.l0]) ?_
  exact FQ @CE.l0_is
theorem CE.fv_eq : CE.fv d = CE.l0v d (wrap64 (193017 + (d.length : Int))) 0 := Is.fe (fun k => by rw [CE.f]) (FQ @CE.l0_is)
end
end Go.Proofs.YtibmehnippjakaaGreat.Print

/- Written by a program of this session (limx.py): the equations of what the printed functions come to. No condition. -/
namespace Go.Proofs.YtibmehnippjakaaGreat.Print
open Go.RowKit Go.Proofs.YtibmehnippjakaaGreatW.PrintWords Go.Proofs.YtibmehnippjakaaGreatW.PrintLast Go.Proofs.YtibmehnippjakaaGreat.Base
set_option linter.unusedVariables false
set_option maxRecDepth 20000
noncomputable def BZ.l0v (n : List Int) (o : Int) (p : Int) : Option (List Int) := Lim fun k => BZ.l0 k n o p
noncomputable def BZ.fv (p : List Int) (n : Int) : Option (List Int) := Lim fun k => BZ.f k p n
theorem BZ.l0_is (n : List Int) (o : Int) (p : Int) : Is (fun k => BZ.l0 k n o p) (BZ.l0v n o p) := ⟨fun k => (BZ.mono_l k) n o p, rfl⟩
theorem BZ.f_is (p : List Int) (n : Int) : Is (fun k => BZ.f k p n) (BZ.fv p n) := ⟨fun k => BZ.mono p n k, rfl⟩
theorem BZ.l0v_eq (n : List Int) (o : Int) (p : Int) : BZ.l0v n o p = if p < (n.length : Int) then (if 0 ≤ p then (if (rd n p) < o then (BZ.l0v n o (wrap64 (p + 1))) else (if (rd n p) = o then ((some (([] : List Int) : List Int)).bind fun c => (if c.length + n.length < 17592186044416 then (some (c ++ n)) else (none))) else ((some (([] : List Int) : List Int)).bind fun d => (if p ≤ (n.length : Int) then (if d.length + (n.take (p : Int).toNat).length < 17592186044416 then ((some (d ++ (n.take (p : Int).toNat) : List Int)).bind fun e => ((some (([o] : List Int) : List Int)).bind fun f => (if e.length + f.length < 17592186044416 then ((some (e ++ f : List Int)).bind fun g => (if g.length + (n.drop (p : Int).toNat).length < 17592186044416 then (some (g ++ (n.drop (p : Int).toNat))) else (none))) else (none)))) else (none)) else (none))))) else (none)) else ((some (([] : List Int) : List Int)).bind fun h => (if 0 ≤ p then (if p ≤ (n.length : Int) then (if h.length + (n.take (p : Int).toNat).length < 17592186044416 then ((some (h ++ (n.take (p : Int).toNat) : List Int)).bind fun i => ((some (([o] : List Int) : List Int)).bind fun j => (if i.length + j.length < 17592186044416 then ((some (i ++ j : List Int)).bind fun l => (if l.length + (n.drop (p : Int).toNat).length < 17592186044416 then (some (l ++ (n.drop (p : Int).toNat))) else (none))) else (none)))) else (none)) else (none)) else (none))) := by
  refine Is.step (BZ.l0_is n o p).mo (fun k => by rw [BZ.l0]) ?_
  exact FQ @BZ.l0_is
theorem BZ.fv_eq (p : List Int) (n : Int) : BZ.fv p n = BZ.l0v p n 0 := Is.fe (fun k => by rw [BZ.f]) (FQ @BZ.l0_is)
noncomputable def BW.l0v (i : List Int) (j : Int) (l : List Int) (m : Int) (n : Int) : Option (List Int × Int × Int) := Lim fun k => BW.l0 k i j l m n
noncomputable def BW.fv (m : List Int) (n : Int) (o : Int) : Option (List Int × Int × Int) := Lim fun k => BW.f k m n o
theorem BW.l0_is (i : List Int) (j : Int) (l : List Int) (m : Int) (n : Int) : Is (fun k => BW.l0 k i j l m n) (BW.l0v i j l m n) := ⟨fun k => (BW.mono_l k) i j l m n, rfl⟩
theorem BW.f_is (m : List Int) (n : Int) (o : Int) : Is (fun k => BW.f k m n o) (BW.fv m n o) := ⟨fun k => BW.mono m n o k, rfl⟩
theorem BW.l0v_eq (i : List Int) (j : Int) (l : List Int) (m : Int) (n : Int) : BW.l0v i j l m n = if j > 0 then ((Cc.f l m n 6).bind fun a => ((BZ.fv i (wrap64 (1 + a.1))).bind fun o => (BW.l0v o (wrap64 (j - 1)) l a.2.1 a.2.2))) else (some (i, m, n)) := by
  refine Is.step (BW.l0_is i j l m n).mo (fun k => by rw [BW.l0]) ?_
  exact Hu @BW.l0_is @BZ.f_is
theorem BW.fv_eq (m : List Int) (n : Int) (o : Int) : BW.fv m n o = (Cc.f m n o 4).bind fun a => ((Cc.f m a.2.1 a.2.2 4).bind fun l => (BW.l0v (([wrap64 (1 + a.1)] : List Int)) l.1 m l.2.1 l.2.2)) := Is.fe (fun k => by rw [BW.f]) (FQ @BW.l0_is)
end Go.Proofs.YtibmehnippjakaaGreat.Print

/- Written by a program of this session (limx.py): the equations of what the printed functions come to. No condition. -/
namespace Go.Proofs.YtibmehnippjakaaGreat.Print
open Go.RowKit Go.Proofs.YtibmehnippjakaaGreatW.PrintWords Go.Proofs.YtibmehnippjakaaGreatW.PrintLast Go.Proofs.YtibmehnippjakaaGreat.Base
set_option linter.unusedVariables false
set_option maxRecDepth 20000
section
variable (i : List Int) (j : Int) (l : List Int) (m n : Int)
noncomputable def Bc.l0v := Lim fun k => Bc.l0 k i j l m n
noncomputable def Bc.fv := Lim fun k => Bc.f k l m n
theorem Bc.l0_is : Is (fun k => Bc.l0 k i j l m n) (Bc.l0v i j l m n) := ⟨fun k => (Bc.mono_l k) i j l m n, rfl⟩
theorem Bc.f_is : Is (fun k => Bc.f k l m n) (Bc.fv l m n) := ⟨fun k => Bc.mono l m n k, rfl⟩
theorem Bc.l0v_eq : Bc.l0v i j l m n = if j > 0 then ((D'.f l m n (([1, 2, 3, 10, 40, 200] : List Int))).bind fun a => ((BZ.fv i a.1).bind fun e => (Bc.l0v e (wrap64 (j - 1)) l a.2.1 a.2.2))) else (some (i, m, n)) := by
  refine Is.step (Bc.l0_is i j l m n).mo (fun k => by rw [Bc.l0]) ?_
  exact Hu @Bc.l0_is @BZ.f_is
theorem Bc.fv_eq : Bc.fv l m n = (Cc.f l m n 5).bind fun a => (Bc.l0v (([] : List Int)) a.1 l a.2.1 a.2.2) := Is.fe (fun k => by rw [Bc.f]) (FQ @Bc.l0_is)
end
section
variable (i : List Int) (j l : Int)
noncomputable def EA.fv := Lim fun k => EA.f k i j l
theorem EA.f_is : Is (fun k => EA.f k i j l) (EA.fv i j l) := ⟨fun k => EA.mono i j l k, rfl⟩
theorem EA.fv_eq : EA.fv i j l = (Cc.f i j l 7).bind fun a => (if a.1 = 0 then ((Cc.f i a.2.1 a.2.2 6).bind fun b => (some (wrap64 (1 + b.1), ([] : List Int), ([] : List Int), false, b.2.1, b.2.2))) else (if a.1 = 1 then ((Bc.fv i a.2.1 a.2.2).bind fun c => (some (0, c.1, ([] : List Int), false, c.2.1, c.2.2))) else (if a.1 = 2 then ((Bc.fv i a.2.1 a.2.2).bind fun d => (some (0, ([] : List Int), d.1, false, d.2.1, d.2.2))) else (if a.1 = 3 then (some (0, ([] : List Int), ([] : List Int), true, a.2.1, a.2.2)) else (some (0, ([] : List Int), ([] : List Int), false, a.2.1, a.2.2)))))) := Is.fe (fun k => by rw [EA.f]) (FQ @Bc.f_is)
end
section
variable (h : List (S75)) (i : Int) (j : List Int) (l m : Int)
noncomputable def Br.l0v := Lim fun k => Br.l0 k h i j l m
noncomputable def Br.fv := Lim fun k => Br.f k j l m
theorem Br.l0_is : Is (fun k => Br.l0 k h i j l m) (Br.l0v h i j l m) := ⟨fun k => (Br.mono_l k) h i j l m, rfl⟩
theorem Br.f_is : Is (fun k => Br.f k j l m) (Br.fv j l m) := ⟨fun k => Br.mono j l m k, rfl⟩
theorem Br.l0v_eq : Br.l0v h i j l m = if i > 0 then ((EA.fv j l m).bind fun a => (if h.length < 2199023255552 then (Br.l0v (h ++ [(⟨a.1, a.2.1, a.2.2.1, a.2.2.2.1⟩ : S75)]) (wrap64 (i - 1)) j a.2.2.2.2.1 a.2.2.2.2.2) else (none))) else (some (h, l, m)) := by
  refine Is.step (Br.l0_is h i j l m).mo (fun k => by rw [Br.l0]) ?_
  exact Hu @EA.f_is @Br.l0_is
theorem Br.fv_eq : Br.fv j l m = (Cc.f j l m 4).bind fun a => (Br.l0v (([] : List (S75))) a.1 j a.2.1 a.2.2) := Is.fe (fun k => by rw [Br.f]) (FQ @Br.l0_is)
end
noncomputable def Bg.l0v (m : Int) (n : List Int) (o : Int) (p : Int) (q : List Int) (r : List Int) (s : List (S75)) (t : Int) : Option (List Int × List Int × (List (S75)) × Int × Int × Int) := Lim fun k => Bg.l0 k m n o p q r s t
noncomputable def Bg.fv (q : List Int) (n : Int) (o : Int) : Option (List Int × List Int × (List (S75)) × Int × Int × Int) := Lim fun k => Bg.f k q n o
theorem Bg.l0_is (m : Int) (n : List Int) (o : Int) (p : Int) (q : List Int) (r : List Int) (s : List (S75)) (t : Int) : Is (fun k => Bg.l0 k m n o p q r s t) (Bg.l0v m n o p q r s t) := ⟨fun k => (Bg.mono_l k) m n o p q r s t, rfl⟩
theorem Bg.f_is (q : List Int) (n : Int) (o : Int) : Is (fun k => Bg.f k q n o) (Bg.fv q n o) := ⟨fun k => Bg.mono q n o k, rfl⟩
theorem Bg.l0v_eq (m : Int) (n : List Int) (o : Int) (p : Int) (q : List Int) (r : List Int) (s : List (S75)) (t : Int) : Bg.l0v m n o p q r s t = if m > 0 then ((D'.f n o p (([1, 2, 3, 40, 200] : List Int))).bind fun e => ((BZ.fv r e.1).bind fun j => (Bg.l0v (wrap64 (m - 1)) n e.2.1 e.2.2 q j s t))) else (some (q, r, s, t, o, p)) := by
  refine Is.step (Bg.l0_is m n o p q r s t).mo (fun k => by rw [Bg.l0]) ?_
  exact Hu @Bg.l0_is @BZ.f_is
theorem Bg.fv_eq (q : List Int) (n : Int) (o : Int) : Bg.fv q n o = (BW.fv q n o).bind fun r => ((Br.fv q r.2.1 r.2.2).bind fun s => ((Cc.f q s.2.1 s.2.2 6).bind fun t => ((Cc.f q t.2.1 t.2.2 4).bind fun e => (Bg.l0v e.1 q e.2.1 e.2.2 r.1 ([] : List Int) s.1 t.1)))) := Is.fe (fun k => by rw [Bg.f]) (NJ @BW.f_is @Br.f_is @Bg.l0_is)
section
variable (h : List Int) (i j : Int)
noncomputable def Eo.fv := Lim fun k => Eo.f k h i j
theorem Eo.f_is : Is (fun k => Eo.f k h i j) (Eo.fv h i j) := ⟨fun k => Eo.mono h i j k, rfl⟩
theorem Eo.fv_eq : Eo.fv h i j = (BW.fv h i j).bind fun b => ((Cc.f h b.2.1 b.2.2 9).bind fun a => (if a.1 = 0 then ((D'.f h a.2.1 a.2.2 (([0, (-1), 9, 10] : List Int))).bind fun c => (if 0 < (b.1.length : Int) then (some ((b.1.set (0 : Int).toNat c.1), c.2.1, c.2.2)) else (none))) else (if a.1 = 1 then (if 0 < (b.1.length : Int) then (if b.1.length < 17592186044416 then (some ((b.1 ++ [rd b.1 0]), a.2.1, a.2.2)) else (none)) else (none)) else (if a.1 = 2 then (some ((([] : List Int)), a.2.1, a.2.2)) else (some (b.1, a.2.1, a.2.2)))))) := Is.fe (fun k => by rw [Eo.f]) (FQ @BW.f_is)
end
end Go.Proofs.YtibmehnippjakaaGreat.Print

/- Written by a program of this session (limx.py): the equations of what the printed functions come to. No condition. -/
namespace Go.Proofs.YtibmehnippjakaaGreat.Print
open Go.RowKit Go.Proofs.YtibmehnippjakaaGreatW.PrintWords Go.Proofs.YtibmehnippjakaaGreatW.PrintLast Go.Proofs.YtibmehnippjakaaGreat.Base
set_option linter.unusedVariables false
set_option maxRecDepth 20000
section
variable (i : List Int) (j l : Int)
noncomputable def Eu.fv := Lim fun k => Eu.f k i j l
theorem Eu.f_is : Is (fun k => Eu.f k i j l) (Eu.fv i j l) := ⟨fun k => Eu.mono i j l k, rfl⟩
theorem Eu.fv_eq : Eu.fv i j l = (EA.fv i j l).bind fun a => ((Cc.f i a.2.2.2.2.1 a.2.2.2.2.2 12).bind fun b => (if b.1 = 0 then ((D'.f i b.2.1 b.2.2 (([(-1), 9, 10] : List Int))).bind fun c => (some (c.1, a.2.1, a.2.2.1, a.2.2.2.1, c.2.1, c.2.2))) else (if b.1 = 1 then ((D'.f i b.2.1 b.2.2 (([(-1), 255, 256] : List Int))).bind fun d => (some (a.1, (([d.1] : List Int)), a.2.2.1, a.2.2.2.1, d.2.1, d.2.2))) else (if b.1 = 2 then (some (a.1, a.2.1, (([1, 2, 3, 4, 5, 6, 7] : List Int)), a.2.2.2.1, b.2.1, b.2.2)) else (some (a.1, a.2.1, a.2.2.1, a.2.2.2.1, b.2.1, b.2.2)))))) := Is.fe (fun k => by rw [Eu.f]) (FQ @EA.f_is)
end
section
variable (m : List Int) (n o : Int)
noncomputable def EC.fv := Lim fun k => EC.f k m n o
theorem EC.f_is : Is (fun k => EC.f k m n o) (EC.fv m n o) := ⟨fun k => EC.mono m n o k, rfl⟩
theorem EC.fv_eq : EC.fv m n o = (Bg.fv m n o).bind fun a => ((Cc.f m a.2.2.2.2.1 a.2.2.2.2.2 10).bind fun b => (if b.1 = 0 then ((Eo.fv m b.2.1 b.2.2).bind fun e => (some (e.1, a.2.1, a.2.2.1, a.2.2.2.1, e.2.1, e.2.2))) else (if b.1 = 1 then ((D'.f m b.2.1 b.2.2 (([(-1), 10, 255, 256] : List Int))).bind fun g => (some (a.1, (([g.1] : List Int)), a.2.2.1, a.2.2.2.1, g.2.1, g.2.2))) else (if b.1 = 2 then (some (a.1, (([1, 2, 3, 4, 5, 6] : List Int)), a.2.2.1, a.2.2.2.1, b.2.1, b.2.2)) else (if b.1 = 3 then ((D'.f m b.2.1 b.2.2 (([(-1), 5, 6] : List Int))).bind fun h => (some (a.1, a.2.1, a.2.2.1, h.1, h.2.1, h.2.2))) else (if b.1 = 4 then ((Eu.fv m b.2.1 b.2.2).bind fun c => ((some (([(⟨c.1, c.2.1, c.2.2.1, c.2.2.2.1⟩ : S75), (⟨0, ([] : List Int), ([] : List Int), false⟩ : S75)] : List (S75)) : List (S75))).bind fun i => (if a.2.2.1.length + i.length < 2199023255552 then (some (a.1, a.2.1, (a.2.2.1 ++ i), a.2.2.2.1, c.2.2.2.2.1, c.2.2.2.2.2)) else (none)))) else (some (a.1, a.2.1, a.2.2.1, a.2.2.2.1, b.2.1, b.2.2)))))))) := Is.fe (fun k => by rw [EC.f]) (NJ @Eo.f_is @Eu.f_is @Bg.f_is)
end
section
variable (e : List Int)
noncomputable def Dy.fv := Lim fun k => Dy.f k e
theorem Dy.f_is : Is (fun k => Dy.f k e) (Dy.fv e) := ⟨fun k => Dy.mono e k, rfl⟩
theorem Dy.fv_eq : Dy.fv e = (CE.fv e).bind fun b => ((EC.fv b.1 b.2.1 b.2.2).bind fun a => ((Cc.f b.1 a.2.2.2.2.1 a.2.2.2.2.2 60).bind fun c => (some (a.1, a.2.1, a.2.2.1, a.2.2.2.1, c.1)))) := Is.fe (fun k => by rw [Dy.f]) (Hu @CE.f_is @EC.f_is)
end
end Go.Proofs.YtibmehnippjakaaGreat.Print

/- Written by a program of this session (limx.py): the equations of what the printed functions come to. No condition. -/
namespace Go.Proofs.YtibmehnippjakaaGreat.Print
open Go.RowKit Go.Proofs.YtibmehnippjakaaGreatW.PrintWords Go.Proofs.YtibmehnippjakaaGreatW.PrintLast Go.Proofs.YtibmehnippjakaaGreat.Base
set_option linter.unusedVariables false
set_option maxRecDepth 20000
section
variable (h : List Int)
noncomputable def DF.fv := Lim fun k => DF.f k h
theorem DF.f_is : Is (fun k => DF.f k h) (DF.fv h) := ⟨fun k => DF.mono h k, rfl⟩
theorem DF.fv_eq : DF.fv h = (Dy.fv h).bind fun a => ((CE.fv h).bind fun b => ((BW.fv b.1 b.2.1 b.2.2).bind fun c => ((Bc.fv b.1 c.2.1 c.2.2).bind fun d => ((D'.f b.1 d.2.1 d.2.2 (([5, 77, 0] : List Int))).bind fun e => (some (a.1, a.2.1, a.2.2.1, a.2.2.2.1, c.1, d.1, e.1, a.2.2.2.2)))))) := Is.fe (fun k => by rw [DF.f]) (Ut @Dy.f_is @BW.f_is @Bc.f_is @CE.f_is)
end
section
variable (j : Bool) (l : Int) (m : List Int) (n : Bool) (o : Int) (p : List Int)
noncomputable def D6.fv := Lim fun k => D6.f k j l m n o p
theorem D6.f_is : Is (fun k => D6.f k j l m n o p) (D6.fv j l m n o p) := ⟨fun k => D6.mono j l m n o p k, rfl⟩
theorem D6.fv_eq : D6.fv j l m n o p = if j = true then (if n = true then (if l = o then ((Ai.fv m p).bind fun g => (some g)) else (some false)) else (some false)) else (if n = true then (some false) else (if l = o then ((Ai.fv m p).bind fun h => (some h)) else (some false))) := Is.fe (fun k => by rw [D6.f]) (FQ @Ai.f_is)
end
section
variable (l m : List Int) (n : List (S75)) (o : Int) (p : List Int)
noncomputable def Df.fv := Lim fun k => Df.f k l m n o p
theorem Df.f_is : Is (fun k => Df.f k l m n o p) (Df.fv l m n o p) := ⟨fun k => Df.mono l m n o p k, rfl⟩
theorem Df.fv_eq : Df.fv l m n o p = (B9.fv l m n o).bind fun c => (if c = true then ((Az.fv n l).bind fun d => ((BI.fv l d).bind fun e => ((Ak.fv p e).bind fun g => (some g)))) else (some 0)) := Is.fe (fun k => by rw [Df.f]) (Ut @Ak.f_is @B9.f_is @Az.f_is @BI.f_is)
end
end Go.Proofs.YtibmehnippjakaaGreat.Print

/- Written by a program of this session (limx.py): the equations of what the printed functions come to. No condition. -/
namespace Go.Proofs.YtibmehnippjakaaGreat.Print
open Go.RowKit Go.Proofs.YtibmehnippjakaaGreatW.PrintWords Go.Proofs.YtibmehnippjakaaGreatW.PrintLast Go.Proofs.YtibmehnippjakaaGreat.Base
set_option linter.unusedVariables false
set_option maxRecDepth 20000
noncomputable def AB.l0v (e : List (S75)) (g : Int) (h : Int) : Option (Int) := Lim fun k => AB.l0 k e g h
noncomputable def AB.fv (h : List (S75)) : Option (Int) := Lim fun k => AB.f k h
theorem AB.l0_is (e : List (S75)) (g : Int) (h : Int) : Is (fun k => AB.l0 k e g h) (AB.l0v e g h) := ⟨fun k => (AB.mono_l k) e g h, rfl⟩
theorem AB.f_is (h : List (S75)) : Is (fun k => AB.f k h) (AB.fv h) := ⟨fun k => AB.mono h k, rfl⟩
theorem AB.l0v_eq (e : List (S75)) (g : Int) (h : Int) : AB.l0v e g h = if h < g then (if 0 ≤ h then (if h < (e.length : Int) then ((G0.f ((EM e h).f0) ((EM e h).f1) ((EM e h).f2) ((EM e h).f3)).bind fun b => (if b = true then (some h) else (AB.l0v e g (wrap64 (h + 1))))) else (none)) else (none)) else (some (-1)) := by
  refine Is.step (AB.l0_is e g h).mo (fun k => by rw [AB.l0]) ?_
  exact FQ @AB.l0_is
theorem AB.fv_eq (h : List (S75)) : AB.fv h = AB.l0v h (h.length : Int) 0 := Is.fe (fun k => by rw [AB.f]) (FQ @AB.l0_is)
section
variable (c : List (S75))
noncomputable def Ag.fv := Lim fun k => Ag.f k c
theorem Ag.f_is : Is (fun k => Ag.f k c) (Ag.fv c) := ⟨fun k => Ag.mono c k, rfl⟩
theorem Ag.fv_eq : Ag.fv c = (AB.fv c).bind fun a => (some (decide (a ≥ 0))) := Is.fe (fun k => by rw [Ag.f]) (FQ @AB.f_is)
end
section
variable (c : List (S75))
noncomputable def Dn.fv := Lim fun k => Dn.f k c
theorem Dn.f_is : Is (fun k => Dn.f k c) (Dn.fv c) := ⟨fun k => Dn.mono c k, rfl⟩
theorem Dn.fv_eq : Dn.fv c = if (c.length : Int) ≤ 4 then ((Ag.fv c).bind fun a => (some (!a))) else (some false) := Is.fe (fun k => by rw [Dn.f]) (FQ @Ag.f_is)
end
end Go.Proofs.YtibmehnippjakaaGreat.Print

/- Written by a program of this session (limx.py): the equations of what the printed functions come to. No condition. -/
namespace Go.Proofs.YtibmehnippjakaaGreat.Print
open Go.RowKit Go.Proofs.YtibmehnippjakaaGreatW.PrintWords Go.Proofs.YtibmehnippjakaaGreatW.PrintLast Go.Proofs.YtibmehnippjakaaGreat.Base
set_option linter.unusedVariables false
set_option maxRecDepth 20000
section
variable (p : List Int) (q : Int) (r : Bool) (s t : List Int) (u : List (S75)) (v : Int) (w : List Int)
noncomputable def laws_FnEndpoints.j0v := Lim fun k => laws_FnEndpoints.j0 k p q r s t u v
noncomputable def laws_FnEndpoints.fv := Lim fun k => laws_FnEndpoints.f k w
theorem laws_FnEndpoints.j0_is : Is (fun k => laws_FnEndpoints.j0 k p q r s t u v) (laws_FnEndpoints.j0v p q r s t u v) := ⟨fun k => (laws_FnEndpoints.mono_l k) p q r s t u v, rfl⟩
theorem laws_FnEndpoints.j0v_eq : laws_FnEndpoints.j0v p q r s t u v = if r = true then (none) else ((Dn.fv u).bind fun c => (if c = true then ((Ak.fv p s).bind fun d => (some (q == d))) else (some true))) := by
  refine Is.step (laws_FnEndpoints.j0_is p q r s t u v).mo (fun k => by rw [laws_FnEndpoints.j0]) ?_
  exact Hu @Ak.f_is @Dn.f_is
theorem laws_FnEndpoints.fv_eq : laws_FnEndpoints.fv w = (JG.f w).bind fun v => (if v = true then (some true) else ((DF.fv w).bind fun s => ((DX.fv s.1 s.2.1 s.2.2.1 s.2.2.2.1 s.2.2.2.2.1 s.2.2.2.2.2.1 s.2.2.2.2.2.2.1 s.2.2.2.2.2.2.2).bind fun u => ((DX.fv s.1 s.2.1 s.2.2.1 s.2.2.2.1 s.2.2.2.2.1 s.2.2.2.2.2.1 s.2.2.2.2.2.2.1 (wrap64 (s.2.2.2.2.2.2.2 + 1))).bind fun d => ((D6.fv u.1 u.2.1 u.2.2.1 d.1 d.2.1 d.2.2.1).bind fun q => (if q = true then ((B9.fv s.1 s.2.1 s.2.2.1 s.2.2.2.1).bind fun r => (if r = true then ((Bj.fv s.1 s.2.1 s.2.2.1 s.2.2.2.1 s.2.2.2.2.2.2.2).bind fun t => ((Df.fv s.1 s.2.1 s.2.2.1 s.2.2.2.1 s.2.2.2.2.1).bind fun c => ((BQ.fv t.1 t.2).bind fun l => (if l = true then ((DU.fv t.2).bind fun m => (if m = true then (if c > 0 then ((Ey.f s.2.2.2.2.2.2.1).bind fun n => (if (u.1 != n) = true then (laws_FnEndpoints.j0v s.2.2.2.2.1 c true s.1 s.2.1 s.2.2.1 s.2.2.2.1) else (if u.1 = true then (laws_FnEndpoints.j0v s.2.2.2.2.1 c (u.2.1 != c) s.1 s.2.1 s.2.2.1 s.2.2.2.1) else (laws_FnEndpoints.j0v s.2.2.2.2.1 c false s.1 s.2.1 s.2.2.1 s.2.2.2.1)))) else (if (u.1 != false) = true then (laws_FnEndpoints.j0v s.2.2.2.2.1 c true s.1 s.2.1 s.2.2.1 s.2.2.2.1) else (if u.1 = true then (laws_FnEndpoints.j0v s.2.2.2.2.1 c (u.2.1 != c) s.1 s.2.1 s.2.2.1 s.2.2.2.1) else (laws_FnEndpoints.j0v s.2.2.2.2.1 c false s.1 s.2.1 s.2.2.1 s.2.2.2.1)))) else (laws_FnEndpoints.j0v s.2.2.2.2.1 c true s.1 s.2.1 s.2.2.1 s.2.2.2.1))) else (laws_FnEndpoints.j0v s.2.2.2.2.1 c true s.1 s.2.1 s.2.2.1 s.2.2.2.1))))) else (if u.1 = true then (some false) else (if u.2.2.2.1 = 0 then ((Df.fv s.1 s.2.1 s.2.2.1 s.2.2.2.1 s.2.2.2.2.1).bind fun p => (some (p == 0))) else (some false))))) else (none))))))) := by
  refine Is.lim (g := fun k => laws_FnEndpoints.f k w) ?_
  · unfold laws_FnEndpoints.f
    repeat' first
    | with_reducible exact Df.f_is _ _ _ _ _
    | with_reducible exact DX.f_is _ _ _ _ _ _ _ _
    | with_reducible exact D6.f_is _ _ _ _ _ _
    | with_reducible exact DU.f_is _
    | with_reducible exact Bj.f_is _ _ _ _ _
    | with_reducible exact B9.f_is _ _ _ _
    | with_reducible exact BQ.f_is _ _
    | with_reducible exact laws_FnEndpoints.j0_is _ _ _ _ _ _ _
    | with_reducible exact DF.f_is _
    | with_reducible exact Is.now _
    | with_reducible refine Is.ite ?_ ?_
    | with_reducible refine Is.bind ?_ (fun _ => ?_)
end
end Go.Proofs.YtibmehnippjakaaGreat.Print
