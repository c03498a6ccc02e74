/- Written by a program of this session (merge.py): texts that the law's plain side leans on, laid together. No condition. -/
import Derived.Test.YtlcpaebidnaolaaWWords
import Derived.Test.YtlcpaebidnaolaaPrint1
import Derived.Test.YtlcpaebidnaolaaPrint2
import Derived.Test.YtlcpaebidnaolaaPrint3
import Derived.Test.YtlcpaebidnaolaaPrint4
import Derived.Test.YtlcpaebidnaolaaPrint5
import Derived.Test.YtlcpaebidnaolaaPrint6
import Derived.Test.YtlcpaebidnaolaaPrint7
import Derived.Test.YtlcpaebidnaolaaPrint8
import Derived.Test.YtlcpaebidnaolaaPrint9
import Derived.Test.YtlcpaebidnaolaaPrint10
import Derived.Test.YtlcpaebidnaolaaPrint11
import Derived.Test.YtlcpaebidnaolaaPrint12
/- What a function with rounds comes to when it has rounds enough, as an option: its equations hold without rounds. No condition. -/
namespace Go.Proofs.Ytlcpaebidnaolaa.Base
open Go.RowKit Go.Proofs.YtlcpaebidnaolaaW.PrintWords

/-- More rounds tell the same. -/
def Mo {α : Type} (g : Nat → Option α) : Prop := ∀ k, LeO (g k) (g (k + 1))
theorem mo_le {α : Type} {g : Nat → Option α} (h : Mo g) {k k' : Nat} (hk : k ≤ k') {r : α} (hr : g k = some r) : g k' = some r := at_rounds h hk hr
open Classical in
/-- What it comes to at last: nothing, or one answer. -/
noncomputable def Lim {α : Type} (g : Nat → Option α) : Option α := if h : ∃ r, ∃ k, g k = some r then some (Classical.choose h) else none
theorem lim_some {α : Type} {g : Nat → Option α} (h : Mo g) {k : Nat} {r : α} (hr : g k = some r) : Lim g = some r := by
  have hx : ∃ r, ∃ k, g k = some r := ⟨r, k, hr⟩
  unfold Lim
  rw [dif_pos hx]
  obtain ⟨k', hk'⟩ := Classical.choose_spec hx
  have h1 := mo_le h (Nat.le_max_left k k') hr
  have h2 := mo_le h (Nat.le_max_right k k') hk'
  rw [h1] at h2
  exact h2.symm
theorem of_lim {α : Type} {g : Nat → Option α} {r : α} (h : Lim g = some r) : ∃ k, g k = some r := by
  unfold Lim at h
  split at h
  · rename_i hx
    obtain rfl := Option.some.inj h
    exact Classical.choose_spec hx
  · cases h
theorem lim_none {α : Type} {g : Nat → Option α} (h : Lim g = none) (k : Nat) : g k = none := by
  cases hk : g k with
  | none => rfl
  | some r =>
    unfold Lim at h
    rw [dif_pos ⟨r, k, hk⟩] at h
    cases h
theorem none_lim {α : Type} {g : Nat → Option α} (h : ∀ k, g k = none) : Lim g = none := by
  unfold Lim
  rw [dif_neg]
  rintro ⟨r, k, hk⟩
  rw [h k] at hk
  cases hk
structure Is {α : Type} (g : Nat → Option α) (v : Option α) : Prop where
  mo : Mo g
  lim : Lim g = v
theorem Is.now {α : Type} (v : Option α) : Is (fun _ => v) v := by
  refine ⟨fun _ => LeO.refl _, ?_⟩
  cases v with
  | none => exact none_lim fun _ => rfl
  | some r => exact lim_some (g := fun _ => some r) (fun _ => LeO.refl _) (k := 0) rfl
theorem Is.ite {α : Type} {c : Prop} [Decidable c] {g h : Nat → Option α} {a b : Option α} (hg : Is g a) (hh : Is h b) : Is (fun k => if c then g k else h k) (if c then a else b) := by
  by_cases hc : c
  · simp only [if_pos hc]
    exact hg
  · simp only [if_neg hc]
    exact hh
theorem Is.bind {α β : Type} {g : Nat → Option α} {f : Nat → α → Option β} {a : Option α} {b : α → Option β} (hg : Is g a) (hf : ∀ x, Is (fun k => f k x) (b x)) : Is (fun k => (g k).bind (f k)) (a.bind b) := by
  have hm : Mo (fun k => (g k).bind (f k)) := fun k => LeO.bind (hg.mo k) (fun x => (hf x).mo k)
  refine ⟨hm, ?_⟩
  cases ha : a with
  | none =>
    refine none_lim fun k => ?_
    rw [lim_none (hg.lim.trans ha) k]
    rfl
  | some x =>
    obtain ⟨k, hk⟩ := of_lim (hg.lim.trans ha)
    show _ = b x
    cases hb : b x with
    | none =>
      refine none_lim fun k' => ?_
      cases hx : (g k').bind (f k') with
      | none => rfl
      | some r =>
        have h1 := mo_le hm (Nat.le_max_left k' k) hx
        have h2 := mo_le hg.mo (Nat.le_max_right k' k) hk
        simp only [h2, Option.bind_some] at h1
        rw [lim_none ((hf x).lim.trans hb)] at h1
        cases h1
    | some r =>
      obtain ⟨k', hk'⟩ := of_lim ((hf x).lim.trans hb)
      refine lim_some hm (k := max k k') ?_
      simp only [mo_le hg.mo (Nat.le_max_left k k') hk, Option.bind_some]
      exact mo_le (hf x).mo (Nat.le_max_right k k') hk'
theorem Is.step {α : Type} {g b : Nat → Option α} {v : Option α} (hg : Mo g) (h : ∀ k, g (k + 1) = b k) (hb : Is b v) : Lim g = v := by
  rw [← hb.lim]
  cases hx : Lim g with
  | none =>
    symm
    refine none_lim fun k => ?_
    rw [← h k]
    exact lim_none hx _
  | some r =>
    obtain ⟨k, hk⟩ := of_lim hx
    symm
    refine lim_some hb.mo (k := k) ?_
    rw [← h k]
    exact mo_le hg (Nat.le_succ k) hk
theorem ends {α : Type} {g : Nat → Option α} {r : α} (h : Lim g = some r) : ∃ k, g k = some r := of_lim h
theorem is0_ {q : Prop} (e : q := by repeat' first | with_reducible exact Is.now _ | with_reducible refine Is.ite ?_ ?_ | with_reducible refine Is.bind ?_ (fun _ => ?_)) : q := e
theorem is1_ {q p0 : Prop} (h0_ : p0) (e : p0 → q := by intro h0_; repeat' first | (with_reducible apply h0_) | with_reducible exact Is.now _ | with_reducible refine Is.ite ?_ ?_ | with_reducible refine Is.bind ?_ (fun _ => ?_)) : q := e h0_
theorem is2_ {q p0 p1 : Prop} (h0_ : p0) (h1_ : p1) (e : p0 → p1 → q := by intro h0_ h1_; repeat' first | (with_reducible apply h0_) | (with_reducible apply h1_) | with_reducible exact Is.now _ | with_reducible refine Is.ite ?_ ?_ | with_reducible refine Is.bind ?_ (fun _ => ?_)) : q := e h0_ h1_
theorem is3_ {q p0 p1 p2 : Prop} (h0_ : p0) (h1_ : p1) (h2_ : p2) (e : p0 → p1 → p2 → q := by intro h0_ h1_ h2_; repeat' first | (with_reducible apply h0_) | (with_reducible apply h1_) | (with_reducible apply h2_) | with_reducible exact Is.now _ | with_reducible refine Is.ite ?_ ?_ | with_reducible refine Is.bind ?_ (fun _ => ?_)) : q := e h0_ h1_ h2_
theorem is4_ {q p0 p1 p2 p3 : Prop} (h0_ : p0) (h1_ : p1) (h2_ : p2) (h3_ : p3) (e : p0 → p1 → p2 → p3 → q := by intro h0_ h1_ h2_ h3_; repeat' first | (with_reducible apply h0_) | (with_reducible apply h1_) | (with_reducible apply h2_) | (with_reducible apply h3_) | with_reducible exact Is.now _ | with_reducible refine Is.ite ?_ ?_ | with_reducible refine Is.bind ?_ (fun _ => ?_)) : q := e h0_ h1_ h2_ h3_
theorem is5_ {q p0 p1 p2 p3 p4 : Prop} (h0_ : p0) (h1_ : p1) (h2_ : p2) (h3_ : p3) (h4_ : p4) (e : p0 → p1 → p2 → p3 → p4 → q := by intro h0_ h1_ h2_ h3_ h4_; repeat' first | (with_reducible apply h0_) | (with_reducible apply h1_) | (with_reducible apply h2_) | (with_reducible apply h3_) | (with_reducible apply h4_) | with_reducible exact Is.now _ | with_reducible refine Is.ite ?_ ?_ | with_reducible refine Is.bind ?_ (fun _ => ?_)) : q := e h0_ h1_ h2_ h3_ h4_
theorem is6_ {q p0 p1 p2 p3 p4 p5 : Prop} (h0_ : p0) (h1_ : p1) (h2_ : p2) (h3_ : p3) (h4_ : p4) (h5_ : p5) (e : p0 → p1 → p2 → p3 → p4 → p5 → q := by intro h0_ h1_ h2_ h3_ h4_ h5_; repeat' first | (with_reducible apply h0_) | (with_reducible apply h1_) | (with_reducible apply h2_) | (with_reducible apply h3_) | (with_reducible apply h4_) | (with_reducible apply h5_) | with_reducible exact Is.now _ | with_reducible refine Is.ite ?_ ?_ | with_reducible refine Is.bind ?_ (fun _ => ?_)) : q := e h0_ h1_ h2_ h3_ h4_ h5_
theorem is7_ {q p0 p1 p2 p3 p4 p5 p6 : Prop} (h0_ : p0) (h1_ : p1) (h2_ : p2) (h3_ : p3) (h4_ : p4) (h5_ : p5) (h6_ : p6) (e : p0 → p1 → p2 → p3 → p4 → p5 → p6 → q := by intro h0_ h1_ h2_ h3_ h4_ h5_ h6_; repeat' first | (with_reducible apply h0_) | (with_reducible apply h1_) | (with_reducible apply h2_) | (with_reducible apply h3_) | (with_reducible apply h4_) | (with_reducible apply h5_) | (with_reducible apply h6_) | with_reducible exact Is.now _ | with_reducible refine Is.ite ?_ ?_ | with_reducible refine Is.bind ?_ (fun _ => ?_)) : q := e h0_ h1_ h2_ h3_ h4_ h5_ h6_
theorem is8_ {q p0 p1 p2 p3 p4 p5 p6 p7 : Prop} (h0_ : p0) (h1_ : p1) (h2_ : p2) (h3_ : p3) (h4_ : p4) (h5_ : p5) (h6_ : p6) (h7_ : p7) (e : p0 → p1 → p2 → p3 → p4 → p5 → p6 → p7 → q := by intro h0_ h1_ h2_ h3_ h4_ h5_ h6_ h7_; repeat' first | (with_reducible apply h0_) | (with_reducible apply h1_) | (with_reducible apply h2_) | (with_reducible apply h3_) | (with_reducible apply h4_) | (with_reducible apply h5_) | (with_reducible apply h6_) | (with_reducible apply h7_) | with_reducible exact Is.now _ | with_reducible refine Is.ite ?_ ?_ | with_reducible refine Is.bind ?_ (fun _ => ?_)) : q := e h0_ h1_ h2_ h3_ h4_ h5_ h6_ h7_
end Go.Proofs.Ytlcpaebidnaolaa.Base

/- Written by a program of this session (limx.py): the equations of what the printed functions come to. No condition. -/
namespace Go.Proofs.Ytlcpaebidnaolaa.Print
open Go.RowKit Go.Proofs.YtlcpaebidnaolaaW.PrintWords Go.Proofs.YtlcpaebidnaolaaW.PrintLast Go.Proofs.Ytlcpaebidnaolaa.Base
set_option linter.unusedVariables false
set_option maxRecDepth 20000
section
variable (a : List Int) (b c : Int) (d : List Int)
noncomputable def spec_l1New.l0v := Lim fun k => spec_l1New.l0 k a b c
noncomputable def spec_l1New.fv := Lim fun k => spec_l1New.f k d
theorem spec_l1New.l0_is : Is (fun k => spec_l1New.l0 k a b c) (spec_l1New.l0v a b c) := ⟨fun k => (spec_l1New.mono_l k) a b c, rfl⟩
theorem spec_l1New.f_is : Is (fun k => spec_l1New.f k d) (spec_l1New.fv d) := ⟨fun k => spec_l1New.mono d k, rfl⟩
theorem spec_l1New.l0v_eq : spec_l1New.l0v a b c = if c < (a.length : Int) then (if c < 4000 then (if 0 ≤ c then (spec_l1New.l0v a (Go.bits .and .i64 (wrap64 ((wrap64 ((wrap64 (b * 137)) + (wrap64 (rd a c)))) + 11)) 1073741823) (wrap64 (c + 1))) else (none)) else (some (a, 0, b))) else (some (a, 0, b)) := by
  refine Is.step (spec_l1New.l0_is a b c).mo (fun k => by rw [spec_l1New.l0]) ?_
  exact is1_ @spec_l1New.l0_is
theorem spec_l1New.fv_eq : spec_l1New.fv d = spec_l1New.l0v d (wrap64 (193017 + (d.length : Int))) 0 := by
  refine Is.lim (g := fun k => spec_l1New.f k d) ?_
  · unfold spec_l1New.f
    exact is1_ @spec_l1New.l0_is
end
end Go.Proofs.Ytlcpaebidnaolaa.Print

/- Written by a program of this session (limx.py): the equations of what the printed functions come to. No condition. -/
namespace Go.Proofs.Ytlcpaebidnaolaa.Print
open Go.RowKit Go.Proofs.YtlcpaebidnaolaaW.PrintWords Go.Proofs.YtlcpaebidnaolaaW.PrintLast Go.Proofs.Ytlcpaebidnaolaa.Base
set_option linter.unusedVariables false
set_option maxRecDepth 20000
section
variable (a : List Int) (b c : Int) (d : List Int) (e : Int)
noncomputable def spec_l4Put.l0v := Lim fun k => spec_l4Put.l0 k a b c
noncomputable def spec_l4Put.fv := Lim fun k => spec_l4Put.f k d e
theorem spec_l4Put.l0_is : Is (fun k => spec_l4Put.l0 k a b c) (spec_l4Put.l0v a b c) := ⟨fun k => (spec_l4Put.mono_l k) a b c, rfl⟩
theorem spec_l4Put.f_is : Is (fun k => spec_l4Put.f k d e) (spec_l4Put.fv d e) := ⟨fun k => spec_l4Put.mono d e k, rfl⟩
theorem spec_l4Put.l0v_eq : spec_l4Put.l0v a b c = if c < (a.length : Int) then (if 0 ≤ c then (if (rd a c) < b then (spec_l4Put.l0v a b (wrap64 (c + 1))) else (if (rd a c) = b then ((some (([] : List Int) : List Int)).bind fun y123 => (if y123.length + a.length < 17592186044416 then (some (y123 ++ a)) else (none))) else ((some (([] : List Int) : List Int)).bind fun y129 => (if c ≤ (a.length : Int) then (if y129.length + (a.take (c : Int).toNat).length < 17592186044416 then ((some (y129 ++ (a.take (c : Int).toNat) : List Int)).bind fun y133 => ((some (([b] : List Int) : List Int)).bind fun y136 => (if y133.length + y136.length < 17592186044416 then ((some (y133 ++ y136 : List Int)).bind fun y139 => (if y139.length + (a.drop (c : Int).toNat).length < 17592186044416 then (some (y139 ++ (a.drop (c : Int).toNat))) else (none))) else (none)))) else (none)) else (none))))) else (none)) else ((some (([] : List Int) : List Int)).bind fun y146 => (if 0 ≤ c then (if c ≤ (a.length : Int) then (if y146.length + (a.take (c : Int).toNat).length < 17592186044416 then ((some (y146 ++ (a.take (c : Int).toNat) : List Int)).bind fun y150 => ((some (([b] : List Int) : List Int)).bind fun y153 => (if y150.length + y153.length < 17592186044416 then ((some (y150 ++ y153 : List Int)).bind fun y156 => (if y156.length + (a.drop (c : Int).toNat).length < 17592186044416 then (some (y156 ++ (a.drop (c : Int).toNat))) else (none))) else (none)))) else (none)) else (none)) else (none))) := by
  refine Is.step (spec_l4Put.l0_is a b c).mo (fun k => by rw [spec_l4Put.l0]) ?_
  exact is1_ @spec_l4Put.l0_is
theorem spec_l4Put.fv_eq : spec_l4Put.fv d e = spec_l4Put.l0v d e 0 := by
  refine Is.lim (g := fun k => spec_l4Put.f k d e) ?_
  · unfold spec_l4Put.f
    exact is1_ @spec_l4Put.l0_is
end
section
variable (a : List Int) (b : Int) (c : List Int) (d e : Int) (g : List Int) (h i : Int)
noncomputable def spec_l17Tags.l0v := Lim fun k => spec_l17Tags.l0 k a b c d e
noncomputable def spec_l17Tags.fv := Lim fun k => spec_l17Tags.f k g h i
theorem spec_l17Tags.l0_is : Is (fun k => spec_l17Tags.l0 k a b c d e) (spec_l17Tags.l0v a b c d e) := ⟨fun k => (spec_l17Tags.mono_l k) a b c d e, rfl⟩
theorem spec_l17Tags.f_is : Is (fun k => spec_l17Tags.f k g h i) (spec_l17Tags.fv g h i) := ⟨fun k => spec_l17Tags.mono g h i k, rfl⟩
theorem spec_l17Tags.l0v_eq : spec_l17Tags.l0v a b c d e = if b > 0 then ((spec_l1Int.f c d e (([1, 2, 3, 10, 40, 200] : List Int))).bind fun bt172 => ((spec_l4Put.fv a bt172.1).bind fun t175 => (spec_l17Tags.l0v t175 (wrap64 (b - 1)) c bt172.2.1 bt172.2.2))) else (some (a, d, e)) := by
  refine Is.step (spec_l17Tags.l0_is a b c d e).mo (fun k => by rw [spec_l17Tags.l0]) ?_
  exact is2_ @spec_l17Tags.l0_is @spec_l4Put.f_is
theorem spec_l17Tags.fv_eq : spec_l17Tags.fv g h i = (spec_l1Below.f g h i 5).bind fun bt166 => (spec_l17Tags.l0v (([] : List Int)) bt166.1 g bt166.2.1 bt166.2.2) := by
  refine Is.lim (g := fun k => spec_l17Tags.f k g h i) ?_
  · unfold spec_l17Tags.f
    exact is1_ @spec_l17Tags.l0_is
end
end Go.Proofs.Ytlcpaebidnaolaa.Print

/- Written by a program of this session (limx.py): the equations of what the printed functions come to. No condition. -/
namespace Go.Proofs.Ytlcpaebidnaolaa.Print
open Go.RowKit Go.Proofs.YtlcpaebidnaolaaW.PrintWords Go.Proofs.YtlcpaebidnaolaaW.PrintLast Go.Proofs.Ytlcpaebidnaolaa.Base
set_option linter.unusedVariables false
set_option maxRecDepth 20000
section
variable (a : List Int) (b : Int) (c : List Int) (d e : Int) (g : List Int) (h i : Int)
noncomputable def spec_l12Draw.l0v := Lim fun k => spec_l12Draw.l0 k a b c d e
noncomputable def spec_l12Draw.fv := Lim fun k => spec_l12Draw.f k g h i
theorem spec_l12Draw.l0_is : Is (fun k => spec_l12Draw.l0 k a b c d e) (spec_l12Draw.l0v a b c d e) := ⟨fun k => (spec_l12Draw.mono_l k) a b c d e, rfl⟩
theorem spec_l12Draw.f_is : Is (fun k => spec_l12Draw.f k g h i) (spec_l12Draw.fv g h i) := ⟨fun k => spec_l12Draw.mono g h i k, rfl⟩
theorem spec_l12Draw.l0v_eq : spec_l12Draw.l0v a b c d e = if b > 0 then ((spec_l1Below.f c d e 6).bind fun bt187 => ((spec_l4Put.fv a (wrap64 (1 + bt187.1))).bind fun t190 => (spec_l12Draw.l0v t190 (wrap64 (b - 1)) c bt187.2.1 bt187.2.2))) else (some (a, d, e)) := by
  refine Is.step (spec_l12Draw.l0_is a b c d e).mo (fun k => by rw [spec_l12Draw.l0]) ?_
  exact is2_ @spec_l12Draw.l0_is @spec_l4Put.f_is
theorem spec_l12Draw.fv_eq : spec_l12Draw.fv g h i = (spec_l1Below.f g h i 4).bind fun bt178 => ((spec_l1Below.f g bt178.2.1 bt178.2.2 4).bind fun bt184 => (spec_l12Draw.l0v (([wrap64 (1 + bt178.1)] : List Int)) bt184.1 g bt184.2.1 bt184.2.2)) := by
  refine Is.lim (g := fun k => spec_l12Draw.f k g h i) ?_
  · unfold spec_l12Draw.f
    exact is1_ @spec_l12Draw.l0_is
end
section
variable (a : List (S113)) (b c : Int) (d : List (S113)) (e : Int)
noncomputable def spec_ExtOf.l0v := Lim fun k => spec_ExtOf.l0 k a b c
noncomputable def spec_ExtOf.fv := Lim fun k => spec_ExtOf.f k d e
theorem spec_ExtOf.l0_is : Is (fun k => spec_ExtOf.l0 k a b c) (spec_ExtOf.l0v a b c) := ⟨fun k => (spec_ExtOf.mono_l k) a b c, rfl⟩
theorem spec_ExtOf.f_is : Is (fun k => spec_ExtOf.f k d e) (spec_ExtOf.fv d e) := ⟨fun k => spec_ExtOf.mono d e k, rfl⟩
theorem spec_ExtOf.l0v_eq : spec_ExtOf.l0v a b c = if c < (a.length : Int) then (if 0 ≤ c then (if ((rd_T113 a c).f0) = b then (some c) else (spec_ExtOf.l0v a b (wrap64 (c + 1)))) else (none)) else (some (-1)) := by
  refine Is.step (spec_ExtOf.l0_is a b c).mo (fun k => by rw [spec_ExtOf.l0]) ?_
  exact is1_ @spec_ExtOf.l0_is
theorem spec_ExtOf.fv_eq : spec_ExtOf.fv d e = spec_ExtOf.l0v d e 0 := by
  refine Is.lim (g := fun k => spec_ExtOf.f k d e) ?_
  · unfold spec_ExtOf.f
    exact is1_ @spec_ExtOf.l0_is
end
section
variable (a : List (S113)) (b g : Int) (c : List Int) (d e h : Int) (i j : List Int) (l m : Int)
noncomputable def spec_l9Draw.l0v := Lim fun k => spec_l9Draw.l0 k a b c d e
noncomputable def spec_l9Draw.l1v := Lim fun k => spec_l9Draw.l1 k a b g c d e h i
noncomputable def spec_l9Draw.fv := Lim fun k => spec_l9Draw.f k j l m
theorem spec_l9Draw.l0_is : Is (fun k => spec_l9Draw.l0 k a b c d e) (spec_l9Draw.l0v a b c d e) := ⟨fun k => (spec_l9Draw.mono_l k).1 a b c d e, rfl⟩
theorem spec_l9Draw.l1_is : Is (fun k => spec_l9Draw.l1 k a b g c d e h i) (spec_l9Draw.l1v a b g c d e h i) := ⟨fun k => (spec_l9Draw.mono_l k).2 a b g c d e h i, rfl⟩
theorem spec_l9Draw.f_is : Is (fun k => spec_l9Draw.f k j l m) (spec_l9Draw.fv j l m) := ⟨fun k => spec_l9Draw.mono j l m k, rfl⟩
theorem spec_l9Draw.l0v_eq : spec_l9Draw.l0v a b c d e = if b > 0 then ((spec_l1Int.f c d e (([1, 2, 3, 10, 26, 40, 42, 200] : List Int))).bind fun bt203 => ((spec_l1Below.f c bt203.2.1 bt203.2.2 4).bind fun bt207 => (spec_l9Draw.l1v a b bt207.1 c bt207.2.1 bt207.2.2 bt203.1 ([] : List Int)))) else (some (a, d, e)) := by
  refine Is.step (spec_l9Draw.l0_is a b c d e).mo (fun k => by rw [spec_l9Draw.l0]) ?_
  exact is1_ @spec_l9Draw.l1_is
theorem spec_l9Draw.l1v_eq : spec_l9Draw.l1v a b g c d e h i = if g > 0 then ((spec_l1Below.f c d e 256).bind fun bt210 => (if i.length < 17592186044416 then (spec_l9Draw.l1v a b (wrap64 (g - 1)) c bt210.2.1 bt210.2.2 h (i ++ [bt210.1])) else (none))) else ((spec_ExtOf.fv a h).bind fun t216 => (if t216 < 0 then (if a.length < 4398046511104 then (spec_l9Draw.l0v (a ++ [(⟨h, i⟩ : S113)]) (wrap64 (b - 1)) c d e) else (none)) else (spec_l9Draw.l0v a (wrap64 (b - 1)) c d e))) := by
  refine Is.step (spec_l9Draw.l1_is a b g c d e h i).mo (fun k => by rw [spec_l9Draw.l1]) ?_
  exact is3_ @spec_ExtOf.f_is @spec_l9Draw.l0_is @spec_l9Draw.l1_is
theorem spec_l9Draw.fv_eq : spec_l9Draw.fv j l m = (spec_l1Below.f j l m 6).bind fun bt197 => (spec_l9Draw.l0v (([] : List (S113))) bt197.1 j bt197.2.1 bt197.2.2) := by
  refine Is.lim (g := fun k => spec_l9Draw.f k j l m) ?_
  · unfold spec_l9Draw.f
    exact is1_ @spec_l9Draw.l0_is
end
section
variable (a : List Int) (b c : Int)
noncomputable def spec_l17Draw.fv := Lim fun k => spec_l17Draw.f k a b c
theorem spec_l17Draw.f_is : Is (fun k => spec_l17Draw.f k a b c) (spec_l17Draw.fv a b c) := ⟨fun k => spec_l17Draw.mono a b c k, rfl⟩
theorem spec_l17Draw.fv_eq : spec_l17Draw.fv a b c = (spec_l12Draw.fv a b c).bind fun bt221 => ((spec_l9Draw.fv a bt221.2.1 bt221.2.2).bind fun bt226 => (some (bt221.1, bt226.1, bt226.2.1, bt226.2.2))) := by
  refine Is.lim (g := fun k => spec_l17Draw.f k a b c) ?_
  · unfold spec_l17Draw.f
    exact is2_ @spec_l12Draw.f_is @spec_l9Draw.f_is
end
section
variable (a : List Int) (b c : Int) (d : List Int) (e : Int)
noncomputable def spec_l9Has.l0v := Lim fun k => spec_l9Has.l0 k a b c
noncomputable def spec_l9Has.fv := Lim fun k => spec_l9Has.f k d e
theorem spec_l9Has.l0_is : Is (fun k => spec_l9Has.l0 k a b c) (spec_l9Has.l0v a b c) := ⟨fun k => (spec_l9Has.mono_l k) a b c, rfl⟩
theorem spec_l9Has.f_is : Is (fun k => spec_l9Has.f k d e) (spec_l9Has.fv d e) := ⟨fun k => spec_l9Has.mono d e k, rfl⟩
theorem spec_l9Has.l0v_eq : spec_l9Has.l0v a b c = if c < (a.length : Int) then (if 0 ≤ c then (if (rd a c) = b then (some true) else (spec_l9Has.l0v a b (wrap64 (c + 1)))) else (none)) else (some false) := by
  refine Is.step (spec_l9Has.l0_is a b c).mo (fun k => by rw [spec_l9Has.l0]) ?_
  exact is1_ @spec_l9Has.l0_is
theorem spec_l9Has.fv_eq : spec_l9Has.fv d e = spec_l9Has.l0v d e 0 := by
  refine Is.lim (g := fun k => spec_l9Has.f k d e) ?_
  · unfold spec_l9Has.f
    exact is1_ @spec_l9Has.l0_is
end
section
variable (a b c : List Int) (d : Int) (e g : List Int)
noncomputable def spec_l21Left.l0v := Lim fun k => spec_l21Left.l0 k a b c d
noncomputable def spec_l21Left.fv := Lim fun k => spec_l21Left.f k e g
theorem spec_l21Left.l0_is : Is (fun k => spec_l21Left.l0 k a b c d) (spec_l21Left.l0v a b c d) := ⟨fun k => (spec_l21Left.mono_l k) a b c d, rfl⟩
theorem spec_l21Left.f_is : Is (fun k => spec_l21Left.f k e g) (spec_l21Left.fv e g) := ⟨fun k => spec_l21Left.mono e g k, rfl⟩
theorem spec_l21Left.l0v_eq : spec_l21Left.l0v a b c d = if d < (a.length : Int) then (if 0 ≤ d then ((spec_l9Has.fv b (rd a d)).bind fun t236 => (if t236 = true then (spec_l21Left.l0v a b c (wrap64 (d + 1))) else (if c.length < 17592186044416 then (spec_l21Left.l0v a b (c ++ [rd a d]) (wrap64 (d + 1))) else (none)))) else (none)) else (some c) := by
  refine Is.step (spec_l21Left.l0_is a b c d).mo (fun k => by rw [spec_l21Left.l0]) ?_
  exact is2_ @spec_l21Left.l0_is @spec_l9Has.f_is
theorem spec_l21Left.fv_eq : spec_l21Left.fv e g = spec_l21Left.l0v e g (([] : List Int)) 0 := by
  refine Is.lim (g := fun k => spec_l21Left.f k e g) ?_
  · unfold spec_l21Left.f
    exact is1_ @spec_l21Left.l0_is
end
end Go.Proofs.Ytlcpaebidnaolaa.Print

/- Written by a program of this session (limx.py): the equations of what the printed functions come to. No condition. -/
namespace Go.Proofs.Ytlcpaebidnaolaa.Print
open Go.RowKit Go.Proofs.YtlcpaebidnaolaaW.PrintWords Go.Proofs.YtlcpaebidnaolaaW.PrintLast Go.Proofs.Ytlcpaebidnaolaa.Base
set_option linter.unusedVariables false
set_option maxRecDepth 20000
section
variable (a : List Int) (b : Int) (c : List Int) (d : List (S113)) (e : List Int) (g : List (S113)) (h : List Int) (i : List (S113)) (j : List Int) (l : List (S113))
noncomputable def spec_GivenUp.l0v := Lim fun k => spec_GivenUp.l0 k a b c d e g
noncomputable def spec_GivenUp.fv := Lim fun k => spec_GivenUp.f k h i j l
theorem spec_GivenUp.l0_is : Is (fun k => spec_GivenUp.l0 k a b c d e g) (spec_GivenUp.l0v a b c d e g) := ⟨fun k => (spec_GivenUp.mono_l k) a b c d e g, rfl⟩
theorem spec_GivenUp.f_is : Is (fun k => spec_GivenUp.f k h i j l) (spec_GivenUp.fv h i j l) := ⟨fun k => spec_GivenUp.mono h i j l k, rfl⟩
theorem spec_GivenUp.l0v_eq : spec_GivenUp.l0v a b c d e g = if b < (d.length : Int) then (if 0 ≤ b then ((spec_ExtOf.fv g ((rd_T113 d b).f0)).bind fun t247 => (if t247 < 0 then ((spec_l1In.f ((rd_T113 d b).f0) 0 255).bind fun t249 => (if t249 = true then (if a.length < 17592186044416 then (spec_GivenUp.l0v (a ++ [wrap64 (1000 + ((rd_T113 d b).f0))]) (wrap64 (b + 1)) c d e g) else (none)) else (spec_GivenUp.l0v a (wrap64 (b + 1)) c d e g))) else (spec_GivenUp.l0v a (wrap64 (b + 1)) c d e g))) else (none)) else (some a) := by
  refine Is.step (spec_GivenUp.l0_is a b c d e g).mo (fun k => by rw [spec_GivenUp.l0]) ?_
  exact is2_ @spec_ExtOf.f_is @spec_GivenUp.l0_is
theorem spec_GivenUp.fv_eq : spec_GivenUp.fv h i j l = (spec_l21Left.fv h j).bind fun t243 => (spec_GivenUp.l0v t243 0 h i j l) := by
  refine Is.lim (g := fun k => spec_GivenUp.f k h i j l) ?_
  · unfold spec_GivenUp.f
    exact is2_ @spec_GivenUp.l0_is @spec_l21Left.f_is
end
section
variable (a : List Int) (b : Int) (c : List Int)
noncomputable def spec_AreVersions.l0v := Lim fun k => spec_AreVersions.l0 k a b
noncomputable def spec_AreVersions.fv := Lim fun k => spec_AreVersions.f k c
theorem spec_AreVersions.l0_is : Is (fun k => spec_AreVersions.l0 k a b) (spec_AreVersions.l0v a b) := ⟨fun k => (spec_AreVersions.mono_l k) a b, rfl⟩
theorem spec_AreVersions.f_is : Is (fun k => spec_AreVersions.f k c) (spec_AreVersions.fv c) := ⟨fun k => spec_AreVersions.mono c k, rfl⟩
theorem spec_AreVersions.l0v_eq : spec_AreVersions.l0v a b = if b < (a.length : Int) then (if 0 ≤ b then ((spec_l1In.f (rd a b) 1 9).bind fun t255 => (if t255 = true then (if b > 0 then (if 0 ≤ (wrap64 (b - 1)) then (if (wrap64 (b - 1)) < (a.length : Int) then (if (rd a (wrap64 (b - 1))) ≥ (rd a b) then (some false) else (spec_AreVersions.l0v a (wrap64 (b + 1)))) else (none)) else (none)) else (spec_AreVersions.l0v a (wrap64 (b + 1)))) else (some false))) else (none)) else (some (decide ((a.length : Int) > 0))) := by
  refine Is.step (spec_AreVersions.l0_is a b).mo (fun k => by rw [spec_AreVersions.l0]) ?_
  exact is1_ @spec_AreVersions.l0_is
theorem spec_AreVersions.fv_eq : spec_AreVersions.fv c = spec_AreVersions.l0v c 0 := by
  refine Is.lim (g := fun k => spec_AreVersions.f k c) ?_
  · unfold spec_AreVersions.f
    exact is1_ @spec_AreVersions.l0_is
end
section
variable (a : List Int) (b : Int) (c : List Int)
noncomputable def spec_l9Byte.l0v := Lim fun k => spec_l9Byte.l0 k a b
noncomputable def spec_l9Byte.fv := Lim fun k => spec_l9Byte.f k c
theorem spec_l9Byte.l0_is : Is (fun k => spec_l9Byte.l0 k a b) (spec_l9Byte.l0v a b) := ⟨fun k => (spec_l9Byte.mono_l k) a b, rfl⟩
theorem spec_l9Byte.f_is : Is (fun k => spec_l9Byte.f k c) (spec_l9Byte.fv c) := ⟨fun k => spec_l9Byte.mono c k, rfl⟩
theorem spec_l9Byte.l0v_eq : spec_l9Byte.l0v a b = if b < (a.length : Int) then (if 0 ≤ b then ((spec_l1In.f (rd a b) 0 255).bind fun t259 => (if t259 = true then (spec_l9Byte.l0v a (wrap64 (b + 1))) else (some false))) else (none)) else (some true) := by
  refine Is.step (spec_l9Byte.l0_is a b).mo (fun k => by rw [spec_l9Byte.l0]) ?_
  exact is1_ @spec_l9Byte.l0_is
theorem spec_l9Byte.fv_eq : spec_l9Byte.fv c = spec_l9Byte.l0v c 0 := by
  refine Is.lim (g := fun k => spec_l9Byte.f k c) ?_
  · unfold spec_l9Byte.f
    exact is1_ @spec_l9Byte.l0_is
end
section
variable (a : List (S113)) (b : Int) (c : List (S113))
noncomputable def spec_AreExts.l0v := Lim fun k => spec_AreExts.l0 k a b
noncomputable def spec_AreExts.fv := Lim fun k => spec_AreExts.f k c
theorem spec_AreExts.l0_is : Is (fun k => spec_AreExts.l0 k a b) (spec_AreExts.l0v a b) := ⟨fun k => (spec_AreExts.mono_l k) a b, rfl⟩
theorem spec_AreExts.f_is : Is (fun k => spec_AreExts.f k c) (spec_AreExts.fv c) := ⟨fun k => spec_AreExts.mono c k, rfl⟩
theorem spec_AreExts.l0v_eq : spec_AreExts.l0v a b = if b < (a.length : Int) then (if 0 ≤ b then ((spec_l1In.f ((rd_T113 a b).f0) 0 255).bind fun t261 => (if t261 = true then (if (((rd_T113 a b).f1).length : Int) > 4 then (some false) else ((spec_l9Byte.fv ((rd_T113 a b).f1)).bind fun t264 => (if t264 = true then ((spec_ExtOf.fv a ((rd_T113 a b).f0)).bind fun t266 => (if t266 < b then (some false) else (spec_AreExts.l0v a (wrap64 (b + 1))))) else (some false)))) else (some false))) else (none)) else (some (decide ((a.length : Int) ≤ 6))) := by
  refine Is.step (spec_AreExts.l0_is a b).mo (fun k => by rw [spec_AreExts.l0]) ?_
  exact is3_ @spec_AreExts.l0_is @spec_ExtOf.f_is @spec_l9Byte.f_is
theorem spec_AreExts.fv_eq : spec_AreExts.fv c = spec_AreExts.l0v c 0 := by
  refine Is.lim (g := fun k => spec_AreExts.f k c) ?_
  · unfold spec_AreExts.f
    exact is1_ @spec_AreExts.l0_is
end
section
variable (a : List Int) (b : List (S113))
noncomputable def spec_IsHello.fv := Lim fun k => spec_IsHello.f k a b
theorem spec_IsHello.f_is : Is (fun k => spec_IsHello.f k a b) (spec_IsHello.fv a b) := ⟨fun k => spec_IsHello.mono a b k, rfl⟩
theorem spec_IsHello.fv_eq : spec_IsHello.fv a b = (spec_AreVersions.fv a).bind fun t268 => (if t268 = true then ((spec_AreExts.fv b).bind fun t269 => (some t269)) else (some false)) := by
  refine Is.lim (g := fun k => spec_IsHello.f k a b) ?_
  · unfold spec_IsHello.f
    exact is2_ @spec_AreExts.f_is @spec_AreVersions.f_is
end
end Go.Proofs.Ytlcpaebidnaolaa.Print

/- Written by a program of this session (limx.py): the equations of what the printed functions come to. No condition. -/
namespace Go.Proofs.Ytlcpaebidnaolaa.Print
open Go.RowKit Go.Proofs.YtlcpaebidnaolaaW.PrintWords Go.Proofs.YtlcpaebidnaolaaW.PrintLast Go.Proofs.Ytlcpaebidnaolaa.Base
set_option linter.unusedVariables false
set_option maxRecDepth 20000
section
variable (a b : List Int) (c h : Int) (d : List Int) (e : List (S113)) (g : List Int) (i : List (S113)) (j : List Int) (l : List (S113)) (m n : List Int)
noncomputable def spec_PartHello.l0v := Lim fun k => spec_PartHello.l0 k a b c d e g
noncomputable def spec_PartHello.l1v := Lim fun k => spec_PartHello.l1 k b h d e g i
noncomputable def spec_PartHello.fv := Lim fun k => spec_PartHello.f k j l m n
theorem spec_PartHello.l0_is : Is (fun k => spec_PartHello.l0 k a b c d e g) (spec_PartHello.l0v a b c d e g) := ⟨fun k => (spec_PartHello.mono_l k).1 a b c d e g, rfl⟩
theorem spec_PartHello.l1_is : Is (fun k => spec_PartHello.l1 k b h d e g i) (spec_PartHello.l1v b h d e g i) := ⟨fun k => (spec_PartHello.mono_l k).2 b h d e g i, rfl⟩
theorem spec_PartHello.f_is : Is (fun k => spec_PartHello.f k j l m n) (spec_PartHello.fv j l m n) := ⟨fun k => spec_PartHello.mono j l m n k, rfl⟩
theorem spec_PartHello.l0v_eq : spec_PartHello.l0v a b c d e g = if c < (d.length : Int) then (if 0 ≤ c then ((spec_l9Has.fv a (rd d c)).bind fun t275 => (if t275 = true then (spec_PartHello.l0v a b (wrap64 (c + 1)) d e g) else (if g.length < 17592186044416 then (spec_PartHello.l0v a b (wrap64 (c + 1)) d e (g ++ [rd d c])) else (none)))) else (none)) else (spec_PartHello.l1v b 0 d e g ([] : List (S113))) := by
  refine Is.step (spec_PartHello.l0_is a b c d e g).mo (fun k => by rw [spec_PartHello.l0]) ?_
  exact is3_ @spec_PartHello.l0_is @spec_PartHello.l1_is @spec_l9Has.f_is
theorem spec_PartHello.l1v_eq : spec_PartHello.l1v b h d e g i = if h < (e.length : Int) then (if 0 ≤ h then ((spec_l9Has.fv b ((rd_T113 e h).f0)).bind fun t281 => (if t281 = true then (spec_PartHello.l1v b (wrap64 (h + 1)) d e g i) else ((some (([] : List Int) : List Int)).bind fun y283 => (if y283.length + ((rd_T113 e h).f1).length < 17592186044416 then (if i.length < 4398046511104 then (spec_PartHello.l1v b (wrap64 (h + 1)) d e g (i ++ [(⟨(rd_T113 e h).f0, (y283 ++ ((rd_T113 e h).f1))⟩ : S113)])) else (none)) else (none))))) else (none)) else (if (g.length : Int) = 0 then (some (([] : List Int), ([] : List (S113)), false)) else (some (g, i, true))) := by
  refine Is.step (spec_PartHello.l1_is b h d e g i).mo (fun k => by rw [spec_PartHello.l1]) ?_
  exact is2_ @spec_PartHello.l1_is @spec_l9Has.f_is
theorem spec_PartHello.fv_eq : spec_PartHello.fv j l m n = (spec_IsHello.fv j l).bind fun t272 => (if t272 = true then (spec_PartHello.l0v m n 0 j l ([] : List Int)) else (some (([] : List Int), ([] : List (S113)), false))) := by
  refine Is.lim (g := fun k => spec_PartHello.f k j l m n) ?_
  · unfold spec_PartHello.f
    exact is2_ @spec_IsHello.f_is @spec_PartHello.l0_is
end
end Go.Proofs.Ytlcpaebidnaolaa.Print

/- Written by a program of this session (limx.py): the equations of what the printed functions come to. No condition. -/
namespace Go.Proofs.Ytlcpaebidnaolaa.Print
open Go.RowKit Go.Proofs.YtlcpaebidnaolaaW.PrintWords Go.Proofs.YtlcpaebidnaolaaW.PrintLast Go.Proofs.Ytlcpaebidnaolaa.Base
set_option linter.unusedVariables false
set_option maxRecDepth 20000
section
variable (a : List (S61)) (b : Int) (c : List Int) (d : Int) (e : List (S61)) (g : Bool) (h : Int) (i : List (S61)) (j : Int) (l : List Int) (m : Int)
noncomputable def spec_Remember.j0v := Lim fun k => spec_Remember.j0 k a b c d e g
noncomputable def spec_Remember.l0v := Lim fun k => spec_Remember.l0 k a b c d e g h
noncomputable def spec_Remember.fv := Lim fun k => spec_Remember.f k i j l m
theorem spec_Remember.j0_is : Is (fun k => spec_Remember.j0 k a b c d e g) (spec_Remember.j0v a b c d e g) := ⟨fun k => (spec_Remember.mono_l k).1 a b c d e g, rfl⟩
theorem spec_Remember.l0_is : Is (fun k => spec_Remember.l0 k a b c d e g h) (spec_Remember.l0v a b c d e g h) := ⟨fun k => (spec_Remember.mono_l k).2 a b c d e g h, rfl⟩
theorem spec_Remember.f_is : Is (fun k => spec_Remember.f k i j l m) (spec_Remember.fv i j l m) := ⟨fun k => spec_Remember.mono i j l m k, rfl⟩
theorem spec_Remember.j0v_eq : spec_Remember.j0v a b c d e g = spec_Remember.l0v a b c d e g 0 := by
  refine Is.step (spec_Remember.j0_is a b c d e g).mo (fun k => by rw [spec_Remember.j0]) ?_
  exact is1_ @spec_Remember.l0_is
theorem spec_Remember.l0v_eq : spec_Remember.l0v a b c d e g h = if h < (a.length : Int) then (if g = true then (if 0 ≤ h then (if ((rd_T61 a h).f0) = b then (spec_Remember.l0v a b c d e g (wrap64 (h + 1))) else ((spec_l23Copy.f ((rd_T61 a h).f0) ((rd_T61 a h).f1) ((rd_T61 a h).f2)).bind fun bt307 => (if e.length < 3518437208883 then (spec_Remember.l0v a b c d (e ++ [(⟨bt307.1, bt307.2.1, bt307.2.2⟩ : S61)]) g (wrap64 (h + 1))) else (none)))) else (none)) else (if 0 ≤ h then ((spec_l23Copy.f ((rd_T61 a h).f0) ((rd_T61 a h).f1) ((rd_T61 a h).f2)).bind fun bt316 => (if e.length < 3518437208883 then (spec_Remember.l0v a b c d (e ++ [(⟨bt316.1, bt316.2.1, bt316.2.2⟩ : S61)]) g (wrap64 (h + 1))) else (none))) else (none))) else (if g = true then ((some (([] : List Int) : List Int)).bind fun y324 => (if y324.length + c.length < 17592186044416 then (if e.length < 3518437208883 then (some (e ++ [(⟨b, (y324 ++ c), d⟩ : S61)])) else (none)) else (none))) else (some e)) := by
  refine Is.step (spec_Remember.l0_is a b c d e g h).mo (fun k => by rw [spec_Remember.l0]) ?_
  exact is1_ @spec_Remember.l0_is
theorem spec_Remember.fv_eq : spec_Remember.fv i j l m = (some (([] : List (S61)) : List (S61))).bind fun y301 => ((spec_l1In.f j 0 5).bind fun t304 => (if t304 = true then (spec_Remember.j0v i j l m y301 (decide (m ≥ 0))) else (spec_Remember.j0v i j l m y301 false))) := by
  refine Is.lim (g := fun k => spec_Remember.f k i j l m) ?_
  · unfold spec_Remember.f
    exact is1_ @spec_Remember.j0_is
end
end Go.Proofs.Ytlcpaebidnaolaa.Print

/- Written by a program of this session (limx.py): the equations of what the printed functions come to. No condition. -/
namespace Go.Proofs.Ytlcpaebidnaolaa.Print
open Go.RowKit Go.Proofs.YtlcpaebidnaolaaW.PrintWords Go.Proofs.YtlcpaebidnaolaaW.PrintLast Go.Proofs.Ytlcpaebidnaolaa.Base
set_option linter.unusedVariables false
set_option maxRecDepth 20000
section
variable (a : List (S61)) (b : Int) (c : List Int) (d e : Int) (g : List Int) (h i : Int)
noncomputable def spec_l23Draw.l0v := Lim fun k => spec_l23Draw.l0 k a b c d e
noncomputable def spec_l23Draw.fv := Lim fun k => spec_l23Draw.f k g h i
theorem spec_l23Draw.l0_is : Is (fun k => spec_l23Draw.l0 k a b c d e) (spec_l23Draw.l0v a b c d e) := ⟨fun k => (spec_l23Draw.mono_l k) a b c d e, rfl⟩
theorem spec_l23Draw.f_is : Is (fun k => spec_l23Draw.f k g h i) (spec_l23Draw.fv g h i) := ⟨fun k => spec_l23Draw.mono g h i k, rfl⟩
theorem spec_l23Draw.l0v_eq : spec_l23Draw.l0v a b c d e = if b > 0 then ((spec_l17Draw.fv c d e).bind fun bt339 => ((spec_l12Draw.fv c bt339.2.2.1 bt339.2.2.2).bind fun bt348 => ((spec_l17Tags.fv c bt348.2.1 bt348.2.2).bind fun bt353 => ((spec_PartHello.fv bt339.1 bt339.2.1 bt348.1 bt353.1).bind fun bt358 => ((spec_l1Below.f c bt353.2.1 bt353.2.2 6).bind fun bt366 => ((spec_GivenUp.fv bt339.1 bt339.2.1 bt358.1 bt358.2.1).bind fun t369 => ((spec_l1Below.f c bt366.2.1 bt366.2.2 40).bind fun bt372 => ((spec_Remember.fv a bt366.1 t369 bt372.1).bind fun t375 => (spec_l23Draw.l0v t375 (wrap64 (b - 1)) c bt372.2.1 bt372.2.2))))))))) else (some (a, d, e)) := by
  refine Is.step (spec_l23Draw.l0_is a b c d e).mo (fun k => by rw [spec_l23Draw.l0]) ?_
  exact is7_ @spec_GivenUp.f_is @spec_PartHello.f_is @spec_Remember.f_is @spec_l12Draw.f_is @spec_l17Draw.f_is @spec_l17Tags.f_is @spec_l23Draw.l0_is
theorem spec_l23Draw.fv_eq : spec_l23Draw.fv g h i = (spec_l1Below.f g h i 6).bind fun bt336 => (spec_l23Draw.l0v (([] : List (S61))) bt336.1 g bt336.2.1 bt336.2.2) := by
  refine Is.lim (g := fun k => spec_l23Draw.f k g h i) ?_
  · unfold spec_l23Draw.f
    exact is1_ @spec_l23Draw.l0_is
end
end Go.Proofs.Ytlcpaebidnaolaa.Print

/- Written by a program of this session (limx.py): the equations of what the printed functions come to. No condition. -/
namespace Go.Proofs.Ytlcpaebidnaolaa.Print
open Go.RowKit Go.Proofs.YtlcpaebidnaolaaW.PrintWords Go.Proofs.YtlcpaebidnaolaaW.PrintLast Go.Proofs.Ytlcpaebidnaolaa.Base
set_option linter.unusedVariables false
set_option maxRecDepth 20000
section
variable (a : List Int) (b c : Int)
noncomputable def spec_l23Any.fv := Lim fun k => spec_l23Any.f k a b c
theorem spec_l23Any.f_is : Is (fun k => spec_l23Any.f k a b c) (spec_l23Any.fv a b c) := ⟨fun k => spec_l23Any.mono a b c k, rfl⟩
theorem spec_l23Any.fv_eq : spec_l23Any.fv a b c = (spec_l23Draw.fv a b c).bind fun bt378 => (if (bt378.1.length : Int) = 0 then (some (bt378.1, bt378.2.1, bt378.2.2)) else ((spec_l1Below.f a bt378.2.1 bt378.2.2 (bt378.1.length : Int)).bind fun bt383 => ((spec_l1Below.f a bt383.2.1 bt383.2.2 8).bind fun bt386 => (if bt386.1 = 0 then ((spec_l1Int.f a bt386.2.1 bt386.2.2 (([(-1), 5, 6] : List Int))).bind fun bt392 => (if 0 ≤ bt383.1 then (if bt383.1 < (bt378.1.length : Int) then (some ((bt378.1.set (bt383.1 : Int).toNat (⟨bt392.1, (rd_T61 bt378.1 bt383.1).f1, (rd_T61 bt378.1 bt383.1).f2⟩ : S61)), bt392.2.1, bt392.2.2)) else (none)) else (none))) else (if bt386.1 = 1 then ((spec_l1Int.f a bt386.2.1 bt386.2.2 (([(-1), 40, 9223372036854775807, (-9223372036854775808)] : List Int))).bind fun bt399 => (if 0 ≤ bt383.1 then (if bt383.1 < (bt378.1.length : Int) then (some ((bt378.1.set (bt383.1 : Int).toNat (⟨(rd_T61 bt378.1 bt383.1).f0, (rd_T61 bt378.1 bt383.1).f1, bt399.1⟩ : S61)), bt399.2.1, bt399.2.2)) else (none)) else (none))) else (if bt386.1 = 2 then (if 0 ≤ bt383.1 then (if bt383.1 < (bt378.1.length : Int) then ((spec_l1Int.f a bt386.2.1 bt386.2.2 (([0, 1255, 1256] : List Int))).bind fun bt407 => (if ((rd_T61 bt378.1 bt383.1).f1).length < 17592186044416 then (some ((bt378.1.set (bt383.1 : Int).toNat (⟨(rd_T61 bt378.1 bt383.1).f0, (((rd_T61 bt378.1 bt383.1).f1) ++ [bt407.1]), (rd_T61 bt378.1 bt383.1).f2⟩ : S61)), bt407.2.1, bt407.2.2)) else (none))) else (none)) else (none)) else (some (bt378.1, bt386.2.1, bt386.2.2)))))))) := by
  refine Is.lim (g := fun k => spec_l23Any.f k a b c) ?_
  · unfold spec_l23Any.f
    exact is1_ @spec_l23Draw.f_is
end
section
variable (a : List Int)
noncomputable def spec_DrawRemember.fv := Lim fun k => spec_DrawRemember.f k a
theorem spec_DrawRemember.f_is : Is (fun k => spec_DrawRemember.f k a) (spec_DrawRemember.fv a) := ⟨fun k => spec_DrawRemember.mono a k, rfl⟩
theorem spec_DrawRemember.fv_eq : spec_DrawRemember.fv a = (spec_l1New.fv a).bind fun bt414 => ((spec_l23Any.fv bt414.1 bt414.2.1 bt414.2.2).bind fun bt418 => ((spec_l1Below.f bt414.1 bt418.2.1 bt418.2.2 8).bind fun bt423 => ((spec_l17Tags.fv bt414.1 bt423.2.1 bt423.2.2).bind fun bt426 => ((spec_l1Int.f bt414.1 bt426.2.1 bt426.2.2 (([0, 5, 50, (-1)] : List Int))).bind fun bt434 => (some (bt418.1, wrap64 (bt423.1 - 1), bt426.1, bt434.1)))))) := by
  refine Is.lim (g := fun k => spec_DrawRemember.f k a) ?_
  · unfold spec_DrawRemember.f
    exact is3_ @spec_l17Tags.f_is @spec_l1New.f_is @spec_l23Any.f_is
end
section
variable (a b : List (S61)) (c d : Int) (e : List (S61))
noncomputable def impl_keptKnown_with_impl_Remember_1.l0v := Lim fun k => impl_keptKnown_with_impl_Remember_1.l0 k a b c d
noncomputable def impl_keptKnown_with_impl_Remember_1.fv := Lim fun k => impl_keptKnown_with_impl_Remember_1.f k e
theorem impl_keptKnown_with_impl_Remember_1.l0_is : Is (fun k => impl_keptKnown_with_impl_Remember_1.l0 k a b c d) (impl_keptKnown_with_impl_Remember_1.l0v a b c d) := ⟨fun k => (impl_keptKnown_with_impl_Remember_1.mono_l k) a b c d, rfl⟩
theorem impl_keptKnown_with_impl_Remember_1.f_is : Is (fun k => impl_keptKnown_with_impl_Remember_1.f k e) (impl_keptKnown_with_impl_Remember_1.fv e) := ⟨fun k => impl_keptKnown_with_impl_Remember_1.mono e k, rfl⟩
theorem impl_keptKnown_with_impl_Remember_1.l0v_eq : impl_keptKnown_with_impl_Remember_1.l0v a b c d = if d < c then (if 0 ≤ d then (if d < (b.length : Int) then ((impl_Remember_1.f ((rd_T61 b d).f0) ((rd_T61 b d).f1) ((rd_T61 b d).f2)).bind fun t443 => (if t443 = true then ((some (([] : List Int) : List Int)).bind fun y444 => (if y444.length + ((rd_T61 b d).f1).length < 17592186044416 then (if a.length < 3518437208883 then (impl_keptKnown_with_impl_Remember_1.l0v (a ++ [(⟨(rd_T61 b d).f0, (y444 ++ ((rd_T61 b d).f1)), (rd_T61 b d).f2⟩ : S61)]) b c (wrap64 (d + 1))) else (none)) else (none))) else (impl_keptKnown_with_impl_Remember_1.l0v a b c (wrap64 (d + 1))))) else (none)) else (none)) else (some a) := by
  refine Is.step (impl_keptKnown_with_impl_Remember_1.l0_is a b c d).mo (fun k => by rw [impl_keptKnown_with_impl_Remember_1.l0]) ?_
  exact is1_ @impl_keptKnown_with_impl_Remember_1.l0_is
theorem impl_keptKnown_with_impl_Remember_1.fv_eq : impl_keptKnown_with_impl_Remember_1.fv e = impl_keptKnown_with_impl_Remember_1.l0v (([] : List (S61))) e (e.length : Int) 0 := by
  refine Is.lim (g := fun k => impl_keptKnown_with_impl_Remember_1.f k e) ?_
  · unfold impl_keptKnown_with_impl_Remember_1.f
    exact is1_ @impl_keptKnown_with_impl_Remember_1.l0_is
end
end Go.Proofs.Ytlcpaebidnaolaa.Print

/- Written by a program of this session (limx.py): the equations of what the printed functions come to. No condition. -/
namespace Go.Proofs.Ytlcpaebidnaolaa.Print
open Go.RowKit Go.Proofs.YtlcpaebidnaolaaW.PrintWords Go.Proofs.YtlcpaebidnaolaaW.PrintLast Go.Proofs.Ytlcpaebidnaolaa.Base
set_option linter.unusedVariables false
set_option maxRecDepth 20000
section
variable (a b : List (S61)) (c d e : Int) (g : List (S61)) (h : Int)
noncomputable def impl_keptKnown_with_impl_Remember_2.l0v := Lim fun k => impl_keptKnown_with_impl_Remember_2.l0 k a b c d e
noncomputable def impl_keptKnown_with_impl_Remember_2.fv := Lim fun k => impl_keptKnown_with_impl_Remember_2.f k g h
theorem impl_keptKnown_with_impl_Remember_2.l0_is : Is (fun k => impl_keptKnown_with_impl_Remember_2.l0 k a b c d e) (impl_keptKnown_with_impl_Remember_2.l0v a b c d e) := ⟨fun k => (impl_keptKnown_with_impl_Remember_2.mono_l k) a b c d e, rfl⟩
theorem impl_keptKnown_with_impl_Remember_2.f_is : Is (fun k => impl_keptKnown_with_impl_Remember_2.f k g h) (impl_keptKnown_with_impl_Remember_2.fv g h) := ⟨fun k => impl_keptKnown_with_impl_Remember_2.mono g h k, rfl⟩
theorem impl_keptKnown_with_impl_Remember_2.l0v_eq : impl_keptKnown_with_impl_Remember_2.l0v a b c d e = if d < c then (if 0 ≤ d then (if d < (b.length : Int) then ((impl_Remember_2.f ((rd_T61 b d).f0) ((rd_T61 b d).f1) ((rd_T61 b d).f2) e).bind fun t443 => (if t443 = true then ((some (([] : List Int) : List Int)).bind fun y444 => (if y444.length + ((rd_T61 b d).f1).length < 17592186044416 then (if a.length < 3518437208883 then (impl_keptKnown_with_impl_Remember_2.l0v (a ++ [(⟨(rd_T61 b d).f0, (y444 ++ ((rd_T61 b d).f1)), (rd_T61 b d).f2⟩ : S61)]) b c (wrap64 (d + 1)) e) else (none)) else (none))) else (impl_keptKnown_with_impl_Remember_2.l0v a b c (wrap64 (d + 1)) e))) else (none)) else (none)) else (some a) := by
  refine Is.step (impl_keptKnown_with_impl_Remember_2.l0_is a b c d e).mo (fun k => by rw [impl_keptKnown_with_impl_Remember_2.l0]) ?_
  exact is1_ @impl_keptKnown_with_impl_Remember_2.l0_is
theorem impl_keptKnown_with_impl_Remember_2.fv_eq : impl_keptKnown_with_impl_Remember_2.fv g h = impl_keptKnown_with_impl_Remember_2.l0v (([] : List (S61))) g (g.length : Int) 0 h := by
  refine Is.lim (g := fun k => impl_keptKnown_with_impl_Remember_2.f k g h) ?_
  · unfold impl_keptKnown_with_impl_Remember_2.f
    exact is1_ @impl_keptKnown_with_impl_Remember_2.l0_is
end
section
variable (a : List (S61)) (b : List Int) (c : Int) (d : Bool) (e : Int) (g : List (S61)) (h : Int) (i : List Int) (j : Int)
noncomputable def impl_Remember.j0v := Lim fun k => impl_Remember.j0 k a b c d e
noncomputable def impl_Remember.fv := Lim fun k => impl_Remember.f k g h i j
theorem impl_Remember.j0_is : Is (fun k => impl_Remember.j0 k a b c d e) (impl_Remember.j0v a b c d e) := ⟨fun k => (impl_Remember.mono_l k) a b c d e, rfl⟩
theorem impl_Remember.f_is : Is (fun k => impl_Remember.f k g h i j) (impl_Remember.fv g h i j) := ⟨fun k => impl_Remember.mono g h i j k, rfl⟩
theorem impl_Remember.j0v_eq : impl_Remember.j0v a b c d e = if d = true then ((impl_keptKnown_with_impl_Remember_1.fv a).bind fun t455 => (some t455)) else ((impl_keptKnown_with_impl_Remember_2.fv a e).bind fun t458 => ((some (([] : List Int) : List Int)).bind fun y461 => (if y461.length + b.length < 17592186044416 then (if t458.length < 3518437208883 then (some (t458 ++ [(⟨e, (y461 ++ b), c⟩ : S61)])) else (none)) else (none)))) := by
  refine Is.step (impl_Remember.j0_is a b c d e).mo (fun k => by rw [impl_Remember.j0]) ?_
  exact is2_ @impl_keptKnown_with_impl_Remember_1.f_is @impl_keptKnown_with_impl_Remember_2.f_is
theorem impl_Remember.fv_eq : impl_Remember.fv g h i j = (impl_InRange.f h 0 5).bind fun t454 => (if t454 = true then (impl_Remember.j0v g i j (decide (j < 0)) h) else (impl_Remember.j0v g i j true h)) := by
  refine Is.lim (g := fun k => impl_Remember.f k g h i j) ?_
  · unfold impl_Remember.f
    exact is1_ @impl_Remember.j0_is
end
section
variable (a b : List Int) (c d : Int) (e f : List Int)
noncomputable def slices_Equal_int_int.l0v := Lim fun k => slices_Equal_int_int.l0 k a b c d
noncomputable def slices_Equal_int_int.fv := Lim fun k => slices_Equal_int_int.f k e f
theorem slices_Equal_int_int.l0_is : Is (fun k => slices_Equal_int_int.l0 k a b c d) (slices_Equal_int_int.l0v a b c d) := ⟨fun k => (slices_Equal_int_int.mono_l k) a b c d, rfl⟩
theorem slices_Equal_int_int.f_is : Is (fun k => slices_Equal_int_int.f k e f) (slices_Equal_int_int.fv e f) := ⟨fun k => slices_Equal_int_int.mono e f k, rfl⟩
theorem slices_Equal_int_int.l0v_eq : slices_Equal_int_int.l0v a b c d = if d < c then (if 0 ≤ d then (if d < (a.length : Int) then (if d < (b.length : Int) then (if (rd a d) = (rd b d) then (slices_Equal_int_int.l0v a b c (wrap64 (d + 1))) else (some false)) else (none)) else (none)) else (none)) else (some true) := by
  refine Is.step (slices_Equal_int_int.l0_is a b c d).mo (fun k => by rw [slices_Equal_int_int.l0]) ?_
  exact is1_ @slices_Equal_int_int.l0_is
theorem slices_Equal_int_int.fv_eq : slices_Equal_int_int.fv e f = if (e.length : Int) = (f.length : Int) then (slices_Equal_int_int.l0v e f (e.length : Int) 0) else (some false) := by
  refine Is.lim (g := fun k => slices_Equal_int_int.f k e f) ?_
  · unfold slices_Equal_int_int.f
    exact is1_ @slices_Equal_int_int.l0_is
end
section
variable (a b : List Int)
noncomputable def impl_EqualInts.fv := Lim fun k => impl_EqualInts.f k a b
theorem impl_EqualInts.f_is : Is (fun k => impl_EqualInts.f k a b) (impl_EqualInts.fv a b) := ⟨fun k => impl_EqualInts.mono a b k, rfl⟩
theorem impl_EqualInts.fv_eq : impl_EqualInts.fv a b = (slices_Equal_int_int.fv a b).bind fun t472 => (some t472) := by
  refine Is.lim (g := fun k => impl_EqualInts.f k a b) ?_
  · unfold impl_EqualInts.f
    exact is1_ @slices_Equal_int_int.f_is
end
end Go.Proofs.Ytlcpaebidnaolaa.Print

/- Written by a program of this session (limx.py): the equations of what the printed functions come to. No condition. -/
namespace Go.Proofs.Ytlcpaebidnaolaa.Print
open Go.RowKit Go.Proofs.YtlcpaebidnaolaaW.PrintWords Go.Proofs.YtlcpaebidnaolaaW.PrintLast Go.Proofs.Ytlcpaebidnaolaa.Base
set_option linter.unusedVariables false
set_option maxRecDepth 20000
section
variable (a b : List (S61)) (c d e : Int) (g : List (S61)) (h : Int)
noncomputable def impl_keptKnown_with_impl_ForgetOld_1.l0v := Lim fun k => impl_keptKnown_with_impl_ForgetOld_1.l0 k a b c d e
noncomputable def impl_keptKnown_with_impl_ForgetOld_1.fv := Lim fun k => impl_keptKnown_with_impl_ForgetOld_1.f k g h
theorem impl_keptKnown_with_impl_ForgetOld_1.l0_is : Is (fun k => impl_keptKnown_with_impl_ForgetOld_1.l0 k a b c d e) (impl_keptKnown_with_impl_ForgetOld_1.l0v a b c d e) := ⟨fun k => (impl_keptKnown_with_impl_ForgetOld_1.mono_l k) a b c d e, rfl⟩
theorem impl_keptKnown_with_impl_ForgetOld_1.f_is : Is (fun k => impl_keptKnown_with_impl_ForgetOld_1.f k g h) (impl_keptKnown_with_impl_ForgetOld_1.fv g h) := ⟨fun k => impl_keptKnown_with_impl_ForgetOld_1.mono g h k, rfl⟩
theorem impl_keptKnown_with_impl_ForgetOld_1.l0v_eq : impl_keptKnown_with_impl_ForgetOld_1.l0v a b c d e = if d < c then (if 0 ≤ d then (if d < (b.length : Int) then ((impl_ForgetOld_1.f ((rd_T61 b d).f0) ((rd_T61 b d).f1) ((rd_T61 b d).f2) e).bind fun t480 => (if t480 = true then ((some (([] : List Int) : List Int)).bind fun y481 => (if y481.length + ((rd_T61 b d).f1).length < 17592186044416 then (if a.length < 3518437208883 then (impl_keptKnown_with_impl_ForgetOld_1.l0v (a ++ [(⟨(rd_T61 b d).f0, (y481 ++ ((rd_T61 b d).f1)), (rd_T61 b d).f2⟩ : S61)]) b c (wrap64 (d + 1)) e) else (none)) else (none))) else (impl_keptKnown_with_impl_ForgetOld_1.l0v a b c (wrap64 (d + 1)) e))) else (none)) else (none)) else (some a) := by
  refine Is.step (impl_keptKnown_with_impl_ForgetOld_1.l0_is a b c d e).mo (fun k => by rw [impl_keptKnown_with_impl_ForgetOld_1.l0]) ?_
  exact is1_ @impl_keptKnown_with_impl_ForgetOld_1.l0_is
theorem impl_keptKnown_with_impl_ForgetOld_1.fv_eq : impl_keptKnown_with_impl_ForgetOld_1.fv g h = impl_keptKnown_with_impl_ForgetOld_1.l0v (([] : List (S61))) g (g.length : Int) 0 h := by
  refine Is.lim (g := fun k => impl_keptKnown_with_impl_ForgetOld_1.f k g h) ?_
  · unfold impl_keptKnown_with_impl_ForgetOld_1.f
    exact is1_ @impl_keptKnown_with_impl_ForgetOld_1.l0_is
end
section
variable (a : List (S61)) (b : Int)
noncomputable def impl_ForgetOld.fv := Lim fun k => impl_ForgetOld.f k a b
theorem impl_ForgetOld.f_is : Is (fun k => impl_ForgetOld.f k a b) (impl_ForgetOld.fv a b) := ⟨fun k => impl_ForgetOld.mono a b k, rfl⟩
theorem impl_ForgetOld.fv_eq : impl_ForgetOld.fv a b = (impl_InRange.f b 0 100000).bind fun t491 => (if t491 = true then ((impl_keptKnown_with_impl_ForgetOld_1.fv a b).bind fun t492 => (some t492)) else (some ([] : List (S61)))) := by
  refine Is.lim (g := fun k => impl_ForgetOld.f k a b) ?_
  · unfold impl_ForgetOld.f
    exact is1_ @impl_keptKnown_with_impl_ForgetOld_1.f_is
end
section
variable (a : Int) (b : List (S61)) (c d : Int) (e : List (S61)) (g h : Int)
noncomputable def impl_Recall.l0v := Lim fun k => impl_Recall.l0 k a b c d
noncomputable def impl_Recall.fv := Lim fun k => impl_Recall.f k e g h
theorem impl_Recall.l0_is : Is (fun k => impl_Recall.l0 k a b c d) (impl_Recall.l0v a b c d) := ⟨fun k => (impl_Recall.mono_l k) a b c d, rfl⟩
theorem impl_Recall.f_is : Is (fun k => impl_Recall.f k e g h) (impl_Recall.fv e g h) := ⟨fun k => impl_Recall.mono e g h k, rfl⟩
theorem impl_Recall.l0v_eq : impl_Recall.l0v a b c d = if d < c then (if 0 ≤ d then (if d < (b.length : Int) then (if ((rd_T61 b d).f0) = a then (some ((rd_T61 b d).f1)) else (impl_Recall.l0v a b c (wrap64 (d + 1)))) else (none)) else (none)) else (some ([] : List Int)) := by
  refine Is.step (impl_Recall.l0_is a b c d).mo (fun k => by rw [impl_Recall.l0]) ?_
  exact is1_ @impl_Recall.l0_is
theorem impl_Recall.fv_eq : impl_Recall.fv e g h = (impl_ForgetOld.fv e h).bind fun t495 => (impl_Recall.l0v g t495 (t495.length : Int) 0) := by
  refine Is.lim (g := fun k => impl_Recall.f k e g h) ?_
  · unfold impl_Recall.f
    exact is2_ @impl_ForgetOld.f_is @impl_Recall.l0_is
end
section
variable (a : List Int)
noncomputable def spec_DrawRecall.fv := Lim fun k => spec_DrawRecall.f k a
theorem spec_DrawRecall.f_is : Is (fun k => spec_DrawRecall.f k a) (spec_DrawRecall.fv a) := ⟨fun k => spec_DrawRecall.mono a k, rfl⟩
theorem spec_DrawRecall.fv_eq : spec_DrawRecall.fv a = (spec_l1New.fv a).bind fun bt500 => ((spec_l23Any.fv bt500.1 bt500.2.1 bt500.2.2).bind fun bt504 => ((spec_l1Below.f bt500.1 bt504.2.1 bt504.2.2 7).bind fun bt509 => ((spec_l1Int.f bt500.1 bt509.2.1 bt509.2.2 (([0, 20, 30, 40, 60, 100000, 100001, (-1)] : List Int))).bind fun bt515 => (some (bt504.1, bt509.1, bt515.1))))) := by
  refine Is.lim (g := fun k => spec_DrawRecall.f k a) ?_
  · unfold spec_DrawRecall.f
    exact is2_ @spec_l1New.f_is @spec_l23Any.f_is
end
section
variable (a : List Int)
noncomputable def spec_DrawForgetOld.fv := Lim fun k => spec_DrawForgetOld.f k a
theorem spec_DrawForgetOld.f_is : Is (fun k => spec_DrawForgetOld.f k a) (spec_DrawForgetOld.fv a) := ⟨fun k => spec_DrawForgetOld.mono a k, rfl⟩
theorem spec_DrawForgetOld.fv_eq : spec_DrawForgetOld.fv a = (spec_DrawRecall.fv a).bind fun bt518 => (some (bt518.1, bt518.2.2)) := by
  refine Is.lim (g := fun k => spec_DrawForgetOld.f k a) ?_
  · unfold spec_DrawForgetOld.f
    exact is1_ @spec_DrawRecall.f_is
end
section
variable (a : List Int)
noncomputable def spec_DrawIsMemory.fv := Lim fun k => spec_DrawIsMemory.f k a
theorem spec_DrawIsMemory.f_is : Is (fun k => spec_DrawIsMemory.f k a) (spec_DrawIsMemory.fv a) := ⟨fun k => spec_DrawIsMemory.mono a k, rfl⟩
theorem spec_DrawIsMemory.fv_eq : spec_DrawIsMemory.fv a = (spec_l1New.fv a).bind fun bt523 => ((spec_l23Any.fv bt523.1 bt523.2.1 bt523.2.2).bind fun bt527 => ((spec_l1Int.f bt523.1 bt527.2.1 bt527.2.2 (([40, 40, 60, 5, (-1)] : List Int))).bind fun bt535 => (some (bt527.1, bt535.1)))) := by
  refine Is.lim (g := fun k => spec_DrawIsMemory.f k a) ?_
  · unfold spec_DrawIsMemory.f
    exact is2_ @spec_l1New.f_is @spec_l23Any.f_is
end
section
variable (a : List Int) (b c d e : Int) (g : List Int) (h i : Int)
noncomputable def slices_IndexFunc_int_int_with_impl_areNumbers_1.l0v := Lim fun k => slices_IndexFunc_int_int_with_impl_areNumbers_1.l0 k a b c d e
noncomputable def slices_IndexFunc_int_int_with_impl_areNumbers_1.fv := Lim fun k => slices_IndexFunc_int_int_with_impl_areNumbers_1.f k g h i
theorem slices_IndexFunc_int_int_with_impl_areNumbers_1.l0_is : Is (fun k => slices_IndexFunc_int_int_with_impl_areNumbers_1.l0 k a b c d e) (slices_IndexFunc_int_int_with_impl_areNumbers_1.l0v a b c d e) := ⟨fun k => (slices_IndexFunc_int_int_with_impl_areNumbers_1.mono_l k) a b c d e, rfl⟩
theorem slices_IndexFunc_int_int_with_impl_areNumbers_1.f_is : Is (fun k => slices_IndexFunc_int_int_with_impl_areNumbers_1.f k g h i) (slices_IndexFunc_int_int_with_impl_areNumbers_1.fv g h i) := ⟨fun k => slices_IndexFunc_int_int_with_impl_areNumbers_1.mono g h i k, rfl⟩
theorem slices_IndexFunc_int_int_with_impl_areNumbers_1.l0v_eq : slices_IndexFunc_int_int_with_impl_areNumbers_1.l0v a b c d e = if c < b then (if 0 ≤ c then (if c < (a.length : Int) then ((impl_areNumbers_1.f (rd a c) d e).bind fun t540 => (if t540 = true then (some c) else (slices_IndexFunc_int_int_with_impl_areNumbers_1.l0v a b (wrap64 (c + 1)) d e))) else (none)) else (none)) else (some (-1)) := by
  refine Is.step (slices_IndexFunc_int_int_with_impl_areNumbers_1.l0_is a b c d e).mo (fun k => by rw [slices_IndexFunc_int_int_with_impl_areNumbers_1.l0]) ?_
  exact is1_ @slices_IndexFunc_int_int_with_impl_areNumbers_1.l0_is
theorem slices_IndexFunc_int_int_with_impl_areNumbers_1.fv_eq : slices_IndexFunc_int_int_with_impl_areNumbers_1.fv g h i = slices_IndexFunc_int_int_with_impl_areNumbers_1.l0v g (g.length : Int) 0 h i := by
  refine Is.lim (g := fun k => slices_IndexFunc_int_int_with_impl_areNumbers_1.f k g h i) ?_
  · unfold slices_IndexFunc_int_int_with_impl_areNumbers_1.f
    exact is1_ @slices_IndexFunc_int_int_with_impl_areNumbers_1.l0_is
end
section
variable (a : List Int) (b c : Int)
noncomputable def slices_ContainsFunc_int_int_with_impl_areNumbers_1.fv := Lim fun k => slices_ContainsFunc_int_int_with_impl_areNumbers_1.f k a b c
theorem slices_ContainsFunc_int_int_with_impl_areNumbers_1.f_is : Is (fun k => slices_ContainsFunc_int_int_with_impl_areNumbers_1.f k a b c) (slices_ContainsFunc_int_int_with_impl_areNumbers_1.fv a b c) := ⟨fun k => slices_ContainsFunc_int_int_with_impl_areNumbers_1.mono a b c k, rfl⟩
theorem slices_ContainsFunc_int_int_with_impl_areNumbers_1.fv_eq : slices_ContainsFunc_int_int_with_impl_areNumbers_1.fv a b c = (slices_IndexFunc_int_int_with_impl_areNumbers_1.fv a b c).bind fun t541 => (some (decide (t541 ≥ 0))) := by
  refine Is.lim (g := fun k => slices_ContainsFunc_int_int_with_impl_areNumbers_1.f k a b c) ?_
  · unfold slices_ContainsFunc_int_int_with_impl_areNumbers_1.f
    exact is1_ @slices_IndexFunc_int_int_with_impl_areNumbers_1.f_is
end
section
variable (a : List Int) (b c : Int)
noncomputable def impl_areNumbers.fv := Lim fun k => impl_areNumbers.f k a b c
theorem impl_areNumbers.f_is : Is (fun k => impl_areNumbers.f k a b c) (impl_areNumbers.fv a b c) := ⟨fun k => impl_areNumbers.mono a b c k, rfl⟩
theorem impl_areNumbers.fv_eq : impl_areNumbers.fv a b c = (slices_ContainsFunc_int_int_with_impl_areNumbers_1.fv a b c).bind fun t544 => (some (!t544)) := by
  refine Is.lim (g := fun k => impl_areNumbers.f k a b c) ?_
  · unfold impl_areNumbers.f
    exact is1_ @slices_ContainsFunc_int_int_with_impl_areNumbers_1.f_is
end
end Go.Proofs.Ytlcpaebidnaolaa.Print

/- Written by a program of this session (limx.py): the equations of what the printed functions come to. No condition. -/
namespace Go.Proofs.Ytlcpaebidnaolaa.Print
open Go.RowKit Go.Proofs.YtlcpaebidnaolaaW.PrintWords Go.Proofs.YtlcpaebidnaolaaW.PrintLast Go.Proofs.Ytlcpaebidnaolaa.Base
set_option linter.unusedVariables false
set_option maxRecDepth 20000
section
variable (a : List (S61)) (b c d : Int) (e : List Int) (g : Int) (h : List (S61)) (i : Int) (j : List Int) (l : Int)
noncomputable def slices_IndexFunc_impl_Known_impl_Known_with_impl_IsMemory_1.l0v := Lim fun k => slices_IndexFunc_impl_Known_impl_Known_with_impl_IsMemory_1.l0 k a b c d e g
noncomputable def slices_IndexFunc_impl_Known_impl_Known_with_impl_IsMemory_1.fv := Lim fun k => slices_IndexFunc_impl_Known_impl_Known_with_impl_IsMemory_1.f k h i j l
theorem slices_IndexFunc_impl_Known_impl_Known_with_impl_IsMemory_1.l0_is : Is (fun k => slices_IndexFunc_impl_Known_impl_Known_with_impl_IsMemory_1.l0 k a b c d e g) (slices_IndexFunc_impl_Known_impl_Known_with_impl_IsMemory_1.l0v a b c d e g) := ⟨fun k => (slices_IndexFunc_impl_Known_impl_Known_with_impl_IsMemory_1.mono_l k) a b c d e g, rfl⟩
theorem slices_IndexFunc_impl_Known_impl_Known_with_impl_IsMemory_1.f_is : Is (fun k => slices_IndexFunc_impl_Known_impl_Known_with_impl_IsMemory_1.f k h i j l) (slices_IndexFunc_impl_Known_impl_Known_with_impl_IsMemory_1.fv h i j l) := ⟨fun k => slices_IndexFunc_impl_Known_impl_Known_with_impl_IsMemory_1.mono h i j l k, rfl⟩
theorem slices_IndexFunc_impl_Known_impl_Known_with_impl_IsMemory_1.l0v_eq : slices_IndexFunc_impl_Known_impl_Known_with_impl_IsMemory_1.l0v a b c d e g = if c < b then (if 0 ≤ c then (if c < (a.length : Int) then ((impl_IsMemory_1.f ((rd_T61 a c).f0) ((rd_T61 a c).f1) ((rd_T61 a c).f2) d e g).bind fun t547 => (if t547 = true then (some c) else (slices_IndexFunc_impl_Known_impl_Known_with_impl_IsMemory_1.l0v a b (wrap64 (c + 1)) d e g))) else (none)) else (none)) else (some (-1)) := by
  refine Is.step (slices_IndexFunc_impl_Known_impl_Known_with_impl_IsMemory_1.l0_is a b c d e g).mo (fun k => by rw [slices_IndexFunc_impl_Known_impl_Known_with_impl_IsMemory_1.l0]) ?_
  exact is1_ @slices_IndexFunc_impl_Known_impl_Known_with_impl_IsMemory_1.l0_is
theorem slices_IndexFunc_impl_Known_impl_Known_with_impl_IsMemory_1.fv_eq : slices_IndexFunc_impl_Known_impl_Known_with_impl_IsMemory_1.fv h i j l = slices_IndexFunc_impl_Known_impl_Known_with_impl_IsMemory_1.l0v h (h.length : Int) 0 i j l := by
  refine Is.lim (g := fun k => slices_IndexFunc_impl_Known_impl_Known_with_impl_IsMemory_1.f k h i j l) ?_
  · unfold slices_IndexFunc_impl_Known_impl_Known_with_impl_IsMemory_1.f
    exact is1_ @slices_IndexFunc_impl_Known_impl_Known_with_impl_IsMemory_1.l0_is
end
section
variable (a : List (S61)) (b : Int) (c : List Int) (d : Int)
noncomputable def slices_ContainsFunc_impl_Known_impl_Known_with_impl_IsMemory_1.fv := Lim fun k => slices_ContainsFunc_impl_Known_impl_Known_with_impl_IsMemory_1.f k a b c d
theorem slices_ContainsFunc_impl_Known_impl_Known_with_impl_IsMemory_1.f_is : Is (fun k => slices_ContainsFunc_impl_Known_impl_Known_with_impl_IsMemory_1.f k a b c d) (slices_ContainsFunc_impl_Known_impl_Known_with_impl_IsMemory_1.fv a b c d) := ⟨fun k => slices_ContainsFunc_impl_Known_impl_Known_with_impl_IsMemory_1.mono a b c d k, rfl⟩
theorem slices_ContainsFunc_impl_Known_impl_Known_with_impl_IsMemory_1.fv_eq : slices_ContainsFunc_impl_Known_impl_Known_with_impl_IsMemory_1.fv a b c d = (slices_IndexFunc_impl_Known_impl_Known_with_impl_IsMemory_1.fv a b c d).bind fun t548 => (some (decide (t548 ≥ 0))) := by
  refine Is.lim (g := fun k => slices_ContainsFunc_impl_Known_impl_Known_with_impl_IsMemory_1.f k a b c d) ?_
  · unfold slices_ContainsFunc_impl_Known_impl_Known_with_impl_IsMemory_1.f
    exact is1_ @slices_IndexFunc_impl_Known_impl_Known_with_impl_IsMemory_1.f_is
end
section
variable (a : List (S61)) (b g : Int) (c : List (S61)) (d e : Int) (h : Bool) (i : Int) (j : List Int) (l : Int) (m : List (S61)) (n : Int)
noncomputable def impl_IsMemory.l0v := Lim fun k => impl_IsMemory.l0 k a b c d e
noncomputable def impl_IsMemory.j1v := Lim fun k => impl_IsMemory.j1 k a b g c d e h i j l
noncomputable def impl_IsMemory.fv := Lim fun k => impl_IsMemory.f k m n
theorem impl_IsMemory.l0_is : Is (fun k => impl_IsMemory.l0 k a b c d e) (impl_IsMemory.l0v a b c d e) := ⟨fun k => (impl_IsMemory.mono_l k).1 a b c d e, rfl⟩
theorem impl_IsMemory.j1_is : Is (fun k => impl_IsMemory.j1 k a b g c d e h i j l) (impl_IsMemory.j1v a b g c d e h i j l) := ⟨fun k => (impl_IsMemory.mono_l k).2 a b g c d e h i j l, rfl⟩
theorem impl_IsMemory.f_is : Is (fun k => impl_IsMemory.f k m n) (impl_IsMemory.fv m n) := ⟨fun k => impl_IsMemory.mono m n k, rfl⟩
theorem impl_IsMemory.l0v_eq : impl_IsMemory.l0v a b c d e = if e < d then (if 0 ≤ e then (if e < (c.length : Int) then ((impl_InRange.f ((rd_T61 c e).f0) 0 5).bind fun t551 => (if t551 = true then (if (((rd_T61 c e).f1).length : Int) > 12 then (impl_IsMemory.j1v a b e c d e true ((rd_T61 c e).f0) ((rd_T61 c e).f1) ((rd_T61 c e).f2)) else ((impl_areNumbers.fv ((rd_T61 c e).f1) 1 1255).bind fun t552 => (if t552 = true then ((impl_InRange.f ((rd_T61 c e).f2) 0 b).bind fun t553 => (impl_IsMemory.j1v a b e c d e (!t553) ((rd_T61 c e).f0) ((rd_T61 c e).f1) ((rd_T61 c e).f2))) else (impl_IsMemory.j1v a b e c d e true ((rd_T61 c e).f0) ((rd_T61 c e).f1) ((rd_T61 c e).f2))))) else (impl_IsMemory.j1v a b e c d e true ((rd_T61 c e).f0) ((rd_T61 c e).f1) ((rd_T61 c e).f2)))) else (none)) else (none)) else (some (decide ((a.length : Int) ≤ 6))) := by
  refine Is.step (impl_IsMemory.l0_is a b c d e).mo (fun k => by rw [impl_IsMemory.l0]) ?_
  exact is2_ @impl_IsMemory.j1_is @impl_areNumbers.f_is
theorem impl_IsMemory.j1v_eq : impl_IsMemory.j1v a b g c d e h i j l = if h = true then (some false) else (if 0 ≤ g then (if g ≤ (a.length : Int) then ((slices_ContainsFunc_impl_Known_impl_Known_with_impl_IsMemory_1.fv (a.take (g : Int).toNat) i j l).bind fun t558 => (if t558 = true then (some false) else (impl_IsMemory.l0v a b c d (wrap64 (e + 1))))) else (none)) else (none)) := by
  refine Is.step (impl_IsMemory.j1_is a b g c d e h i j l).mo (fun k => by rw [impl_IsMemory.j1]) ?_
  exact is2_ @impl_IsMemory.l0_is @slices_ContainsFunc_impl_Known_impl_Known_with_impl_IsMemory_1.f_is
theorem impl_IsMemory.fv_eq : impl_IsMemory.fv m n = impl_IsMemory.l0v m n m (m.length : Int) 0 := by
  refine Is.lim (g := fun k => impl_IsMemory.f k m n) ?_
  · unfold impl_IsMemory.f
    exact is1_ @impl_IsMemory.l0_is
end
section
variable (a : Int) (b : List Int) (c d : Int) (e : List Int) (g : Int)
noncomputable def impl_CountStates_1.fv := Lim fun k => impl_CountStates_1.f k a b c d e g
theorem impl_CountStates_1.f_is : Is (fun k => impl_CountStates_1.f k a b c d e g) (impl_CountStates_1.fv a b c d e g) := ⟨fun k => impl_CountStates_1.mono a b c d e g k, rfl⟩
theorem impl_CountStates_1.fv_eq : impl_CountStates_1.fv a b c d e g = (slices_Equal_int_int.fv b e).bind fun t560 => (some t560) := by
  refine Is.lim (g := fun k => impl_CountStates_1.f k a b c d e g) ?_
  · unfold impl_CountStates_1.f
    exact is1_ @slices_Equal_int_int.f_is
end
section
variable (a : List (S61)) (b c d : Int) (e : List Int) (g : Int) (h : List (S61)) (i : Int) (j : List Int) (l : Int)
noncomputable def slices_IndexFunc_impl_Known_impl_Known_with_impl_CountStates_1.l0v := Lim fun k => slices_IndexFunc_impl_Known_impl_Known_with_impl_CountStates_1.l0 k a b c d e g
noncomputable def slices_IndexFunc_impl_Known_impl_Known_with_impl_CountStates_1.fv := Lim fun k => slices_IndexFunc_impl_Known_impl_Known_with_impl_CountStates_1.f k h i j l
theorem slices_IndexFunc_impl_Known_impl_Known_with_impl_CountStates_1.l0_is : Is (fun k => slices_IndexFunc_impl_Known_impl_Known_with_impl_CountStates_1.l0 k a b c d e g) (slices_IndexFunc_impl_Known_impl_Known_with_impl_CountStates_1.l0v a b c d e g) := ⟨fun k => (slices_IndexFunc_impl_Known_impl_Known_with_impl_CountStates_1.mono_l k) a b c d e g, rfl⟩
theorem slices_IndexFunc_impl_Known_impl_Known_with_impl_CountStates_1.f_is : Is (fun k => slices_IndexFunc_impl_Known_impl_Known_with_impl_CountStates_1.f k h i j l) (slices_IndexFunc_impl_Known_impl_Known_with_impl_CountStates_1.fv h i j l) := ⟨fun k => slices_IndexFunc_impl_Known_impl_Known_with_impl_CountStates_1.mono h i j l k, rfl⟩
theorem slices_IndexFunc_impl_Known_impl_Known_with_impl_CountStates_1.l0v_eq : slices_IndexFunc_impl_Known_impl_Known_with_impl_CountStates_1.l0v a b c d e g = if c < b then (if 0 ≤ c then (if c < (a.length : Int) then ((impl_CountStates_1.fv ((rd_T61 a c).f0) ((rd_T61 a c).f1) ((rd_T61 a c).f2) d e g).bind fun t562 => (if t562 = true then (some c) else (slices_IndexFunc_impl_Known_impl_Known_with_impl_CountStates_1.l0v a b (wrap64 (c + 1)) d e g))) else (none)) else (none)) else (some (-1)) := by
  refine Is.step (slices_IndexFunc_impl_Known_impl_Known_with_impl_CountStates_1.l0_is a b c d e g).mo (fun k => by rw [slices_IndexFunc_impl_Known_impl_Known_with_impl_CountStates_1.l0]) ?_
  exact is2_ @impl_CountStates_1.f_is @slices_IndexFunc_impl_Known_impl_Known_with_impl_CountStates_1.l0_is
theorem slices_IndexFunc_impl_Known_impl_Known_with_impl_CountStates_1.fv_eq : slices_IndexFunc_impl_Known_impl_Known_with_impl_CountStates_1.fv h i j l = slices_IndexFunc_impl_Known_impl_Known_with_impl_CountStates_1.l0v h (h.length : Int) 0 i j l := by
  refine Is.lim (g := fun k => slices_IndexFunc_impl_Known_impl_Known_with_impl_CountStates_1.f k h i j l) ?_
  · unfold slices_IndexFunc_impl_Known_impl_Known_with_impl_CountStates_1.f
    exact is1_ @slices_IndexFunc_impl_Known_impl_Known_with_impl_CountStates_1.l0_is
end
section
variable (a : List (S61)) (b : Int) (c : List Int) (d : Int)
noncomputable def slices_ContainsFunc_impl_Known_impl_Known_with_impl_CountStates_1.fv := Lim fun k => slices_ContainsFunc_impl_Known_impl_Known_with_impl_CountStates_1.f k a b c d
theorem slices_ContainsFunc_impl_Known_impl_Known_with_impl_CountStates_1.f_is : Is (fun k => slices_ContainsFunc_impl_Known_impl_Known_with_impl_CountStates_1.f k a b c d) (slices_ContainsFunc_impl_Known_impl_Known_with_impl_CountStates_1.fv a b c d) := ⟨fun k => slices_ContainsFunc_impl_Known_impl_Known_with_impl_CountStates_1.mono a b c d k, rfl⟩
theorem slices_ContainsFunc_impl_Known_impl_Known_with_impl_CountStates_1.fv_eq : slices_ContainsFunc_impl_Known_impl_Known_with_impl_CountStates_1.fv a b c d = (slices_IndexFunc_impl_Known_impl_Known_with_impl_CountStates_1.fv a b c d).bind fun t563 => (some (decide (t563 ≥ 0))) := by
  refine Is.lim (g := fun k => slices_ContainsFunc_impl_Known_impl_Known_with_impl_CountStates_1.f k a b c d) ?_
  · unfold slices_ContainsFunc_impl_Known_impl_Known_with_impl_CountStates_1.f
    exact is1_ @slices_IndexFunc_impl_Known_impl_Known_with_impl_CountStates_1.f_is
end
section
variable (a : List (S61)) (b : Int) (c : List (S61)) (d e : Int) (g : List (S61))
noncomputable def impl_CountStates.l0v := Lim fun k => impl_CountStates.l0 k a b c d e
noncomputable def impl_CountStates.fv := Lim fun k => impl_CountStates.f k g
theorem impl_CountStates.l0_is : Is (fun k => impl_CountStates.l0 k a b c d e) (impl_CountStates.l0v a b c d e) := ⟨fun k => (impl_CountStates.mono_l k) a b c d e, rfl⟩
theorem impl_CountStates.f_is : Is (fun k => impl_CountStates.f k g) (impl_CountStates.fv g) := ⟨fun k => impl_CountStates.mono g k, rfl⟩
theorem impl_CountStates.l0v_eq : impl_CountStates.l0v a b c d e = if e < d then (if 0 ≤ e then (if e < (c.length : Int) then (if e ≤ (a.length : Int) then ((slices_ContainsFunc_impl_Known_impl_Known_with_impl_CountStates_1.fv (a.take (e : Int).toNat) ((rd_T61 c e).f0) ((rd_T61 c e).f1) ((rd_T61 c e).f2)).bind fun t570 => (if t570 = true then (impl_CountStates.l0v a b c d (wrap64 (e + 1))) else (impl_CountStates.l0v a (wrap64 (b + 1)) c d (wrap64 (e + 1))))) else (none)) else (none)) else (none)) else (some b) := by
  refine Is.step (impl_CountStates.l0_is a b c d e).mo (fun k => by rw [impl_CountStates.l0]) ?_
  exact is2_ @impl_CountStates.l0_is @slices_ContainsFunc_impl_Known_impl_Known_with_impl_CountStates_1.f_is
theorem impl_CountStates.fv_eq : impl_CountStates.fv g = impl_CountStates.l0v g 0 g (g.length : Int) 0 := by
  refine Is.lim (g := fun k => impl_CountStates.f k g) ?_
  · unfold impl_CountStates.f
    exact is1_ @impl_CountStates.l0_is
end
end Go.Proofs.Ytlcpaebidnaolaa.Print

/- Written by a program of this session (limx.py): the equations of what the printed functions come to. No condition. -/
namespace Go.Proofs.Ytlcpaebidnaolaa.Print
open Go.RowKit Go.Proofs.YtlcpaebidnaolaaW.PrintWords Go.Proofs.YtlcpaebidnaolaaW.PrintLast Go.Proofs.Ytlcpaebidnaolaa.Base
set_option linter.unusedVariables false
set_option maxRecDepth 20000
section
variable (a : List Int) (b : List (S61)) (c : Int) (d : List Int) (e : Int) (g : List (S61)) (h : Bool) (i : List (S61)) (j : Int) (l : List (S61)) (m : Int) (n : List Int)
noncomputable def laws_FnMemory.j0v := Lim fun k => laws_FnMemory.j0 k a b c d e g h
noncomputable def laws_FnMemory.j1v := Lim fun k => laws_FnMemory.j1 k a
noncomputable def laws_FnMemory.l0v := Lim fun k => laws_FnMemory.l0 k a i j l m
noncomputable def laws_FnMemory.fv := Lim fun k => laws_FnMemory.f k n
theorem laws_FnMemory.j0_is : Is (fun k => laws_FnMemory.j0 k a b c d e g h) (laws_FnMemory.j0v a b c d e g h) := ⟨fun k => (laws_FnMemory.mono_l k).1 a b c d e g h, rfl⟩
theorem laws_FnMemory.j1_is : Is (fun k => laws_FnMemory.j1 k a) (laws_FnMemory.j1v a) := ⟨fun k => (laws_FnMemory.mono_l k).2.1 a, rfl⟩
theorem laws_FnMemory.l0_is : Is (fun k => laws_FnMemory.l0 k a i j l m) (laws_FnMemory.l0v a i j l m) := ⟨fun k => (laws_FnMemory.mono_l k).2.2 a i j l m, rfl⟩
theorem laws_FnMemory.f_is : Is (fun k => laws_FnMemory.f k n) (laws_FnMemory.fv n) := ⟨fun k => laws_FnMemory.mono n k, rfl⟩
theorem laws_FnMemory.j0v_eq : laws_FnMemory.j0v a b c d e g h = if h = true then ((impl_Recall.fv g c e).bind fun t583 => ((impl_EqualInts.fv t583 d).bind fun t586 => (if t586 = true then ((impl_Recall.fv g c (wrap64 (e + 20))).bind fun t587 => ((impl_EqualInts.fv t587 d).bind fun t590 => (if t590 = true then ((impl_Recall.fv g c (wrap64 ((wrap64 (e + 20)) + 1))).bind fun t591 => (if (t591.length : Int) > 0 then (some false) else (if (g.length : Int) > (wrap64 ((b.length : Int) + 1)) then (some false) else (laws_FnMemory.j1v a)))) else (some false)))) else (some false)))) else (laws_FnMemory.j1v a) := by
  refine Is.step (laws_FnMemory.j0_is a b c d e g h).mo (fun k => by rw [laws_FnMemory.j0]) ?_
  exact is3_ @impl_EqualInts.f_is @impl_Recall.f_is @laws_FnMemory.j1_is
theorem laws_FnMemory.j1v_eq : laws_FnMemory.j1v a = (spec_DrawForgetOld.fv a).bind fun bt594 => ((impl_ForgetOld.fv bt594.1 bt594.2).bind fun t598 => (laws_FnMemory.l0v a bt594.1 bt594.2 t598 0)) := by
  refine Is.step (laws_FnMemory.j1_is a).mo (fun k => by rw [laws_FnMemory.j1]) ?_
  exact is3_ @impl_ForgetOld.f_is @laws_FnMemory.l0_is @spec_DrawForgetOld.f_is
theorem laws_FnMemory.l0v_eq : laws_FnMemory.l0v a i j l m = if m < 6 then ((impl_Recall.fv l m j).bind fun t607 => ((impl_Recall.fv i m j).bind fun t610 => ((impl_EqualInts.fv t607 t610).bind fun t613 => (if t613 = true then (laws_FnMemory.l0v a i j l (wrap64 (m + 1))) else (some false))))) else ((spec_DrawIsMemory.fv a).bind fun bt601 => (if (l.length : Int) ≤ (i.length : Int) then ((impl_IsMemory.fv bt601.1 bt601.2).bind fun t605 => (if t605 = true then ((impl_CountStates.fv bt601.1).bind fun t606 => (some (decide (t606 ≤ 6)))) else (some true))) else (some false))) := by
  refine Is.step (laws_FnMemory.l0_is a i j l m).mo (fun k => by rw [laws_FnMemory.l0]) ?_
  exact is6_ @impl_CountStates.f_is @impl_EqualInts.f_is @impl_IsMemory.f_is @impl_Recall.f_is @laws_FnMemory.l0_is @spec_DrawIsMemory.f_is
theorem laws_FnMemory.fv_eq : laws_FnMemory.fv n = (laws_big.f n).bind fun t571 => (if t571 = true then (some true) else ((spec_DrawRemember.fv n).bind fun bt572 => ((impl_Remember.fv bt572.1 bt572.2.1 bt572.2.2.1 bt572.2.2.2).bind fun t580 => (if bt572.2.1 ≥ 0 then (if bt572.2.1 < 6 then (laws_FnMemory.j0v n bt572.1 bt572.2.1 bt572.2.2.1 bt572.2.2.2 t580 (decide (bt572.2.2.2 ≥ 0))) else (laws_FnMemory.j0v n bt572.1 bt572.2.1 bt572.2.2.1 bt572.2.2.2 t580 false)) else (laws_FnMemory.j0v n bt572.1 bt572.2.1 bt572.2.2.1 bt572.2.2.2 t580 false))))) := by
  refine Is.lim (g := fun k => laws_FnMemory.f k n) ?_
  · unfold laws_FnMemory.f
    exact is3_ @impl_Remember.f_is @laws_FnMemory.j0_is @spec_DrawRemember.f_is
end
end Go.Proofs.Ytlcpaebidnaolaa.Print
