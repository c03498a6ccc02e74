/- Written by a program of this session (merge.py): texts that the law's plain side leans on, laid together. No condition. -/
import Derived.Test.YtlcpaebidnaolaaWWords
import Derived.Test.YtlcpaebidnaolaaPrint1
import Derived.Test.YtlcpaebidnaolaaPrint2
import Derived.Test.YtlcpaebidnaolaaPrint17
import Derived.Test.YtlcpaebidnaolaaPrint3
import Derived.Test.YtlcpaebidnaolaaPrint4
import Derived.Test.YtlcpaebidnaolaaPrint5
import Derived.Test.YtlcpaebidnaolaaPrint6
import Derived.Test.YtlcpaebidnaolaaPrint8
import Derived.Test.YtlcpaebidnaolaaPrint7
import Derived.Test.YtlcpaebidnaolaaPrint9
import Derived.Test.YtlcpaebidnaolaaPrint15
import Derived.Test.YtlcpaebidnaolaaPrint10
import Derived.Test.YtlcpaebidnaolaaPrint11
import Derived.Test.YtlcpaebidnaolaaPrint12
import Derived.Test.YtlcpaebidnaolaaPrint13
import Derived.Test.YtlcpaebidnaolaaPrint14
import Derived.Test.YtlcpaebidnaolaaPrint16
import Derived.Test.YtlcpaebidnaolaaPrint18
/- What a function with rounds comes to when it has rounds enough, as an option: its equations hold without rounds. No condition. -/
namespace Go.Proofs.Ytlcpaebidnaolaa.Base
open Go.RowKit Go.Proofs.YtlcpaebidnaolaaW.PrintWords

/-- More rounds tell the same. -/
def Mo {α : Type} (g : Nat → Option α) : Prop := ∀ k, LeO (g k) (g (k + 1))
theorem mo_le {α : Type} {g : Nat → Option α} (h : Mo g) {k k' : Nat} (hk : k ≤ k') {r : α} (hr : g k = some r) : g k' = some r := at_rounds h hk hr
open Classical in
/-- What it comes to at last: nothing, or one answer. -/
noncomputable def Lim {α : Type} (g : Nat → Option α) : Option α := if h : ∃ r, ∃ k, g k = some r then some (Classical.choose h) else none
theorem lim_some {α : Type} {g : Nat → Option α} (h : Mo g) {k : Nat} {r : α} (hr : g k = some r) : Lim g = some r := by
  have hx : ∃ r, ∃ k, g k = some r := ⟨r, k, hr⟩
  unfold Lim
  rw [dif_pos hx]
  obtain ⟨k', hk'⟩ := Classical.choose_spec hx
  have h1 := mo_le h (Nat.le_max_left k k') hr
  have h2 := mo_le h (Nat.le_max_right k k') hk'
  rw [h1] at h2
  exact h2.symm
theorem of_lim {α : Type} {g : Nat → Option α} {r : α} (h : Lim g = some r) : ∃ k, g k = some r := by
  unfold Lim at h
  split at h
  · rename_i hx
    obtain rfl := Option.some.inj h
    exact Classical.choose_spec hx
  · cases h
theorem lim_none {α : Type} {g : Nat → Option α} (h : Lim g = none) (k : Nat) : g k = none := by
  cases hk : g k with
  | none => rfl
  | some r =>
    unfold Lim at h
    rw [dif_pos ⟨r, k, hk⟩] at h
    cases h
theorem none_lim {α : Type} {g : Nat → Option α} (h : ∀ k, g k = none) : Lim g = none := by
  unfold Lim
  rw [dif_neg]
  rintro ⟨r, k, hk⟩
  rw [h k] at hk
  cases hk
structure Is {α : Type} (g : Nat → Option α) (v : Option α) : Prop where
  mo : Mo g
  lim : Lim g = v
theorem Is.now {α : Type} (v : Option α) : Is (fun _ => v) v := by
  refine ⟨fun _ => LeO.refl _, ?_⟩
  cases v with
  | none => exact none_lim fun _ => rfl
  | some r => exact lim_some (g := fun _ => some r) (fun _ => LeO.refl _) (k := 0) rfl
theorem Is.ite {α : Type} {c : Prop} [Decidable c] {g h : Nat → Option α} {a b : Option α} (hg : Is g a) (hh : Is h b) : Is (fun k => if c then g k else h k) (if c then a else b) := by
  by_cases hc : c
  · simp only [if_pos hc]
    exact hg
  · simp only [if_neg hc]
    exact hh
theorem Is.bind {α β : Type} {g : Nat → Option α} {f : Nat → α → Option β} {a : Option α} {b : α → Option β} (hg : Is g a) (hf : ∀ x, Is (fun k => f k x) (b x)) : Is (fun k => (g k).bind (f k)) (a.bind b) := by
  have hm : Mo (fun k => (g k).bind (f k)) := fun k => LeO.bind (hg.mo k) (fun x => (hf x).mo k)
  refine ⟨hm, ?_⟩
  cases ha : a with
  | none =>
    refine none_lim fun k => ?_
    rw [lim_none (hg.lim.trans ha) k]
    rfl
  | some x =>
    obtain ⟨k, hk⟩ := of_lim (hg.lim.trans ha)
    show _ = b x
    cases hb : b x with
    | none =>
      refine none_lim fun k' => ?_
      cases hx : (g k').bind (f k') with
      | none => rfl
      | some r =>
        have h1 := mo_le hm (Nat.le_max_left k' k) hx
        have h2 := mo_le hg.mo (Nat.le_max_right k' k) hk
        simp only [h2, Option.bind_some] at h1
        rw [lim_none ((hf x).lim.trans hb)] at h1
        cases h1
    | some r =>
      obtain ⟨k', hk'⟩ := of_lim ((hf x).lim.trans hb)
      refine lim_some hm (k := max k k') ?_
      simp only [mo_le hg.mo (Nat.le_max_left k k') hk, Option.bind_some]
      exact mo_le (hf x).mo (Nat.le_max_right k k') hk'
theorem Is.step {α : Type} {g b : Nat → Option α} {v : Option α} (hg : Mo g) (h : ∀ k, g (k + 1) = b k) (hb : Is b v) : Lim g = v := by
  rw [← hb.lim]
  cases hx : Lim g with
  | none =>
    symm
    refine none_lim fun k => ?_
    rw [← h k]
    exact lim_none hx _
  | some r =>
    obtain ⟨k, hk⟩ := of_lim hx
    symm
    refine lim_some hb.mo (k := k) ?_
    rw [← h k]
    exact mo_le hg (Nat.le_succ k) hk
theorem ends {α : Type} {g : Nat → Option α} {r : α} (h : Lim g = some r) : ∃ k, g k = some r := of_lim h
theorem is0_ {q : Prop} (e : q := by repeat' first | with_reducible exact Is.now _ | with_reducible refine Is.ite ?_ ?_ | with_reducible refine Is.bind ?_ (fun _ => ?_)) : q := e
theorem is1_ {q p0 : Prop} (h0_ : p0) (e : p0 → q := by intro h0_; repeat' first | (with_reducible apply h0_) | with_reducible exact Is.now _ | with_reducible refine Is.ite ?_ ?_ | with_reducible refine Is.bind ?_ (fun _ => ?_)) : q := e h0_
theorem is2_ {q p0 p1 : Prop} (h0_ : p0) (h1_ : p1) (e : p0 → p1 → q := by intro h0_ h1_; repeat' first | (with_reducible apply h0_) | (with_reducible apply h1_) | with_reducible exact Is.now _ | with_reducible refine Is.ite ?_ ?_ | with_reducible refine Is.bind ?_ (fun _ => ?_)) : q := e h0_ h1_
theorem is3_ {q p0 p1 p2 : Prop} (h0_ : p0) (h1_ : p1) (h2_ : p2) (e : p0 → p1 → p2 → q := by intro h0_ h1_ h2_; repeat' first | (with_reducible apply h0_) | (with_reducible apply h1_) | (with_reducible apply h2_) | with_reducible exact Is.now _ | with_reducible refine Is.ite ?_ ?_ | with_reducible refine Is.bind ?_ (fun _ => ?_)) : q := e h0_ h1_ h2_
theorem is4_ {q p0 p1 p2 p3 : Prop} (h0_ : p0) (h1_ : p1) (h2_ : p2) (h3_ : p3) (e : p0 → p1 → p2 → p3 → q := by intro h0_ h1_ h2_ h3_; repeat' first | (with_reducible apply h0_) | (with_reducible apply h1_) | (with_reducible apply h2_) | (with_reducible apply h3_) | with_reducible exact Is.now _ | with_reducible refine Is.ite ?_ ?_ | with_reducible refine Is.bind ?_ (fun _ => ?_)) : q := e h0_ h1_ h2_ h3_
theorem is5_ {q p0 p1 p2 p3 p4 : Prop} (h0_ : p0) (h1_ : p1) (h2_ : p2) (h3_ : p3) (h4_ : p4) (e : p0 → p1 → p2 → p3 → p4 → q := by intro h0_ h1_ h2_ h3_ h4_; repeat' first | (with_reducible apply h0_) | (with_reducible apply h1_) | (with_reducible apply h2_) | (with_reducible apply h3_) | (with_reducible apply h4_) | with_reducible exact Is.now _ | with_reducible refine Is.ite ?_ ?_ | with_reducible refine Is.bind ?_ (fun _ => ?_)) : q := e h0_ h1_ h2_ h3_ h4_
theorem is6_ {q p0 p1 p2 p3 p4 p5 : Prop} (h0_ : p0) (h1_ : p1) (h2_ : p2) (h3_ : p3) (h4_ : p4) (h5_ : p5) (e : p0 → p1 → p2 → p3 → p4 → p5 → q := by intro h0_ h1_ h2_ h3_ h4_ h5_; repeat' first | (with_reducible apply h0_) | (with_reducible apply h1_) | (with_reducible apply h2_) | (with_reducible apply h3_) | (with_reducible apply h4_) | (with_reducible apply h5_) | with_reducible exact Is.now _ | with_reducible refine Is.ite ?_ ?_ | with_reducible refine Is.bind ?_ (fun _ => ?_)) : q := e h0_ h1_ h2_ h3_ h4_ h5_
theorem is7_ {q p0 p1 p2 p3 p4 p5 p6 : Prop} (h0_ : p0) (h1_ : p1) (h2_ : p2) (h3_ : p3) (h4_ : p4) (h5_ : p5) (h6_ : p6) (e : p0 → p1 → p2 → p3 → p4 → p5 → p6 → q := by intro h0_ h1_ h2_ h3_ h4_ h5_ h6_; repeat' first | (with_reducible apply h0_) | (with_reducible apply h1_) | (with_reducible apply h2_) | (with_reducible apply h3_) | (with_reducible apply h4_) | (with_reducible apply h5_) | (with_reducible apply h6_) | with_reducible exact Is.now _ | with_reducible refine Is.ite ?_ ?_ | with_reducible refine Is.bind ?_ (fun _ => ?_)) : q := e h0_ h1_ h2_ h3_ h4_ h5_ h6_
theorem is8_ {q p0 p1 p2 p3 p4 p5 p6 p7 : Prop} (h0_ : p0) (h1_ : p1) (h2_ : p2) (h3_ : p3) (h4_ : p4) (h5_ : p5) (h6_ : p6) (h7_ : p7) (e : p0 → p1 → p2 → p3 → p4 → p5 → p6 → p7 → q := by intro h0_ h1_ h2_ h3_ h4_ h5_ h6_ h7_; repeat' first | (with_reducible apply h0_) | (with_reducible apply h1_) | (with_reducible apply h2_) | (with_reducible apply h3_) | (with_reducible apply h4_) | (with_reducible apply h5_) | (with_reducible apply h6_) | (with_reducible apply h7_) | with_reducible exact Is.now _ | with_reducible refine Is.ite ?_ ?_ | with_reducible refine Is.bind ?_ (fun _ => ?_)) : q := e h0_ h1_ h2_ h3_ h4_ h5_ h6_ h7_
end Go.Proofs.Ytlcpaebidnaolaa.Base

/- Written by a program of this session (limx.py): the equations of what the printed functions come to. No condition. -/
namespace Go.Proofs.Ytlcpaebidnaolaa.Print
open Go.RowKit Go.Proofs.YtlcpaebidnaolaaW.PrintWords Go.Proofs.YtlcpaebidnaolaaW.PrintLast Go.Proofs.Ytlcpaebidnaolaa.Base
set_option linter.unusedVariables false
set_option maxRecDepth 20000
section
variable (a : List Int) (b c : Int) (d : List Int)
noncomputable def spec_l1New.l0v := Lim fun k => spec_l1New.l0 k a b c
noncomputable def spec_l1New.fv := Lim fun k => spec_l1New.f k d
theorem spec_l1New.l0_is : Is (fun k => spec_l1New.l0 k a b c) (spec_l1New.l0v a b c) := ⟨fun k => (spec_l1New.mono_l k) a b c, rfl⟩
theorem spec_l1New.f_is : Is (fun k => spec_l1New.f k d) (spec_l1New.fv d) := ⟨fun k => spec_l1New.mono d k, rfl⟩
theorem spec_l1New.l0v_eq : spec_l1New.l0v a b c = if c < (a.length : Int) then (if c < 4000 then (if 0 ≤ c then (spec_l1New.l0v a (Go.bits .and .i64 (wrap64 ((wrap64 ((wrap64 (b * 137)) + (wrap64 (rd a c)))) + 11)) 1073741823) (wrap64 (c + 1))) else (none)) else (some (a, 0, b))) else (some (a, 0, b)) := by
  refine Is.step (spec_l1New.l0_is a b c).mo (fun k => by rw [spec_l1New.l0]) ?_
  exact is1_ @spec_l1New.l0_is
theorem spec_l1New.fv_eq : spec_l1New.fv d = spec_l1New.l0v d (wrap64 (193017 + (d.length : Int))) 0 := by
  refine Is.lim (g := fun k => spec_l1New.f k d) ?_
  · unfold spec_l1New.f
    exact is1_ @spec_l1New.l0_is
end
section
variable (a : List Int)
noncomputable def spec_DrawSignalOf.fv := Lim fun k => spec_DrawSignalOf.f k a
theorem spec_DrawSignalOf.f_is : Is (fun k => spec_DrawSignalOf.f k a) (spec_DrawSignalOf.fv a) := ⟨fun k => spec_DrawSignalOf.mono a k, rfl⟩
theorem spec_DrawSignalOf.fv_eq : spec_DrawSignalOf.fv a = (spec_l1New.fv a).bind fun bt121 => ((spec_l1Int.f bt121.1 bt121.2.1 bt121.2.2 (([0, 3, 5, 10, 20, 10000, 10001, (-1)] : List Int))).bind fun bt128 => ((spec_l1Int.f bt121.1 bt128.2.1 bt128.2.2 (([0, 1, 2, 3, 10, 10000, 10001] : List Int))).bind fun bt134 => ((spec_l1Int.f bt121.1 bt134.2.1 bt134.2.2 (([1, 5, 10, 20, 0, 10001] : List Int))).bind fun bt140 => ((spec_l1Int.f bt121.1 bt140.2.1 bt140.2.2 (([0, 10, 20, 50, 100, 101, (-1)] : List Int))).bind fun bt146 => (some (bt128.1, bt134.1, bt140.1, bt146.1)))))) := by
  refine Is.lim (g := fun k => spec_DrawSignalOf.f k a) ?_
  · unfold spec_DrawSignalOf.f
    exact is1_ @spec_l1New.f_is
end
section
variable (a : List Int) (b c d e : Int) (g : List Int) (h i : Int)
noncomputable def slices_IndexFunc_int_int_with_impl_areNumbers_1.l0v := Lim fun k => slices_IndexFunc_int_int_with_impl_areNumbers_1.l0 k a b c d e
noncomputable def slices_IndexFunc_int_int_with_impl_areNumbers_1.fv := Lim fun k => slices_IndexFunc_int_int_with_impl_areNumbers_1.f k g h i
theorem slices_IndexFunc_int_int_with_impl_areNumbers_1.l0_is : Is (fun k => slices_IndexFunc_int_int_with_impl_areNumbers_1.l0 k a b c d e) (slices_IndexFunc_int_int_with_impl_areNumbers_1.l0v a b c d e) := ⟨fun k => (slices_IndexFunc_int_int_with_impl_areNumbers_1.mono_l k) a b c d e, rfl⟩
theorem slices_IndexFunc_int_int_with_impl_areNumbers_1.f_is : Is (fun k => slices_IndexFunc_int_int_with_impl_areNumbers_1.f k g h i) (slices_IndexFunc_int_int_with_impl_areNumbers_1.fv g h i) := ⟨fun k => slices_IndexFunc_int_int_with_impl_areNumbers_1.mono g h i k, rfl⟩
theorem slices_IndexFunc_int_int_with_impl_areNumbers_1.l0v_eq : slices_IndexFunc_int_int_with_impl_areNumbers_1.l0v a b c d e = if c < b then (if 0 ≤ c then (if c < (a.length : Int) then ((impl_areNumbers_1.f (rd a c) d e).bind fun t151 => (if t151 = true then (some c) else (slices_IndexFunc_int_int_with_impl_areNumbers_1.l0v a b (wrap64 (c + 1)) d e))) else (none)) else (none)) else (some (-1)) := by
  refine Is.step (slices_IndexFunc_int_int_with_impl_areNumbers_1.l0_is a b c d e).mo (fun k => by rw [slices_IndexFunc_int_int_with_impl_areNumbers_1.l0]) ?_
  exact is1_ @slices_IndexFunc_int_int_with_impl_areNumbers_1.l0_is
theorem slices_IndexFunc_int_int_with_impl_areNumbers_1.fv_eq : slices_IndexFunc_int_int_with_impl_areNumbers_1.fv g h i = slices_IndexFunc_int_int_with_impl_areNumbers_1.l0v g (g.length : Int) 0 h i := by
  refine Is.lim (g := fun k => slices_IndexFunc_int_int_with_impl_areNumbers_1.f k g h i) ?_
  · unfold slices_IndexFunc_int_int_with_impl_areNumbers_1.f
    exact is1_ @slices_IndexFunc_int_int_with_impl_areNumbers_1.l0_is
end
section
variable (a : List Int) (b c : Int)
noncomputable def slices_ContainsFunc_int_int_with_impl_areNumbers_1.fv := Lim fun k => slices_ContainsFunc_int_int_with_impl_areNumbers_1.f k a b c
theorem slices_ContainsFunc_int_int_with_impl_areNumbers_1.f_is : Is (fun k => slices_ContainsFunc_int_int_with_impl_areNumbers_1.f k a b c) (slices_ContainsFunc_int_int_with_impl_areNumbers_1.fv a b c) := ⟨fun k => slices_ContainsFunc_int_int_with_impl_areNumbers_1.mono a b c k, rfl⟩
theorem slices_ContainsFunc_int_int_with_impl_areNumbers_1.fv_eq : slices_ContainsFunc_int_int_with_impl_areNumbers_1.fv a b c = (slices_IndexFunc_int_int_with_impl_areNumbers_1.fv a b c).bind fun t152 => (some (decide (t152 ≥ 0))) := by
  refine Is.lim (g := fun k => slices_ContainsFunc_int_int_with_impl_areNumbers_1.f k a b c) ?_
  · unfold slices_ContainsFunc_int_int_with_impl_areNumbers_1.f
    exact is1_ @slices_IndexFunc_int_int_with_impl_areNumbers_1.f_is
end
section
variable (a : List Int) (b c : Int)
noncomputable def impl_areNumbers.fv := Lim fun k => impl_areNumbers.f k a b c
theorem impl_areNumbers.f_is : Is (fun k => impl_areNumbers.f k a b c) (impl_areNumbers.fv a b c) := ⟨fun k => impl_areNumbers.mono a b c k, rfl⟩
theorem impl_areNumbers.fv_eq : impl_areNumbers.fv a b c = (slices_ContainsFunc_int_int_with_impl_areNumbers_1.fv a b c).bind fun t155 => (some (!t155)) := by
  refine Is.lim (g := fun k => impl_areNumbers.f k a b c) ?_
  · unfold impl_areNumbers.f
    exact is1_ @slices_ContainsFunc_int_int_with_impl_areNumbers_1.f_is
end
end Go.Proofs.Ytlcpaebidnaolaa.Print

/- Written by a program of this session (limx.py): the equations of what the printed functions come to. No condition. -/
namespace Go.Proofs.Ytlcpaebidnaolaa.Print
open Go.RowKit Go.Proofs.YtlcpaebidnaolaaW.PrintWords Go.Proofs.YtlcpaebidnaolaaW.PrintLast Go.Proofs.Ytlcpaebidnaolaa.Base
set_option linter.unusedVariables false
set_option maxRecDepth 20000
section
variable (a b c d : Int) (e : Bool) (g : Int) (h : Bool) (i j l m : Int)
noncomputable def impl_SignalOf.j0v := Lim fun k => impl_SignalOf.j0 k a b c d e
noncomputable def impl_SignalOf.j1v := Lim fun k => impl_SignalOf.j1 k b c d g h
noncomputable def impl_SignalOf.fv := Lim fun k => impl_SignalOf.f k i j l m
theorem impl_SignalOf.j0_is : Is (fun k => impl_SignalOf.j0 k a b c d e) (impl_SignalOf.j0v a b c d e) := ⟨fun k => (impl_SignalOf.mono_l k).1 a b c d e, rfl⟩
theorem impl_SignalOf.j1_is : Is (fun k => impl_SignalOf.j1 k b c d g h) (impl_SignalOf.j1v b c d g h) := ⟨fun k => (impl_SignalOf.mono_l k).2 b c d g h, rfl⟩
theorem impl_SignalOf.f_is : Is (fun k => impl_SignalOf.f k i j l m) (impl_SignalOf.fv i j l m) := ⟨fun k => impl_SignalOf.mono i j l m k, rfl⟩
theorem impl_SignalOf.j0v_eq : impl_SignalOf.j0v a b c d e = if e = true then (some 0) else (if (wrap64 (100 * b)) > (wrap64 (d * c)) then (impl_SignalOf.j1v b c d (wrap64 (a + b)) (decide ((wrap64 (100 * b)) > (wrap64 (d * (wrap64 (a + b))))))) else (impl_SignalOf.j1v b c d (wrap64 (a + b)) false)) := by
  refine Is.step (impl_SignalOf.j0_is a b c d e).mo (fun k => by rw [impl_SignalOf.j0]) ?_
  exact is1_ @impl_SignalOf.j1_is
theorem impl_SignalOf.j1v_eq : impl_SignalOf.j1v b c d g h = if h = true then (some 2) else (if g < c then (some 0) else (if (wrap64 (100 * b)) ≤ (wrap64 (d * g)) then (some 1) else (some 2))) := by
  refine Is.step (impl_SignalOf.j1_is b c d g h).mo (fun k => by rw [impl_SignalOf.j1]) ?_
  exact is0_
theorem impl_SignalOf.fv_eq : impl_SignalOf.fv i j l m = (impl_areNumbers.fv (([i, j, l] : List Int)) 0 10000).bind fun t159 => (if t159 = true then (if l = 0 then (impl_SignalOf.j0v i j l m true) else ((impl_InRange.f m 0 100).bind fun t160 => (impl_SignalOf.j0v i j l m (!t160)))) else (impl_SignalOf.j0v i j l m true)) := by
  refine Is.lim (g := fun k => impl_SignalOf.f k i j l m) ?_
  · unfold impl_SignalOf.f
    exact is2_ @impl_SignalOf.j0_is @impl_areNumbers.f_is
end
section
variable (a : List Int)
noncomputable def spec_DrawMostBad.fv := Lim fun k => spec_DrawMostBad.f k a
theorem spec_DrawMostBad.f_is : Is (fun k => spec_DrawMostBad.f k a) (spec_DrawMostBad.fv a) := ⟨fun k => spec_DrawMostBad.mono a k, rfl⟩
theorem spec_DrawMostBad.fv_eq : spec_DrawMostBad.fv a = (spec_DrawSignalOf.fv a).bind fun bt161 => (some (bt161.2.2.1, bt161.2.2.2)) := by
  refine Is.lim (g := fun k => spec_DrawMostBad.f k a) ?_
  · unfold spec_DrawMostBad.f
    exact is1_ @spec_DrawSignalOf.f_is
end
section
variable (a : List Int) (b : Int) (c : List Int)
noncomputable def spec_AreVersions.l0v := Lim fun k => spec_AreVersions.l0 k a b
noncomputable def spec_AreVersions.fv := Lim fun k => spec_AreVersions.f k c
theorem spec_AreVersions.l0_is : Is (fun k => spec_AreVersions.l0 k a b) (spec_AreVersions.l0v a b) := ⟨fun k => (spec_AreVersions.mono_l k) a b, rfl⟩
theorem spec_AreVersions.f_is : Is (fun k => spec_AreVersions.f k c) (spec_AreVersions.fv c) := ⟨fun k => spec_AreVersions.mono c k, rfl⟩
theorem spec_AreVersions.l0v_eq : spec_AreVersions.l0v a b = if b < (a.length : Int) then (if 0 ≤ b then ((spec_l1In.f (rd a b) 1 9).bind fun t168 => (if t168 = true then (if b > 0 then (if 0 ≤ (wrap64 (b - 1)) then (if (wrap64 (b - 1)) < (a.length : Int) then (if (rd a (wrap64 (b - 1))) ≥ (rd a b) then (some false) else (spec_AreVersions.l0v a (wrap64 (b + 1)))) else (none)) else (none)) else (spec_AreVersions.l0v a (wrap64 (b + 1)))) else (some false))) else (none)) else (some (decide ((a.length : Int) > 0))) := by
  refine Is.step (spec_AreVersions.l0_is a b).mo (fun k => by rw [spec_AreVersions.l0]) ?_
  exact is1_ @spec_AreVersions.l0_is
theorem spec_AreVersions.fv_eq : spec_AreVersions.fv c = spec_AreVersions.l0v c 0 := by
  refine Is.lim (g := fun k => spec_AreVersions.f k c) ?_
  · unfold spec_AreVersions.f
    exact is1_ @spec_AreVersions.l0_is
end
section
variable (a : List (S113)) (b c : Int) (d : List (S113)) (e : Int)
noncomputable def spec_ExtOf.l0v := Lim fun k => spec_ExtOf.l0 k a b c
noncomputable def spec_ExtOf.fv := Lim fun k => spec_ExtOf.f k d e
theorem spec_ExtOf.l0_is : Is (fun k => spec_ExtOf.l0 k a b c) (spec_ExtOf.l0v a b c) := ⟨fun k => (spec_ExtOf.mono_l k) a b c, rfl⟩
theorem spec_ExtOf.f_is : Is (fun k => spec_ExtOf.f k d e) (spec_ExtOf.fv d e) := ⟨fun k => spec_ExtOf.mono d e k, rfl⟩
theorem spec_ExtOf.l0v_eq : spec_ExtOf.l0v a b c = if c < (a.length : Int) then (if 0 ≤ c then (if ((rd_T113 a c).f0) = b then (some c) else (spec_ExtOf.l0v a b (wrap64 (c + 1)))) else (none)) else (some (-1)) := by
  refine Is.step (spec_ExtOf.l0_is a b c).mo (fun k => by rw [spec_ExtOf.l0]) ?_
  exact is1_ @spec_ExtOf.l0_is
theorem spec_ExtOf.fv_eq : spec_ExtOf.fv d e = spec_ExtOf.l0v d e 0 := by
  refine Is.lim (g := fun k => spec_ExtOf.f k d e) ?_
  · unfold spec_ExtOf.f
    exact is1_ @spec_ExtOf.l0_is
end
section
variable (a : List Int) (b : Int) (c : List Int)
noncomputable def spec_l9Byte.l0v := Lim fun k => spec_l9Byte.l0 k a b
noncomputable def spec_l9Byte.fv := Lim fun k => spec_l9Byte.f k c
theorem spec_l9Byte.l0_is : Is (fun k => spec_l9Byte.l0 k a b) (spec_l9Byte.l0v a b) := ⟨fun k => (spec_l9Byte.mono_l k) a b, rfl⟩
theorem spec_l9Byte.f_is : Is (fun k => spec_l9Byte.f k c) (spec_l9Byte.fv c) := ⟨fun k => spec_l9Byte.mono c k, rfl⟩
theorem spec_l9Byte.l0v_eq : spec_l9Byte.l0v a b = if b < (a.length : Int) then (if 0 ≤ b then ((spec_l1In.f (rd a b) 0 255).bind fun t173 => (if t173 = true then (spec_l9Byte.l0v a (wrap64 (b + 1))) else (some false))) else (none)) else (some true) := by
  refine Is.step (spec_l9Byte.l0_is a b).mo (fun k => by rw [spec_l9Byte.l0]) ?_
  exact is1_ @spec_l9Byte.l0_is
theorem spec_l9Byte.fv_eq : spec_l9Byte.fv c = spec_l9Byte.l0v c 0 := by
  refine Is.lim (g := fun k => spec_l9Byte.f k c) ?_
  · unfold spec_l9Byte.f
    exact is1_ @spec_l9Byte.l0_is
end
end Go.Proofs.Ytlcpaebidnaolaa.Print

/- Written by a program of this session (limx.py): the equations of what the printed functions come to. No condition. -/
namespace Go.Proofs.Ytlcpaebidnaolaa.Print
open Go.RowKit Go.Proofs.YtlcpaebidnaolaaW.PrintWords Go.Proofs.YtlcpaebidnaolaaW.PrintLast Go.Proofs.Ytlcpaebidnaolaa.Base
set_option linter.unusedVariables false
set_option maxRecDepth 20000
section
variable (a : List Int) (b c d : Int) (e : List Int) (f : Int)
noncomputable def slices_Index_int_int.l0v := Lim fun k => slices_Index_int_int.l0 k a b c d
noncomputable def slices_Index_int_int.fv := Lim fun k => slices_Index_int_int.f k e f
theorem slices_Index_int_int.l0_is : Is (fun k => slices_Index_int_int.l0 k a b c d) (slices_Index_int_int.l0v a b c d) := ⟨fun k => (slices_Index_int_int.mono_l k) a b c d, rfl⟩
theorem slices_Index_int_int.f_is : Is (fun k => slices_Index_int_int.f k e f) (slices_Index_int_int.fv e f) := ⟨fun k => slices_Index_int_int.mono e f k, rfl⟩
theorem slices_Index_int_int.l0v_eq : slices_Index_int_int.l0v a b c d = if d < c then (if 0 ≤ d then (if d < (a.length : Int) then (if b = (rd a d) then (some d) else (slices_Index_int_int.l0v a b c (wrap64 (d + 1)))) else (none)) else (none)) else (some (-1)) := by
  refine Is.step (slices_Index_int_int.l0_is a b c d).mo (fun k => by rw [slices_Index_int_int.l0]) ?_
  exact is1_ @slices_Index_int_int.l0_is
theorem slices_Index_int_int.fv_eq : slices_Index_int_int.fv e f = slices_Index_int_int.l0v e f (e.length : Int) 0 := by
  refine Is.lim (g := fun k => slices_Index_int_int.f k e f) ?_
  · unfold slices_Index_int_int.f
    exact is1_ @slices_Index_int_int.l0_is
end
section
variable (a : List Int) (b : Int)
noncomputable def slices_Contains_int_int.fv := Lim fun k => slices_Contains_int_int.f k a b
theorem slices_Contains_int_int.f_is : Is (fun k => slices_Contains_int_int.f k a b) (slices_Contains_int_int.fv a b) := ⟨fun k => slices_Contains_int_int.mono a b k, rfl⟩
theorem slices_Contains_int_int.fv_eq : slices_Contains_int_int.fv a b = (slices_Index_int_int.fv a b).bind fun t835 => (some (decide (t835 ≥ 0))) := by
  refine Is.lim (g := fun k => slices_Contains_int_int.f k a b) ?_
  · unfold slices_Contains_int_int.f
    exact is1_ @slices_Index_int_int.f_is
end
section
variable (a : Bool) (b : Int) (c : List Int) (d : Int) (e : List Int) (g : Int)
noncomputable def impl_isBad.fv := Lim fun k => impl_isBad.f k a b c d e g
theorem impl_isBad.f_is : Is (fun k => impl_isBad.f k a b c d e g) (impl_isBad.fv a b c d e g) := ⟨fun k => impl_isBad.mono a b c d e g k, rfl⟩
theorem impl_isBad.fv_eq : impl_isBad.fv a b c d e g = if a = true then (if b < g then ((slices_Contains_int_int.fv e g).bind fun t837 => (some t837)) else (some false)) else (some true) := by
  refine Is.lim (g := fun k => impl_isBad.f k a b c d e g) ?_
  · unfold impl_isBad.f
    exact is1_ @slices_Contains_int_int.f_is
end
section
variable (a b c : Int) (d : List (S50)) (e g : Int) (h : List (S50)) (i : Int)
noncomputable def impl_MaskedBy.l0v := Lim fun k => impl_MaskedBy.l0 k a b c d e g
noncomputable def impl_MaskedBy.fv := Lim fun k => impl_MaskedBy.f k h i
theorem impl_MaskedBy.l0_is : Is (fun k => impl_MaskedBy.l0 k a b c d e g) (impl_MaskedBy.l0v a b c d e g) := ⟨fun k => (impl_MaskedBy.mono_l k) a b c d e g, rfl⟩
theorem impl_MaskedBy.f_is : Is (fun k => impl_MaskedBy.f k h i) (impl_MaskedBy.fv h i) := ⟨fun k => impl_MaskedBy.mono h i k, rfl⟩
theorem impl_MaskedBy.l0v_eq : impl_MaskedBy.l0v a b c d e g = if g < e then (if 0 ≤ g then (if g < (d.length : Int) then ((impl_isBad.fv ((rd_T50 d g).f0.f0) ((rd_T50 d g).f0.f1) ((rd_T50 d g).f0.f2) ((rd_T50 d g).f1) ((rd_T50 d g).f2) a).bind fun t840 => (if t840 = true then (impl_MaskedBy.l0v a b (wrap64 (c + 1)) d e (wrap64 (g + 1))) else (if ((rd_T50 d g).f0.f1) ≥ a then (impl_MaskedBy.l0v a (wrap64 (b + 1)) c d e (wrap64 (g + 1))) else (impl_MaskedBy.l0v a b c d e (wrap64 (g + 1)))))) else (none)) else (none)) else (some (b, c)) := by
  refine Is.step (impl_MaskedBy.l0_is a b c d e g).mo (fun k => by rw [impl_MaskedBy.l0]) ?_
  exact is2_ @impl_MaskedBy.l0_is @impl_isBad.f_is
theorem impl_MaskedBy.fv_eq : impl_MaskedBy.fv h i = impl_MaskedBy.l0v i 0 0 h (h.length : Int) 0 := by
  refine Is.lim (g := fun k => impl_MaskedBy.f k h i) ?_
  · unfold impl_MaskedBy.f
    exact is1_ @impl_MaskedBy.l0_is
end
section
variable (a : List Int) (b c : Int) (d : List Int) (e : Int)
noncomputable def laws_contains.l0v := Lim fun k => laws_contains.l0 k a b c
noncomputable def laws_contains.fv := Lim fun k => laws_contains.f k d e
theorem laws_contains.l0_is : Is (fun k => laws_contains.l0 k a b c) (laws_contains.l0v a b c) := ⟨fun k => (laws_contains.mono_l k) a b c, rfl⟩
theorem laws_contains.f_is : Is (fun k => laws_contains.f k d e) (laws_contains.fv d e) := ⟨fun k => laws_contains.mono d e k, rfl⟩
theorem laws_contains.l0v_eq : laws_contains.l0v a b c = if c < (a.length : Int) then (if 0 ≤ c then (if (rd a c) = b then (some true) else (laws_contains.l0v a b (wrap64 (c + 1)))) else (none)) else (some false) := by
  refine Is.step (laws_contains.l0_is a b c).mo (fun k => by rw [laws_contains.l0]) ?_
  exact is1_ @laws_contains.l0_is
theorem laws_contains.fv_eq : laws_contains.fv d e = laws_contains.l0v d e 0 := by
  refine Is.lim (g := fun k => laws_contains.f k d e) ?_
  · unfold laws_contains.f
    exact is1_ @laws_contains.l0_is
end
end Go.Proofs.Ytlcpaebidnaolaa.Print

/- Written by a program of this session (limx.py): the equations of what the printed functions come to. No condition. -/
namespace Go.Proofs.Ytlcpaebidnaolaa.Print
open Go.RowKit Go.Proofs.YtlcpaebidnaolaaW.PrintWords Go.Proofs.YtlcpaebidnaolaaW.PrintLast Go.Proofs.Ytlcpaebidnaolaa.Base
set_option linter.unusedVariables false
set_option maxRecDepth 20000
section
variable (a : List (S113)) (b : Int) (c : List (S113))
noncomputable def spec_AreExts.l0v := Lim fun k => spec_AreExts.l0 k a b
noncomputable def spec_AreExts.fv := Lim fun k => spec_AreExts.f k c
theorem spec_AreExts.l0_is : Is (fun k => spec_AreExts.l0 k a b) (spec_AreExts.l0v a b) := ⟨fun k => (spec_AreExts.mono_l k) a b, rfl⟩
theorem spec_AreExts.f_is : Is (fun k => spec_AreExts.f k c) (spec_AreExts.fv c) := ⟨fun k => spec_AreExts.mono c k, rfl⟩
theorem spec_AreExts.l0v_eq : spec_AreExts.l0v a b = if b < (a.length : Int) then (if 0 ≤ b then ((spec_l1In.f ((rd_T113 a b).f0) 0 255).bind fun t175 => (if t175 = true then (if (((rd_T113 a b).f1).length : Int) > 4 then (some false) else ((spec_l9Byte.fv ((rd_T113 a b).f1)).bind fun t178 => (if t178 = true then ((spec_ExtOf.fv a ((rd_T113 a b).f0)).bind fun t180 => (if t180 < b then (some false) else (spec_AreExts.l0v a (wrap64 (b + 1))))) else (some false)))) else (some false))) else (none)) else (some (decide ((a.length : Int) ≤ 6))) := by
  refine Is.step (spec_AreExts.l0_is a b).mo (fun k => by rw [spec_AreExts.l0]) ?_
  exact is3_ @spec_AreExts.l0_is @spec_ExtOf.f_is @spec_l9Byte.f_is
theorem spec_AreExts.fv_eq : spec_AreExts.fv c = spec_AreExts.l0v c 0 := by
  refine Is.lim (g := fun k => spec_AreExts.f k c) ?_
  · unfold spec_AreExts.f
    exact is1_ @spec_AreExts.l0_is
end
section
variable (a : List Int) (b : List (S113))
noncomputable def spec_IsHello.fv := Lim fun k => spec_IsHello.f k a b
theorem spec_IsHello.f_is : Is (fun k => spec_IsHello.f k a b) (spec_IsHello.fv a b) := ⟨fun k => spec_IsHello.mono a b k, rfl⟩
theorem spec_IsHello.fv_eq : spec_IsHello.fv a b = (spec_AreVersions.fv a).bind fun t182 => (if t182 = true then ((spec_AreExts.fv b).bind fun t183 => (some t183)) else (some false)) := by
  refine Is.lim (g := fun k => spec_IsHello.f k a b) ?_
  · unfold spec_IsHello.f
    exact is2_ @spec_AreExts.f_is @spec_AreVersions.f_is
end
section
variable (a : List (S113)) (b : List Int) (c : Int) (d : List (S113))
noncomputable def spec_TagsOf.l0v := Lim fun k => spec_TagsOf.l0 k a b c
noncomputable def spec_TagsOf.fv := Lim fun k => spec_TagsOf.f k d
theorem spec_TagsOf.l0_is : Is (fun k => spec_TagsOf.l0 k a b c) (spec_TagsOf.l0v a b c) := ⟨fun k => (spec_TagsOf.mono_l k) a b c, rfl⟩
theorem spec_TagsOf.f_is : Is (fun k => spec_TagsOf.f k d) (spec_TagsOf.fv d) := ⟨fun k => spec_TagsOf.mono d k, rfl⟩
theorem spec_TagsOf.l0v_eq : spec_TagsOf.l0v a b c = if c < (a.length : Int) then (if 0 ≤ c then (if b.length < 17592186044416 then (spec_TagsOf.l0v a (b ++ [(rd_T113 a c).f0]) (wrap64 (c + 1))) else (none)) else (none)) else (some b) := by
  refine Is.step (spec_TagsOf.l0_is a b c).mo (fun k => by rw [spec_TagsOf.l0]) ?_
  exact is1_ @spec_TagsOf.l0_is
theorem spec_TagsOf.fv_eq : spec_TagsOf.fv d = spec_TagsOf.l0v d (([] : List Int)) 0 := by
  refine Is.lim (g := fun k => spec_TagsOf.f k d) ?_
  · unfold spec_TagsOf.f
    exact is1_ @spec_TagsOf.l0_is
end
section
variable (a : List Int) (b c : Int) (d : List Int) (e : Int)
noncomputable def spec_l9Has.l0v := Lim fun k => spec_l9Has.l0 k a b c
noncomputable def spec_l9Has.fv := Lim fun k => spec_l9Has.f k d e
theorem spec_l9Has.l0_is : Is (fun k => spec_l9Has.l0 k a b c) (spec_l9Has.l0v a b c) := ⟨fun k => (spec_l9Has.mono_l k) a b c, rfl⟩
theorem spec_l9Has.f_is : Is (fun k => spec_l9Has.f k d e) (spec_l9Has.fv d e) := ⟨fun k => spec_l9Has.mono d e k, rfl⟩
theorem spec_l9Has.l0v_eq : spec_l9Has.l0v a b c = if c < (a.length : Int) then (if 0 ≤ c then (if (rd a c) = b then (some true) else (spec_l9Has.l0v a b (wrap64 (c + 1)))) else (none)) else (some false) := by
  refine Is.step (spec_l9Has.l0_is a b c).mo (fun k => by rw [spec_l9Has.l0]) ?_
  exact is1_ @spec_l9Has.l0_is
theorem spec_l9Has.fv_eq : spec_l9Has.fv d e = spec_l9Has.l0v d e 0 := by
  refine Is.lim (g := fun k => spec_l9Has.f k d e) ?_
  · unfold spec_l9Has.f
    exact is1_ @spec_l9Has.l0_is
end
section
variable (a : List (S113)) (b : List Int) (c : List (S113)) (d : Int) (e : List (S113)) (g : List Int)
noncomputable def spec_KnownOf.l0v := Lim fun k => spec_KnownOf.l0 k a b c d
noncomputable def spec_KnownOf.fv := Lim fun k => spec_KnownOf.f k e g
theorem spec_KnownOf.l0_is : Is (fun k => spec_KnownOf.l0 k a b c d) (spec_KnownOf.l0v a b c d) := ⟨fun k => (spec_KnownOf.mono_l k) a b c d, rfl⟩
theorem spec_KnownOf.f_is : Is (fun k => spec_KnownOf.f k e g) (spec_KnownOf.fv e g) := ⟨fun k => spec_KnownOf.mono e g k, rfl⟩
theorem spec_KnownOf.l0v_eq : spec_KnownOf.l0v a b c d = if d < (a.length : Int) then (if 0 ≤ d then ((spec_l9Has.fv b ((rd_T113 a d).f0)).bind fun t196 => (if t196 = true then ((some (([] : List Int) : List Int)).bind fun y198 => (if y198.length + ((rd_T113 a d).f1).length < 17592186044416 then (if c.length < 4398046511104 then (spec_KnownOf.l0v a b (c ++ [(⟨(rd_T113 a d).f0, (y198 ++ ((rd_T113 a d).f1))⟩ : S113)]) (wrap64 (d + 1))) else (none)) else (none))) else (spec_KnownOf.l0v a b c (wrap64 (d + 1))))) else (none)) else (some c) := by
  refine Is.step (spec_KnownOf.l0_is a b c d).mo (fun k => by rw [spec_KnownOf.l0]) ?_
  exact is2_ @spec_KnownOf.l0_is @spec_l9Has.f_is
theorem spec_KnownOf.fv_eq : spec_KnownOf.fv e g = spec_KnownOf.l0v e g (([] : List (S113))) 0 := by
  refine Is.lim (g := fun k => spec_KnownOf.f k e g) ?_
  · unfold spec_KnownOf.f
    exact is1_ @spec_KnownOf.l0_is
end
section
variable (a : List (S113))
noncomputable def spec_l11Copy.fv := Lim fun k => spec_l11Copy.f k a
theorem spec_l11Copy.f_is : Is (fun k => spec_l11Copy.f k a) (spec_l11Copy.fv a) := ⟨fun k => spec_l11Copy.mono a k, rfl⟩
theorem spec_l11Copy.fv_eq : spec_l11Copy.fv a = (spec_TagsOf.fv a).bind fun t208 => ((spec_KnownOf.fv a t208).bind fun t211 => (some t211)) := by
  refine Is.lim (g := fun k => spec_l11Copy.f k a) ?_
  · unfold spec_l11Copy.f
    exact is2_ @spec_KnownOf.f_is @spec_TagsOf.f_is
end
end Go.Proofs.Ytlcpaebidnaolaa.Print

/- Written by a program of this session (limx.py): the equations of what the printed functions come to. No condition. -/
namespace Go.Proofs.Ytlcpaebidnaolaa.Print
open Go.RowKit Go.Proofs.YtlcpaebidnaolaaW.PrintWords Go.Proofs.YtlcpaebidnaolaaW.PrintLast Go.Proofs.Ytlcpaebidnaolaa.Base
set_option linter.unusedVariables false
set_option maxRecDepth 20000
section
variable (a : List Int) (b : List (S113))
noncomputable def spec_l18Hello.fv := Lim fun k => spec_l18Hello.f k a b
theorem spec_l18Hello.f_is : Is (fun k => spec_l18Hello.f k a b) (spec_l18Hello.fv a b) := ⟨fun k => spec_l18Hello.mono a b k, rfl⟩
theorem spec_l18Hello.fv_eq : spec_l18Hello.fv a b = (some (([] : List Int) : List Int)).bind fun y216 => (if y216.length + a.length < 17592186044416 then ((spec_l11Copy.fv b).bind fun t222 => (some ((y216 ++ a), t222))) else (none)) := by
  refine Is.lim (g := fun k => spec_l18Hello.f k a b) ?_
  · unfold spec_l18Hello.f
    exact is1_ @spec_l11Copy.f_is
end
section
variable (a : Int) (b c : List Int) (d : Bool)
noncomputable def spec_IsBox.fv := Lim fun k => spec_IsBox.f k a b c d
theorem spec_IsBox.f_is : Is (fun k => spec_IsBox.f k a b c d) (spec_IsBox.fv a b c d) := ⟨fun k => spec_IsBox.mono a b c d k, rfl⟩
theorem spec_IsBox.fv_eq : spec_IsBox.fv a b c d = (spec_l1In.f a 0 9).bind fun t226 => (if t226 = true then (if (b.length : Int) ≤ 6 then (if (c.length : Int) ≤ 6 then ((spec_l9Byte.fv b).bind fun t227 => (if t227 = true then ((spec_l9Byte.fv c).bind fun t228 => (some t228)) else (some false))) else (some false)) else (some false)) else (some false)) := by
  refine Is.lim (g := fun k => spec_IsBox.f k a b c d) ?_
  · unfold spec_IsBox.f
    exact is1_ @spec_l9Byte.f_is
end
end Go.Proofs.Ytlcpaebidnaolaa.Print

/- Written by a program of this session (limx.py): the equations of what the printed functions come to. No condition. -/
namespace Go.Proofs.Ytlcpaebidnaolaa.Print
open Go.RowKit Go.Proofs.YtlcpaebidnaolaaW.PrintWords Go.Proofs.YtlcpaebidnaolaaW.PrintLast Go.Proofs.Ytlcpaebidnaolaa.Base
set_option linter.unusedVariables false
set_option maxRecDepth 20000
section
variable (a : Bool) (i m : Int) (n o : Bool) (b : Int) (c d : List Int) (e : Bool) (g : List Int) (h : List (S113)) (j : List Int) (l : List (S113)) (p : Int) (q r : List Int) (s : Bool) (t : List Int) (u : List (S113))
noncomputable def spec_PassBox.j0v := Lim fun k => spec_PassBox.j0 k a b c d e g h
noncomputable def spec_PassBox.l0v := Lim fun k => spec_PassBox.l0 k i b c d e g h j l
noncomputable def spec_PassBox.j2v := Lim fun k => spec_PassBox.j2 k i m n o b c d e g h j l
noncomputable def spec_PassBox.fv := Lim fun k => spec_PassBox.f k p q r s t u
theorem spec_PassBox.j0_is : Is (fun k => spec_PassBox.j0 k a b c d e g h) (spec_PassBox.j0v a b c d e g h) := ⟨fun k => (spec_PassBox.mono_l k).1 a b c d e g h, rfl⟩
theorem spec_PassBox.l0_is : Is (fun k => spec_PassBox.l0 k i b c d e g h j l) (spec_PassBox.l0v i b c d e g h j l) := ⟨fun k => (spec_PassBox.mono_l k).2.1 i b c d e g h j l, rfl⟩
theorem spec_PassBox.j2_is : Is (fun k => spec_PassBox.j2 k i m n o b c d e g h j l) (spec_PassBox.j2v i m n o b c d e g h j l) := ⟨fun k => (spec_PassBox.mono_l k).2.2 i m n o b c d e g h j l, rfl⟩
theorem spec_PassBox.f_is : Is (fun k => spec_PassBox.f k p q r s t u) (spec_PassBox.fv p q r s t u) := ⟨fun k => spec_PassBox.mono p q r s t u k, rfl⟩
theorem spec_PassBox.j0v_eq : spec_PassBox.j0v a b c d e g h = if a = true then (some (([] : List Int), ([] : List (S113)), false)) else ((some (([] : List Int) : List Int)).bind fun y235 => (if y235.length + g.length < 17592186044416 then (spec_PassBox.l0v 0 b c d e g h (y235 ++ g) ([] : List (S113))) else (none))) := by
  refine Is.step (spec_PassBox.j0_is a b c d e g h).mo (fun k => by rw [spec_PassBox.j0]) ?_
  exact is1_ @spec_PassBox.l0_is
theorem spec_PassBox.l0v_eq : spec_PassBox.l0v i b c d e g h j l = if i < (h.length : Int) then (if 0 ≤ i then ((spec_l9Has.fv d ((rd_T113 h i).f0)).bind fun t243 => ((spec_l9Has.fv c ((rd_T113 h i).f0)).bind fun t244 => (if t244 = true then (spec_PassBox.j2v i ((rd_T113 h i).f0) t243 true b c d e g h j l) else (if e = true then (if t243 = true then (spec_PassBox.j2v i ((rd_T113 h i).f0) t243 false b c d e g h j l) else ((spec_l1In.f ((rd_T113 h i).f0) 1 3).bind fun t245 => (spec_PassBox.j2v i ((rd_T113 h i).f0) t243 (!t245) b c d e g h j l))) else (spec_PassBox.j2v i ((rd_T113 h i).f0) t243 false b c d e g h j l))))) else (none)) else (some (j, l, true)) := by
  refine Is.step (spec_PassBox.l0_is i b c d e g h j l).mo (fun k => by rw [spec_PassBox.l0]) ?_
  exact is2_ @spec_PassBox.j2_is @spec_l9Has.f_is
theorem spec_PassBox.j2v_eq : spec_PassBox.j2v i m n o b c d e g h j l = if o = true then (some (([] : List Int), ([] : List (S113)), false)) else (if n = true then (spec_PassBox.l0v (wrap64 (i + 1)) b c d e g h j l) else ((some (([] : List Int) : List Int)).bind fun y246 => (if 0 ≤ i then (if i < (h.length : Int) then (if y246.length + ((rd_T113 h i).f1).length < 17592186044416 then (if l.length < 4398046511104 then (spec_PassBox.l0v (wrap64 (i + 1)) b c d e g h j (l ++ [(⟨m, (y246 ++ ((rd_T113 h i).f1))⟩ : S113)])) else (none)) else (none)) else (none)) else (none)))) := by
  refine Is.step (spec_PassBox.j2_is i m n o b c d e g h j l).mo (fun k => by rw [spec_PassBox.j2]) ?_
  exact is1_ @spec_PassBox.l0_is
theorem spec_PassBox.fv_eq : spec_PassBox.fv p q r s t u = (spec_IsBox.fv p q r s).bind fun t232 => (if t232 = true then ((spec_IsHello.fv t u).bind fun t233 => (if t233 = true then (if p > 0 then (if 0 ≤ (wrap64 ((t.length : Int) - 1)) then (if (wrap64 ((t.length : Int) - 1)) < (t.length : Int) then (spec_PassBox.j0v (decide ((rd t (wrap64 ((t.length : Int) - 1))) > p)) p q r s t u) else (none)) else (none)) else (spec_PassBox.j0v false p q r s t u)) else (spec_PassBox.j0v true p q r s t u))) else (spec_PassBox.j0v true p q r s t u)) := by
  refine Is.lim (g := fun k => spec_PassBox.f k p q r s t u) ?_
  · unfold spec_PassBox.f
    exact is3_ @spec_IsBox.f_is @spec_IsHello.f_is @spec_PassBox.j0_is
end
end Go.Proofs.Ytlcpaebidnaolaa.Print

/- Written by a program of this session (limx.py): the equations of what the printed functions come to. No condition. -/
namespace Go.Proofs.Ytlcpaebidnaolaa.Print
open Go.RowKit Go.Proofs.YtlcpaebidnaolaaW.PrintWords Go.Proofs.YtlcpaebidnaolaaW.PrintLast Go.Proofs.Ytlcpaebidnaolaa.Base
set_option linter.unusedVariables false
set_option maxRecDepth 20000
section
variable (a : List (S89)) (b : Bool) (c : List Int) (d : List (S113)) (e : Int) (g : List Int) (h : List (S113)) (i : List (S89)) (j : List Int) (l : List (S113))
noncomputable def spec_PassPath.j0v := Lim fun k => spec_PassPath.j0 k a b c d
noncomputable def spec_PassPath.l0v := Lim fun k => spec_PassPath.l0 k a e g h
noncomputable def spec_PassPath.fv := Lim fun k => spec_PassPath.f k i j l
theorem spec_PassPath.j0_is : Is (fun k => spec_PassPath.j0 k a b c d) (spec_PassPath.j0v a b c d) := ⟨fun k => (spec_PassPath.mono_l k).1 a b c d, rfl⟩
theorem spec_PassPath.l0_is : Is (fun k => spec_PassPath.l0 k a e g h) (spec_PassPath.l0v a e g h) := ⟨fun k => (spec_PassPath.mono_l k).2 a e g h, rfl⟩
theorem spec_PassPath.f_is : Is (fun k => spec_PassPath.f k i j l) (spec_PassPath.fv i j l) := ⟨fun k => spec_PassPath.mono i j l k, rfl⟩
theorem spec_PassPath.j0v_eq : spec_PassPath.j0v a b c d = if b = true then (some (([] : List Int), ([] : List (S113)), false)) else ((spec_l18Hello.fv c d).bind fun bt259 => (spec_PassPath.l0v a 0 bt259.1 bt259.2)) := by
  refine Is.step (spec_PassPath.j0_is a b c d).mo (fun k => by rw [spec_PassPath.j0]) ?_
  exact is2_ @spec_PassPath.l0_is @spec_l18Hello.f_is
theorem spec_PassPath.l0v_eq : spec_PassPath.l0v a e g h = if e < (a.length : Int) then (if 0 ≤ e then ((spec_PassBox.fv ((rd_T89 a e).f0) ((rd_T89 a e).f1) ((rd_T89 a e).f2) ((rd_T89 a e).f3) g h).bind fun bt267 => (if bt267.2.2 = true then (spec_PassPath.l0v a (wrap64 (e + 1)) bt267.1 bt267.2.1) else (some (([] : List Int), ([] : List (S113)), false)))) else (none)) else (some (g, h, true)) := by
  refine Is.step (spec_PassPath.l0_is a e g h).mo (fun k => by rw [spec_PassPath.l0]) ?_
  exact is2_ @spec_PassBox.f_is @spec_PassPath.l0_is
theorem spec_PassPath.fv_eq : spec_PassPath.fv i j l = if (i.length : Int) > 4 then (spec_PassPath.j0v i true j l) else ((spec_IsHello.fv j l).bind fun t258 => (spec_PassPath.j0v i (!t258) j l)) := by
  refine Is.lim (g := fun k => spec_PassPath.f k i j l) ?_
  · unfold spec_PassPath.f
    exact is2_ @spec_IsHello.f_is @spec_PassPath.j0_is
end
section
variable (a b : List Int) (c : Int) (d e : List Int)
noncomputable def spec_EqualInts.l0v := Lim fun k => spec_EqualInts.l0 k a b c
noncomputable def spec_EqualInts.fv := Lim fun k => spec_EqualInts.f k d e
theorem spec_EqualInts.l0_is : Is (fun k => spec_EqualInts.l0 k a b c) (spec_EqualInts.l0v a b c) := ⟨fun k => (spec_EqualInts.mono_l k) a b c, rfl⟩
theorem spec_EqualInts.f_is : Is (fun k => spec_EqualInts.f k d e) (spec_EqualInts.fv d e) := ⟨fun k => spec_EqualInts.mono d e k, rfl⟩
theorem spec_EqualInts.l0v_eq : spec_EqualInts.l0v a b c = if c < (a.length : Int) then (if 0 ≤ c then (if c < (b.length : Int) then (if (rd a c) = (rd b c) then (spec_EqualInts.l0v a b (wrap64 (c + 1))) else (some false)) else (none)) else (none)) else (some true) := by
  refine Is.step (spec_EqualInts.l0_is a b c).mo (fun k => by rw [spec_EqualInts.l0]) ?_
  exact is1_ @spec_EqualInts.l0_is
theorem spec_EqualInts.fv_eq : spec_EqualInts.fv d e = if (d.length : Int) = (e.length : Int) then (spec_EqualInts.l0v d e 0) else (some false) := by
  refine Is.lim (g := fun k => spec_EqualInts.f k d e) ?_
  · unfold spec_EqualInts.f
    exact is1_ @spec_EqualInts.l0_is
end
end Go.Proofs.Ytlcpaebidnaolaa.Print

/- Written by a program of this session (limx.py): the equations of what the printed functions come to. No condition. -/
namespace Go.Proofs.Ytlcpaebidnaolaa.Print
open Go.RowKit Go.Proofs.YtlcpaebidnaolaaW.PrintWords Go.Proofs.YtlcpaebidnaolaaW.PrintLast Go.Proofs.Ytlcpaebidnaolaa.Base
set_option linter.unusedVariables false
set_option maxRecDepth 20000
section
variable (a b : List Int) (c h : Int) (d : List Int) (e : List (S113)) (g : List Int) (i : List (S113)) (j : List Int) (l : List (S113)) (m n : List Int)
noncomputable def spec_PartHello.l0v := Lim fun k => spec_PartHello.l0 k a b c d e g
noncomputable def spec_PartHello.l1v := Lim fun k => spec_PartHello.l1 k b h d e g i
noncomputable def spec_PartHello.fv := Lim fun k => spec_PartHello.f k j l m n
theorem spec_PartHello.l0_is : Is (fun k => spec_PartHello.l0 k a b c d e g) (spec_PartHello.l0v a b c d e g) := ⟨fun k => (spec_PartHello.mono_l k).1 a b c d e g, rfl⟩
theorem spec_PartHello.l1_is : Is (fun k => spec_PartHello.l1 k b h d e g i) (spec_PartHello.l1v b h d e g i) := ⟨fun k => (spec_PartHello.mono_l k).2 b h d e g i, rfl⟩
theorem spec_PartHello.f_is : Is (fun k => spec_PartHello.f k j l m n) (spec_PartHello.fv j l m n) := ⟨fun k => spec_PartHello.mono j l m n k, rfl⟩
theorem spec_PartHello.l0v_eq : spec_PartHello.l0v a b c d e g = if c < (d.length : Int) then (if 0 ≤ c then ((spec_l9Has.fv a (rd d c)).bind fun t301 => (if t301 = true then (spec_PartHello.l0v a b (wrap64 (c + 1)) d e g) else (if g.length < 17592186044416 then (spec_PartHello.l0v a b (wrap64 (c + 1)) d e (g ++ [rd d c])) else (none)))) else (none)) else (spec_PartHello.l1v b 0 d e g ([] : List (S113))) := by
  refine Is.step (spec_PartHello.l0_is a b c d e g).mo (fun k => by rw [spec_PartHello.l0]) ?_
  exact is3_ @spec_PartHello.l0_is @spec_PartHello.l1_is @spec_l9Has.f_is
theorem spec_PartHello.l1v_eq : spec_PartHello.l1v b h d e g i = if h < (e.length : Int) then (if 0 ≤ h then ((spec_l9Has.fv b ((rd_T113 e h).f0)).bind fun t307 => (if t307 = true then (spec_PartHello.l1v b (wrap64 (h + 1)) d e g i) else ((some (([] : List Int) : List Int)).bind fun y309 => (if y309.length + ((rd_T113 e h).f1).length < 17592186044416 then (if i.length < 4398046511104 then (spec_PartHello.l1v b (wrap64 (h + 1)) d e g (i ++ [(⟨(rd_T113 e h).f0, (y309 ++ ((rd_T113 e h).f1))⟩ : S113)])) else (none)) else (none))))) else (none)) else (if (g.length : Int) = 0 then (some (([] : List Int), ([] : List (S113)), false)) else (some (g, i, true))) := by
  refine Is.step (spec_PartHello.l1_is b h d e g i).mo (fun k => by rw [spec_PartHello.l1]) ?_
  exact is2_ @spec_PartHello.l1_is @spec_l9Has.f_is
theorem spec_PartHello.fv_eq : spec_PartHello.fv j l m n = (spec_IsHello.fv j l).bind fun t298 => (if t298 = true then (spec_PartHello.l0v m n 0 j l ([] : List Int)) else (some (([] : List Int), ([] : List (S113)), false))) := by
  refine Is.lim (g := fun k => spec_PartHello.f k j l m n) ?_
  · unfold spec_PartHello.f
    exact is2_ @spec_IsHello.f_is @spec_PartHello.l0_is
end
section
variable (a b c : List Int) (d : Int) (e g : List Int)
noncomputable def spec_l21Left.l0v := Lim fun k => spec_l21Left.l0 k a b c d
noncomputable def spec_l21Left.fv := Lim fun k => spec_l21Left.f k e g
theorem spec_l21Left.l0_is : Is (fun k => spec_l21Left.l0 k a b c d) (spec_l21Left.l0v a b c d) := ⟨fun k => (spec_l21Left.mono_l k) a b c d, rfl⟩
theorem spec_l21Left.f_is : Is (fun k => spec_l21Left.f k e g) (spec_l21Left.fv e g) := ⟨fun k => spec_l21Left.mono e g k, rfl⟩
theorem spec_l21Left.l0v_eq : spec_l21Left.l0v a b c d = if d < (a.length : Int) then (if 0 ≤ d then ((spec_l9Has.fv b (rd a d)).bind fun t323 => (if t323 = true then (spec_l21Left.l0v a b c (wrap64 (d + 1))) else (if c.length < 17592186044416 then (spec_l21Left.l0v a b (c ++ [rd a d]) (wrap64 (d + 1))) else (none)))) else (none)) else (some c) := by
  refine Is.step (spec_l21Left.l0_is a b c d).mo (fun k => by rw [spec_l21Left.l0]) ?_
  exact is2_ @spec_l21Left.l0_is @spec_l9Has.f_is
theorem spec_l21Left.fv_eq : spec_l21Left.fv e g = spec_l21Left.l0v e g (([] : List Int)) 0 := by
  refine Is.lim (g := fun k => spec_l21Left.f k e g) ?_
  · unfold spec_l21Left.f
    exact is1_ @spec_l21Left.l0_is
end
section
variable (a : List (S89)) (b : List Int)
noncomputable def spec_IsOpenPath.fv := Lim fun k => spec_IsOpenPath.f k a b
theorem spec_IsOpenPath.f_is : Is (fun k => spec_IsOpenPath.f k a b) (spec_IsOpenPath.fv a b) := ⟨fun k => spec_IsOpenPath.mono a b k, rfl⟩
theorem spec_IsOpenPath.fv_eq : spec_IsOpenPath.fv a b = (spec_AreVersions.fv b).bind fun t335 => (if t335 = true then (if 1 ≤ (b.length : Int) then ((spec_PlainHello.f (b.take 1)).bind fun bt337 => ((spec_PassPath.fv a bt337.1 bt337.2).bind fun bt343 => (some bt343.2.2))) else (none)) else (some false)) := by
  refine Is.lim (g := fun k => spec_IsOpenPath.f k a b) ?_
  · unfold spec_IsOpenPath.f
    exact is2_ @spec_AreVersions.f_is @spec_PassPath.f_is
end
end Go.Proofs.Ytlcpaebidnaolaa.Print

/- Written by a program of this session (limx.py): the equations of what the printed functions come to. No condition. -/
namespace Go.Proofs.Ytlcpaebidnaolaa.Print
open Go.RowKit Go.Proofs.YtlcpaebidnaolaaW.PrintWords Go.Proofs.YtlcpaebidnaolaaW.PrintLast Go.Proofs.Ytlcpaebidnaolaa.Base
set_option linter.unusedVariables false
set_option maxRecDepth 20000
section
variable (a b : List (S113)) (c : Int) (d e : List (S113))
noncomputable def spec_EqualExts.l0v := Lim fun k => spec_EqualExts.l0 k a b c
noncomputable def spec_EqualExts.fv := Lim fun k => spec_EqualExts.f k d e
theorem spec_EqualExts.l0_is : Is (fun k => spec_EqualExts.l0 k a b c) (spec_EqualExts.l0v a b c) := ⟨fun k => (spec_EqualExts.mono_l k) a b c, rfl⟩
theorem spec_EqualExts.f_is : Is (fun k => spec_EqualExts.f k d e) (spec_EqualExts.fv d e) := ⟨fun k => spec_EqualExts.mono d e k, rfl⟩
theorem spec_EqualExts.l0v_eq : spec_EqualExts.l0v a b c = if c < (a.length : Int) then (if 0 ≤ c then (if c < (b.length : Int) then (if ((rd_T113 a c).f0) = ((rd_T113 b c).f0) then ((spec_EqualInts.fv ((rd_T113 a c).f1) ((rd_T113 b c).f1)).bind fun t281 => (if t281 = true then (spec_EqualExts.l0v a b (wrap64 (c + 1))) else (some false))) else (some false)) else (none)) else (none)) else (some true) := by
  refine Is.step (spec_EqualExts.l0_is a b c).mo (fun k => by rw [spec_EqualExts.l0]) ?_
  exact is2_ @spec_EqualExts.l0_is @spec_EqualInts.f_is
theorem spec_EqualExts.fv_eq : spec_EqualExts.fv d e = if (d.length : Int) = (e.length : Int) then (spec_EqualExts.l0v d e 0) else (some false) := by
  refine Is.lim (g := fun k => spec_EqualExts.f k d e) ?_
  · unfold spec_EqualExts.f
    exact is1_ @spec_EqualExts.l0_is
end
section
variable (a : List Int) (b : List (S113)) (c : List Int) (d : List (S113))
noncomputable def spec_EqualHellos.fv := Lim fun k => spec_EqualHellos.f k a b c d
theorem spec_EqualHellos.f_is : Is (fun k => spec_EqualHellos.f k a b c d) (spec_EqualHellos.fv a b c d) := ⟨fun k => spec_EqualHellos.mono a b c d k, rfl⟩
theorem spec_EqualHellos.fv_eq : spec_EqualHellos.fv a b c d = (spec_EqualInts.fv a c).bind fun t284 => (if t284 = true then ((spec_EqualExts.fv b d).bind fun t285 => (some t285)) else (some false)) := by
  refine Is.lim (g := fun k => spec_EqualHellos.f k a b c d) ?_
  · unfold spec_EqualHellos.f
    exact is2_ @spec_EqualExts.f_is @spec_EqualInts.f_is
end
section
variable (a : List Int) (b : List (S113)) (c : List (S89))
noncomputable def spec_PassesWhole.fv := Lim fun k => spec_PassesWhole.f k a b c
theorem spec_PassesWhole.f_is : Is (fun k => spec_PassesWhole.f k a b c) (spec_PassesWhole.fv a b c) := ⟨fun k => spec_PassesWhole.mono a b c k, rfl⟩
theorem spec_PassesWhole.fv_eq : spec_PassesWhole.fv a b c = (spec_PassPath.fv c a b).bind fun bt287 => (if bt287.2.2 = true then ((spec_EqualHellos.fv bt287.1 bt287.2.1 a b).bind fun t295 => (some t295)) else (some false)) := by
  refine Is.lim (g := fun k => spec_PassesWhole.f k a b c) ?_
  · unfold spec_PassesWhole.f
    exact is2_ @spec_EqualHellos.f_is @spec_PassPath.f_is
end
end Go.Proofs.Ytlcpaebidnaolaa.Print

/- Written by a program of this session (limx.py): the equations of what the printed functions come to. No condition. -/
namespace Go.Proofs.Ytlcpaebidnaolaa.Print
open Go.RowKit Go.Proofs.YtlcpaebidnaolaaW.PrintWords Go.Proofs.YtlcpaebidnaolaaW.PrintLast Go.Proofs.Ytlcpaebidnaolaa.Base
set_option linter.unusedVariables false
set_option maxRecDepth 20000
section
variable (a : List (S89)) (b c : List Int) (d : Int) (e : Bool) (g : List (S89)) (h : List Int)
noncomputable def spec_LostVersions.l0v := Lim fun k => spec_LostVersions.l0 k a b c d
noncomputable def spec_LostVersions.j1v := Lim fun k => spec_LostVersions.j1 k a b c d e
noncomputable def spec_LostVersions.fv := Lim fun k => spec_LostVersions.f k g h
theorem spec_LostVersions.l0_is : Is (fun k => spec_LostVersions.l0 k a b c d) (spec_LostVersions.l0v a b c d) := ⟨fun k => (spec_LostVersions.mono_l k).1 a b c d, rfl⟩
theorem spec_LostVersions.j1_is : Is (fun k => spec_LostVersions.j1 k a b c d e) (spec_LostVersions.j1v a b c d e) := ⟨fun k => (spec_LostVersions.mono_l k).2 a b c d e, rfl⟩
theorem spec_LostVersions.f_is : Is (fun k => spec_LostVersions.f k g h) (spec_LostVersions.fv g h) := ⟨fun k => spec_LostVersions.mono g h k, rfl⟩
theorem spec_LostVersions.l0v_eq : spec_LostVersions.l0v a b c d = if d < (b.length : Int) then ((spec_AreVersions.fv b).bind fun t354 => (spec_LostVersions.j1v a b c d t354)) else (spec_LostVersions.j1v a b c d false) := by
  refine Is.step (spec_LostVersions.l0_is a b c d).mo (fun k => by rw [spec_LostVersions.l0]) ?_
  exact is2_ @spec_AreVersions.f_is @spec_LostVersions.j1_is
theorem spec_LostVersions.j1v_eq : spec_LostVersions.j1v a b c d e = if e = true then (if 0 ≤ d then (if d ≤ (wrap64 (d + 1)) then (if (wrap64 (d + 1)) ≤ (b.length : Int) then ((spec_IsOpenPath.fv a ((b.take ((wrap64 (d + 1)) : Int).toNat).drop (d : Int).toNat)).bind fun t356 => (if t356 = true then (spec_LostVersions.l0v a b c (wrap64 (d + 1))) else (if d < (b.length : Int) then (if c.length < 17592186044416 then (spec_LostVersions.l0v a b (c ++ [rd b d]) (wrap64 (d + 1))) else (none)) else (none)))) else (none)) else (none)) else (none)) else (some c) := by
  refine Is.step (spec_LostVersions.j1_is a b c d e).mo (fun k => by rw [spec_LostVersions.j1]) ?_
  exact is2_ @spec_IsOpenPath.f_is @spec_LostVersions.l0_is
theorem spec_LostVersions.fv_eq : spec_LostVersions.fv g h = spec_LostVersions.l0v g h (([] : List Int)) 0 := by
  refine Is.lim (g := fun k => spec_LostVersions.f k g h) ?_
  · unfold spec_LostVersions.f
    exact is1_ @spec_LostVersions.l0_is
end
section
variable (a : List (S89)) (b : List Int) (c : List (S113)) (d : List Int) (e : Bool) (g : Int) (h : List (S89)) (i : List Int) (j : List (S113))
noncomputable def spec_LostTags.j0v := Lim fun k => spec_LostTags.j0 k a b c d e
noncomputable def spec_LostTags.l0v := Lim fun k => spec_LostTags.l0 k a b c d g
noncomputable def spec_LostTags.fv := Lim fun k => spec_LostTags.f k h i j
theorem spec_LostTags.j0_is : Is (fun k => spec_LostTags.j0 k a b c d e) (spec_LostTags.j0v a b c d e) := ⟨fun k => (spec_LostTags.mono_l k).1 a b c d e, rfl⟩
theorem spec_LostTags.l0_is : Is (fun k => spec_LostTags.l0 k a b c d g) (spec_LostTags.l0v a b c d g) := ⟨fun k => (spec_LostTags.mono_l k).2 a b c d g, rfl⟩
theorem spec_LostTags.f_is : Is (fun k => spec_LostTags.f k h i j) (spec_LostTags.fv h i j) := ⟨fun k => spec_LostTags.mono h i j k, rfl⟩
theorem spec_LostTags.j0v_eq : spec_LostTags.j0v a b c d e = if e = true then (some d) else (spec_LostTags.l0v a b c d 0) := by
  refine Is.step (spec_LostTags.j0_is a b c d e).mo (fun k => by rw [spec_LostTags.j0]) ?_
  exact is1_ @spec_LostTags.l0_is
theorem spec_LostTags.l0v_eq : spec_LostTags.l0v a b c d g = if g < (c.length : Int) then (if 1 ≤ (b.length : Int) then ((spec_PlainHello.f (b.take 1)).bind fun bt367 => (if 0 ≤ g then (if g ≤ (wrap64 (g + 1)) then (if (wrap64 (g + 1)) ≤ (c.length : Int) then ((some ((c.take ((wrap64 (g + 1)) : Int).toNat).drop (g : Int).toNat : List (S113))).bind fun y374 => ((spec_PassPath.fv a bt367.1 y374).bind fun bt378 => (if bt378.2.2 = true then ((spec_EqualExts.fv bt378.2.1 y374).bind fun t386 => (if t386 = true then (spec_LostTags.l0v a b c d (wrap64 (g + 1))) else (if d.length < 17592186044416 then (spec_LostTags.l0v a b c (d ++ [(rd_T113 c g).f0]) (wrap64 (g + 1))) else (none)))) else (if d.length < 17592186044416 then (spec_LostTags.l0v a b c (d ++ [(rd_T113 c g).f0]) (wrap64 (g + 1))) else (none))))) else (none)) else (none)) else (none))) else (none)) else (some d) := by
  refine Is.step (spec_LostTags.l0_is a b c d g).mo (fun k => by rw [spec_LostTags.l0]) ?_
  exact is3_ @spec_EqualExts.f_is @spec_LostTags.l0_is @spec_PassPath.f_is
theorem spec_LostTags.fv_eq : spec_LostTags.fv h i j = (some (([] : List Int) : List Int)).bind fun y361 => ((spec_AreExts.fv j).bind fun t364 => (if t364 = true then ((spec_IsOpenPath.fv h i).bind fun t365 => (spec_LostTags.j0v h i j y361 (!t365))) else (spec_LostTags.j0v h i j y361 true))) := by
  refine Is.lim (g := fun k => spec_LostTags.f k h i j) ?_
  · unfold spec_LostTags.f
    exact is3_ @spec_AreExts.f_is @spec_IsOpenPath.f_is @spec_LostTags.j0_is
end
section
variable (a : List Int) (b : List (S113)) (c : List (S89))
noncomputable def spec_FallbackHello.fv := Lim fun k => spec_FallbackHello.f k a b c
theorem spec_FallbackHello.f_is : Is (fun k => spec_FallbackHello.f k a b c) (spec_FallbackHello.fv a b c) := ⟨fun k => spec_FallbackHello.mono a b c k, rfl⟩
theorem spec_FallbackHello.fv_eq : spec_FallbackHello.fv a b c = (spec_IsHello.fv a b).bind fun t397 => (if t397 = true then ((spec_LostVersions.fv c a).bind fun t398 => ((spec_l21Left.fv a t398).bind fun t401 => ((spec_LostTags.fv c t401 b).bind fun t404 => ((spec_PartHello.fv a b t398 t404).bind fun bt407 => (some (bt407.1, bt407.2.1, bt407.2.2)))))) else (some (([] : List Int), ([] : List (S113)), false))) := by
  refine Is.lim (g := fun k => spec_FallbackHello.f k a b c) ?_
  · unfold spec_FallbackHello.f
    exact is5_ @spec_IsHello.f_is @spec_LostTags.f_is @spec_LostVersions.f_is @spec_PartHello.f_is @spec_l21Left.f_is
end
end Go.Proofs.Ytlcpaebidnaolaa.Print

/- Written by a program of this session (limx.py): the equations of what the printed functions come to. No condition. -/
namespace Go.Proofs.Ytlcpaebidnaolaa.Print
open Go.RowKit Go.Proofs.YtlcpaebidnaolaaW.PrintWords Go.Proofs.YtlcpaebidnaolaaW.PrintLast Go.Proofs.Ytlcpaebidnaolaa.Base
set_option linter.unusedVariables false
set_option maxRecDepth 20000
section
variable (a : List Int) (b c : Int) (d : List Int) (e : Int)
noncomputable def spec_l4Put.l0v := Lim fun k => spec_l4Put.l0 k a b c
noncomputable def spec_l4Put.fv := Lim fun k => spec_l4Put.f k d e
theorem spec_l4Put.l0_is : Is (fun k => spec_l4Put.l0 k a b c) (spec_l4Put.l0v a b c) := ⟨fun k => (spec_l4Put.mono_l k) a b c, rfl⟩
theorem spec_l4Put.f_is : Is (fun k => spec_l4Put.f k d e) (spec_l4Put.fv d e) := ⟨fun k => spec_l4Put.mono d e k, rfl⟩
theorem spec_l4Put.l0v_eq : spec_l4Put.l0v a b c = if c < (a.length : Int) then (if 0 ≤ c then (if (rd a c) < b then (spec_l4Put.l0v a b (wrap64 (c + 1))) else (if (rd a c) = b then ((some (([] : List Int) : List Int)).bind fun y647 => (if y647.length + a.length < 17592186044416 then (some (y647 ++ a)) else (none))) else ((some (([] : List Int) : List Int)).bind fun y653 => (if c ≤ (a.length : Int) then (if y653.length + (a.take (c : Int).toNat).length < 17592186044416 then ((some (y653 ++ (a.take (c : Int).toNat) : List Int)).bind fun y657 => ((some (([b] : List Int) : List Int)).bind fun y660 => (if y657.length + y660.length < 17592186044416 then ((some (y657 ++ y660 : List Int)).bind fun y663 => (if y663.length + (a.drop (c : Int).toNat).length < 17592186044416 then (some (y663 ++ (a.drop (c : Int).toNat))) else (none))) else (none)))) else (none)) else (none))))) else (none)) else ((some (([] : List Int) : List Int)).bind fun y670 => (if 0 ≤ c then (if c ≤ (a.length : Int) then (if y670.length + (a.take (c : Int).toNat).length < 17592186044416 then ((some (y670 ++ (a.take (c : Int).toNat) : List Int)).bind fun y674 => ((some (([b] : List Int) : List Int)).bind fun y677 => (if y674.length + y677.length < 17592186044416 then ((some (y674 ++ y677 : List Int)).bind fun y680 => (if y680.length + (a.drop (c : Int).toNat).length < 17592186044416 then (some (y680 ++ (a.drop (c : Int).toNat))) else (none))) else (none)))) else (none)) else (none)) else (none))) := by
  refine Is.step (spec_l4Put.l0_is a b c).mo (fun k => by rw [spec_l4Put.l0]) ?_
  exact is1_ @spec_l4Put.l0_is
theorem spec_l4Put.fv_eq : spec_l4Put.fv d e = spec_l4Put.l0v d e 0 := by
  refine Is.lim (g := fun k => spec_l4Put.f k d e) ?_
  · unfold spec_l4Put.f
    exact is1_ @spec_l4Put.l0_is
end
section
variable (a : List Int) (b : Int) (c : List Int) (d e : Int) (g : List Int) (h i : Int)
noncomputable def spec_l12Draw.l0v := Lim fun k => spec_l12Draw.l0 k a b c d e
noncomputable def spec_l12Draw.fv := Lim fun k => spec_l12Draw.f k g h i
theorem spec_l12Draw.l0_is : Is (fun k => spec_l12Draw.l0 k a b c d e) (spec_l12Draw.l0v a b c d e) := ⟨fun k => (spec_l12Draw.mono_l k) a b c d e, rfl⟩
theorem spec_l12Draw.f_is : Is (fun k => spec_l12Draw.f k g h i) (spec_l12Draw.fv g h i) := ⟨fun k => spec_l12Draw.mono g h i k, rfl⟩
theorem spec_l12Draw.l0v_eq : spec_l12Draw.l0v a b c d e = if b > 0 then ((spec_l1Below.f c d e 6).bind fun bt696 => ((spec_l4Put.fv a (wrap64 (1 + bt696.1))).bind fun t699 => (spec_l12Draw.l0v t699 (wrap64 (b - 1)) c bt696.2.1 bt696.2.2))) else (some (a, d, e)) := by
  refine Is.step (spec_l12Draw.l0_is a b c d e).mo (fun k => by rw [spec_l12Draw.l0]) ?_
  exact is2_ @spec_l12Draw.l0_is @spec_l4Put.f_is
theorem spec_l12Draw.fv_eq : spec_l12Draw.fv g h i = (spec_l1Below.f g h i 4).bind fun bt687 => ((spec_l1Below.f g bt687.2.1 bt687.2.2 4).bind fun bt693 => (spec_l12Draw.l0v (([wrap64 (1 + bt687.1)] : List Int)) bt693.1 g bt693.2.1 bt693.2.2)) := by
  refine Is.lim (g := fun k => spec_l12Draw.f k g h i) ?_
  · unfold spec_l12Draw.f
    exact is1_ @spec_l12Draw.l0_is
end
end Go.Proofs.Ytlcpaebidnaolaa.Print

/- Written by a program of this session (limx.py): the equations of what the printed functions come to. No condition. -/
namespace Go.Proofs.Ytlcpaebidnaolaa.Print
open Go.RowKit Go.Proofs.YtlcpaebidnaolaaW.PrintWords Go.Proofs.YtlcpaebidnaolaaW.PrintLast Go.Proofs.Ytlcpaebidnaolaa.Base
set_option linter.unusedVariables false
set_option maxRecDepth 20000
section
variable (a : List Int) (b : List (S113)) (c : List (S89))
noncomputable def spec_HelloFor.fv := Lim fun k => spec_HelloFor.f k a b c
theorem spec_HelloFor.f_is : Is (fun k => spec_HelloFor.f k a b c) (spec_HelloFor.fv a b c) := ⟨fun k => spec_HelloFor.mono a b c k, rfl⟩
theorem spec_HelloFor.fv_eq : spec_HelloFor.fv a b c = (spec_IsHello.fv a b).bind fun t416 => (if t416 = true then ((spec_PassesWhole.fv a b c).bind fun t417 => (if t417 = true then ((spec_l18Hello.fv a b).bind fun bt418 => (some (bt418.1, bt418.2, 1, true))) else ((spec_FallbackHello.fv a b c).bind fun bt424 => (if bt424.2.2 = true then ((spec_PassesWhole.fv bt424.1 bt424.2.1 c).bind fun t432 => (if t432 = true then (some (bt424.1, bt424.2.1, 2, true)) else (some (([] : List Int), ([] : List (S113)), 2, false)))) else (some (([] : List Int), ([] : List (S113)), 2, false)))))) else (some (([] : List Int), ([] : List (S113)), 0, false))) := by
  refine Is.lim (g := fun k => spec_HelloFor.f k a b c) ?_
  · unfold spec_HelloFor.f
    exact is4_ @spec_FallbackHello.f_is @spec_IsHello.f_is @spec_PassesWhole.f_is @spec_l18Hello.f_is
end
section
variable (a b c : List Int) (d : Int) (e g : List Int)
noncomputable def spec_CommonOf.l0v := Lim fun k => spec_CommonOf.l0 k a b c d
noncomputable def spec_CommonOf.fv := Lim fun k => spec_CommonOf.f k e g
theorem spec_CommonOf.l0_is : Is (fun k => spec_CommonOf.l0 k a b c d) (spec_CommonOf.l0v a b c d) := ⟨fun k => (spec_CommonOf.mono_l k) a b c d, rfl⟩
theorem spec_CommonOf.f_is : Is (fun k => spec_CommonOf.f k e g) (spec_CommonOf.fv e g) := ⟨fun k => spec_CommonOf.mono e g k, rfl⟩
theorem spec_CommonOf.l0v_eq : spec_CommonOf.l0v a b c d = if d < (a.length : Int) then (if 0 ≤ d then ((spec_l9Has.fv b (rd a d)).bind fun t437 => (if t437 = true then (if c.length < 17592186044416 then (spec_CommonOf.l0v a b (c ++ [rd a d]) (wrap64 (d + 1))) else (none)) else (spec_CommonOf.l0v a b c (wrap64 (d + 1))))) else (none)) else (some c) := by
  refine Is.step (spec_CommonOf.l0_is a b c d).mo (fun k => by rw [spec_CommonOf.l0]) ?_
  exact is2_ @spec_CommonOf.l0_is @spec_l9Has.f_is
theorem spec_CommonOf.fv_eq : spec_CommonOf.fv e g = spec_CommonOf.l0v e g (([] : List Int)) 0 := by
  refine Is.lim (g := fun k => spec_CommonOf.f k e g) ?_
  · unfold spec_CommonOf.f
    exact is1_ @spec_CommonOf.l0_is
end
section
variable (a b : List Int)
noncomputable def spec_BestCommon.fv := Lim fun k => spec_BestCommon.f k a b
theorem spec_BestCommon.f_is : Is (fun k => spec_BestCommon.f k a b) (spec_BestCommon.fv a b) := ⟨fun k => spec_BestCommon.mono a b k, rfl⟩
theorem spec_BestCommon.fv_eq : spec_BestCommon.fv a b = (spec_CommonOf.fv a b).bind fun t442 => ((spec_AreVersions.fv a).bind fun t445 => (if t445 = true then ((spec_AreVersions.fv b).bind fun t446 => (if t446 = true then (if (t442.length : Int) = 0 then (some 0) else (if 0 ≤ (wrap64 ((t442.length : Int) - 1)) then (if (wrap64 ((t442.length : Int) - 1)) < (t442.length : Int) then (some (rd t442 (wrap64 ((t442.length : Int) - 1)))) else (none)) else (none))) else (some 0))) else (some 0))) := by
  refine Is.lim (g := fun k => spec_BestCommon.f k a b) ?_
  · unfold spec_BestCommon.f
    exact is2_ @spec_AreVersions.f_is @spec_CommonOf.f_is
end
section
variable (a b : List (S113)) (c : Int) (d : List (S113))
noncomputable def spec_StripGrease.l0v := Lim fun k => spec_StripGrease.l0 k a b c
noncomputable def spec_StripGrease.fv := Lim fun k => spec_StripGrease.f k d
theorem spec_StripGrease.l0_is : Is (fun k => spec_StripGrease.l0 k a b c) (spec_StripGrease.l0v a b c) := ⟨fun k => (spec_StripGrease.mono_l k) a b c, rfl⟩
theorem spec_StripGrease.f_is : Is (fun k => spec_StripGrease.f k d) (spec_StripGrease.fv d) := ⟨fun k => spec_StripGrease.mono d k, rfl⟩
theorem spec_StripGrease.l0v_eq : spec_StripGrease.l0v a b c = if c < (a.length : Int) then (if 0 ≤ c then ((spec_IsReserved.f ((rd_T113 a c).f0)).bind fun t453 => (if t453 = true then (spec_StripGrease.l0v a b (wrap64 (c + 1))) else ((some (([] : List Int) : List Int)).bind fun y455 => (if y455.length + ((rd_T113 a c).f1).length < 17592186044416 then (if b.length < 4398046511104 then (spec_StripGrease.l0v a (b ++ [(⟨(rd_T113 a c).f0, (y455 ++ ((rd_T113 a c).f1))⟩ : S113)]) (wrap64 (c + 1))) else (none)) else (none))))) else (none)) else (some b) := by
  refine Is.step (spec_StripGrease.l0_is a b c).mo (fun k => by rw [spec_StripGrease.l0]) ?_
  exact is1_ @spec_StripGrease.l0_is
theorem spec_StripGrease.fv_eq : spec_StripGrease.fv d = spec_StripGrease.l0v d (([] : List (S113))) 0 := by
  refine Is.lim (g := fun k => spec_StripGrease.f k d) ?_
  · unfold spec_StripGrease.f
    exact is1_ @spec_StripGrease.l0_is
end
end Go.Proofs.Ytlcpaebidnaolaa.Print

/- Written by a program of this session (limx.py): the equations of what the printed functions come to. No condition. -/
namespace Go.Proofs.Ytlcpaebidnaolaa.Print
open Go.RowKit Go.Proofs.YtlcpaebidnaolaaW.PrintWords Go.Proofs.YtlcpaebidnaolaaW.PrintLast Go.Proofs.Ytlcpaebidnaolaa.Base
set_option linter.unusedVariables false
set_option maxRecDepth 20000
section
variable (a : List Int) (b : Int) (c : Bool) (d : List Int) (e : List (S113)) (g h i : List Int) (j : List (S113))
noncomputable def spec_ChooseAnswer.j0v := Lim fun k => spec_ChooseAnswer.j0 k a b c d e
noncomputable def spec_ChooseAnswer.fv := Lim fun k => spec_ChooseAnswer.f k g h i j
theorem spec_ChooseAnswer.j0_is : Is (fun k => spec_ChooseAnswer.j0 k a b c d e) (spec_ChooseAnswer.j0v a b c d e) := ⟨fun k => (spec_ChooseAnswer.mono_l k) a b c d e, rfl⟩
theorem spec_ChooseAnswer.f_is : Is (fun k => spec_ChooseAnswer.f k g h i j) (spec_ChooseAnswer.fv g h i j) := ⟨fun k => spec_ChooseAnswer.mono g h i j k, rfl⟩
theorem spec_ChooseAnswer.j0v_eq : spec_ChooseAnswer.j0v a b c d e = if c = true then (some (0, ([] : List (S113)), false)) else ((spec_KnownOf.fv e a).bind fun t469 => ((spec_StripGrease.fv t469).bind fun t472 => (some (b, t472, true)))) := by
  refine Is.step (spec_ChooseAnswer.j0_is a b c d e).mo (fun k => by rw [spec_ChooseAnswer.j0]) ?_
  exact is2_ @spec_KnownOf.f_is @spec_StripGrease.f_is
theorem spec_ChooseAnswer.fv_eq : spec_ChooseAnswer.fv g h i j = (spec_BestCommon.fv g i).bind fun t467 => ((spec_IsHello.fv i j).bind fun t468 => (if t468 = true then (spec_ChooseAnswer.j0v h t467 (t467 == 0) i j) else (spec_ChooseAnswer.j0v h t467 true i j))) := by
  refine Is.lim (g := fun k => spec_ChooseAnswer.f k g h i j) ?_
  · unfold spec_ChooseAnswer.f
    exact is3_ @spec_BestCommon.f_is @spec_ChooseAnswer.j0_is @spec_IsHello.f_is
end
section
variable (a : Int) (b : List (S113))
noncomputable def spec_IsAnswer.fv := Lim fun k => spec_IsAnswer.f k a b
theorem spec_IsAnswer.f_is : Is (fun k => spec_IsAnswer.f k a b) (spec_IsAnswer.fv a b) := ⟨fun k => spec_IsAnswer.mono a b k, rfl⟩
theorem spec_IsAnswer.fv_eq : spec_IsAnswer.fv a b = (spec_l1In.f a 1 9).bind fun t476 => (if t476 = true then ((spec_AreExts.fv b).bind fun t477 => (some t477)) else (some false)) := by
  refine Is.lim (g := fun k => spec_IsAnswer.f k a b) ?_
  · unfold spec_IsAnswer.f
    exact is1_ @spec_AreExts.f_is
end
section
variable (a : Int) (b : List Int) (c : List (S113)) (d : Int) (e : List (S113)) (g : List Int) (h : List (S113)) (i : Int) (j : List (S113))
noncomputable def spec_FitsHello.l0v := Lim fun k => spec_FitsHello.l0 k a b c d e
noncomputable def spec_FitsHello.fv := Lim fun k => spec_FitsHello.f k g h i j
theorem spec_FitsHello.l0_is : Is (fun k => spec_FitsHello.l0 k a b c d e) (spec_FitsHello.l0v a b c d e) := ⟨fun k => (spec_FitsHello.mono_l k) a b c d e, rfl⟩
theorem spec_FitsHello.f_is : Is (fun k => spec_FitsHello.f k g h i j) (spec_FitsHello.fv g h i j) := ⟨fun k => spec_FitsHello.mono g h i j k, rfl⟩
theorem spec_FitsHello.l0v_eq : spec_FitsHello.l0v a b c d e = if a < (e.length : Int) then (if 0 ≤ a then ((spec_ExtOf.fv c ((rd_T113 e a).f0)).bind fun t484 => (if t484 < 0 then (some false) else ((spec_IsReserved.f ((rd_T113 e a).f0)).bind fun t486 => (if t486 = true then (some false) else (spec_FitsHello.l0v (wrap64 (a + 1)) b c d e))))) else (none)) else ((spec_IsHello.fv b c).bind fun t480 => (if t480 = true then ((spec_IsAnswer.fv d e).bind fun t481 => (if t481 = true then ((spec_l9Has.fv b d).bind fun t482 => (some t482)) else (some false))) else (some false))) := by
  refine Is.step (spec_FitsHello.l0_is a b c d e).mo (fun k => by rw [spec_FitsHello.l0]) ?_
  exact is5_ @spec_ExtOf.f_is @spec_FitsHello.l0_is @spec_IsAnswer.f_is @spec_IsHello.f_is @spec_l9Has.f_is
theorem spec_FitsHello.fv_eq : spec_FitsHello.fv g h i j = spec_FitsHello.l0v 0 g h i j := by
  refine Is.lim (g := fun k => spec_FitsHello.f k g h i j) ?_
  · unfold spec_FitsHello.f
    exact is1_ @spec_FitsHello.l0_is
end
section
variable (a : List (List Int)) (b : Int) (c : List (List Int))
noncomputable def spec_IsTranscript.l0v := Lim fun k => spec_IsTranscript.l0 k a b
noncomputable def spec_IsTranscript.fv := Lim fun k => spec_IsTranscript.f k c
theorem spec_IsTranscript.l0_is : Is (fun k => spec_IsTranscript.l0 k a b) (spec_IsTranscript.l0v a b) := ⟨fun k => (spec_IsTranscript.mono_l k) a b, rfl⟩
theorem spec_IsTranscript.f_is : Is (fun k => spec_IsTranscript.f k c) (spec_IsTranscript.fv c) := ⟨fun k => spec_IsTranscript.mono c k, rfl⟩
theorem spec_IsTranscript.l0v_eq : spec_IsTranscript.l0v a b = if b < (a.length : Int) then (if 0 ≤ b then ((spec_l9Byte.fv (rd_L2 a b)).bind fun t489 => (if t489 = true then (spec_IsTranscript.l0v a (wrap64 (b + 1))) else (some false))) else (none)) else (some (decide ((a.length : Int) ≤ 12))) := by
  refine Is.step (spec_IsTranscript.l0_is a b).mo (fun k => by rw [spec_IsTranscript.l0]) ?_
  exact is2_ @spec_IsTranscript.l0_is @spec_l9Byte.f_is
theorem spec_IsTranscript.fv_eq : spec_IsTranscript.fv c = spec_IsTranscript.l0v c 0 := by
  refine Is.lim (g := fun k => spec_IsTranscript.f k c) ?_
  · unfold spec_IsTranscript.f
    exact is1_ @spec_IsTranscript.l0_is
end
section
variable (a : List Int) (b c : Int) (d : List Int)
noncomputable def spec_Hash.l0v := Lim fun k => spec_Hash.l0 k a b c
noncomputable def spec_Hash.fv := Lim fun k => spec_Hash.f k d
theorem spec_Hash.l0_is : Is (fun k => spec_Hash.l0 k a b c) (spec_Hash.l0v a b c) := ⟨fun k => (spec_Hash.mono_l k) a b c, rfl⟩
theorem spec_Hash.f_is : Is (fun k => spec_Hash.f k d) (spec_Hash.fv d) := ⟨fun k => spec_Hash.mono d k, rfl⟩
theorem spec_Hash.l0v_eq : spec_Hash.l0v a b c = if c < (a.length : Int) then (if 0 ≤ c then ((spec_Mod.f (rd a c) 2147483647).bind fun t492 => (spec_Hash.l0v a (Int.tmod (wrap64 ((wrap64 ((wrap64 (b * 1000003)) + t492)) + 13)) 2147483647) (wrap64 (c + 1)))) else (none)) else (some b) := by
  refine Is.step (spec_Hash.l0_is a b c).mo (fun k => by rw [spec_Hash.l0]) ?_
  exact is1_ @spec_Hash.l0_is
theorem spec_Hash.fv_eq : spec_Hash.fv d = spec_Hash.l0v d 11 0 := by
  refine Is.lim (g := fun k => spec_Hash.f k d) ?_
  · unfold spec_Hash.f
    exact is1_ @spec_Hash.l0_is
end
section
variable (a : Int) (b : List Int)
noncomputable def spec_KeyedHash.fv := Lim fun k => spec_KeyedHash.f k a b
theorem spec_KeyedHash.f_is : Is (fun k => spec_KeyedHash.f k a b) (spec_KeyedHash.fv a b) := ⟨fun k => spec_KeyedHash.mono a b k, rfl⟩
theorem spec_KeyedHash.fv_eq : spec_KeyedHash.fv a b = (some (([a] : List Int) : List Int)).bind fun y493 => (if y493.length + b.length < 17592186044416 then ((some (y493 ++ b : List Int)).bind fun y496 => (if y496.length < 17592186044416 then ((spec_Hash.fv (y496 ++ [a])).bind fun t502 => (some t502)) else (none))) else (none)) := by
  refine Is.lim (g := fun k => spec_KeyedHash.f k a b) ?_
  · unfold spec_KeyedHash.f
    exact is1_ @spec_Hash.f_is
end
end Go.Proofs.Ytlcpaebidnaolaa.Print

/- Written by a program of this session (limx.py): the equations of what the printed functions come to. No condition. -/
namespace Go.Proofs.Ytlcpaebidnaolaa.Print
open Go.RowKit Go.Proofs.YtlcpaebidnaolaaW.PrintWords Go.Proofs.YtlcpaebidnaolaaW.PrintLast Go.Proofs.Ytlcpaebidnaolaa.Base
set_option linter.unusedVariables false
set_option maxRecDepth 20000
section
variable (a : List (List Int)) (b c : Int) (d : List (List Int))
noncomputable def spec_TranscriptHash.l0v := Lim fun k => spec_TranscriptHash.l0 k a b c
noncomputable def spec_TranscriptHash.fv := Lim fun k => spec_TranscriptHash.f k d
theorem spec_TranscriptHash.l0_is : Is (fun k => spec_TranscriptHash.l0 k a b c) (spec_TranscriptHash.l0v a b c) := ⟨fun k => (spec_TranscriptHash.mono_l k) a b c, rfl⟩
theorem spec_TranscriptHash.f_is : Is (fun k => spec_TranscriptHash.f k d) (spec_TranscriptHash.fv d) := ⟨fun k => spec_TranscriptHash.mono d k, rfl⟩
theorem spec_TranscriptHash.l0v_eq : spec_TranscriptHash.l0v a b c = if c < (a.length : Int) then (if 0 ≤ c then ((some (([b, ((rd_L2 a c).length : Int)] : List Int) : List Int)).bind fun y505 => (if y505.length + (rd_L2 a c).length < 17592186044416 then ((spec_Hash.fv (y505 ++ (rd_L2 a c))).bind fun t512 => (spec_TranscriptHash.l0v a t512 (wrap64 (c + 1)))) else (none))) else (none)) else (some b) := by
  refine Is.step (spec_TranscriptHash.l0_is a b c).mo (fun k => by rw [spec_TranscriptHash.l0]) ?_
  exact is2_ @spec_Hash.f_is @spec_TranscriptHash.l0_is
theorem spec_TranscriptHash.fv_eq : spec_TranscriptHash.fv d = (spec_IsTranscript.fv d).bind fun t503 => (if t503 = true then (spec_TranscriptHash.l0v d 1 0) else (some 0)) := by
  refine Is.lim (g := fun k => spec_TranscriptHash.f k d) ?_
  · unfold spec_TranscriptHash.f
    exact is2_ @spec_IsTranscript.f_is @spec_TranscriptHash.l0_is
end
section
variable (a : Int) (b : List (List Int)) (c : Int) (d : Bool) (e : Int) (g : List (List Int)) (h : Int)
noncomputable def spec_FinishOf.j0v := Lim fun k => spec_FinishOf.j0 k a b c d
noncomputable def spec_FinishOf.fv := Lim fun k => spec_FinishOf.f k e g h
theorem spec_FinishOf.j0_is : Is (fun k => spec_FinishOf.j0 k a b c d) (spec_FinishOf.j0v a b c d) := ⟨fun k => (spec_FinishOf.mono_l k) a b c d, rfl⟩
theorem spec_FinishOf.f_is : Is (fun k => spec_FinishOf.f k e g h) (spec_FinishOf.fv e g h) := ⟨fun k => spec_FinishOf.mono e g h k, rfl⟩
theorem spec_FinishOf.j0v_eq : spec_FinishOf.j0v a b c d = if d = true then (some 0) else ((spec_TranscriptHash.fv b).bind fun t516 => ((spec_KeyedHash.fv a (([c, t516] : List Int))).bind fun t520 => (some t520))) := by
  refine Is.step (spec_FinishOf.j0_is a b c d).mo (fun k => by rw [spec_FinishOf.j0]) ?_
  exact is2_ @spec_KeyedHash.f_is @spec_TranscriptHash.f_is
theorem spec_FinishOf.fv_eq : spec_FinishOf.fv e g h = (spec_IsValidKey.f e).bind fun t513 => (if t513 = true then ((spec_IsTranscript.fv g).bind fun t514 => (if t514 = true then ((spec_l1In.f h 0 1).bind fun t515 => (spec_FinishOf.j0v e g h (!t515))) else (spec_FinishOf.j0v e g h true))) else (spec_FinishOf.j0v e g h true)) := by
  refine Is.lim (g := fun k => spec_FinishOf.f k e g h) ?_
  · unfold spec_FinishOf.f
    exact is2_ @spec_FinishOf.j0_is @spec_IsTranscript.f_is
end
section
variable (a : List (S113)) (b : List Int) (c : Int) (d : List (S113))
noncomputable def spec_EncodeExts.l0v := Lim fun k => spec_EncodeExts.l0 k a b c
noncomputable def spec_EncodeExts.fv := Lim fun k => spec_EncodeExts.f k d
theorem spec_EncodeExts.l0_is : Is (fun k => spec_EncodeExts.l0 k a b c) (spec_EncodeExts.l0v a b c) := ⟨fun k => (spec_EncodeExts.mono_l k) a b c, rfl⟩
theorem spec_EncodeExts.f_is : Is (fun k => spec_EncodeExts.f k d) (spec_EncodeExts.fv d) := ⟨fun k => spec_EncodeExts.mono d k, rfl⟩
theorem spec_EncodeExts.l0v_eq : spec_EncodeExts.l0v a b c = if c < (a.length : Int) then (if 0 ≤ c then ((some (([(rd_T113 a c).f0, (((rd_T113 a c).f1).length : Int)] : List Int) : List Int)).bind fun y530 => (if b.length + y530.length < 17592186044416 then ((some (b ++ y530 : List Int)).bind fun y533 => (if y533.length + ((rd_T113 a c).f1).length < 17592186044416 then (spec_EncodeExts.l0v a (y533 ++ ((rd_T113 a c).f1)) (wrap64 (c + 1))) else (none))) else (none))) else (none)) else (some (b, true)) := by
  refine Is.step (spec_EncodeExts.l0_is a b c).mo (fun k => by rw [spec_EncodeExts.l0]) ?_
  exact is1_ @spec_EncodeExts.l0_is
theorem spec_EncodeExts.fv_eq : spec_EncodeExts.fv d = (spec_AreExts.fv d).bind fun t521 => (if t521 = true then (spec_EncodeExts.l0v d (([(d.length : Int)] : List Int)) 0) else (some ((([] : List Int)), false))) := by
  refine Is.lim (g := fun k => spec_EncodeExts.f k d) ?_
  · unfold spec_EncodeExts.f
    exact is2_ @spec_AreExts.f_is @spec_EncodeExts.l0_is
end
section
variable (a : List Int) (b : List (S113))
noncomputable def spec_HelloBytes.fv := Lim fun k => spec_HelloBytes.f k a b
theorem spec_HelloBytes.f_is : Is (fun k => spec_HelloBytes.f k a b) (spec_HelloBytes.fv a b) := ⟨fun k => spec_HelloBytes.mono a b k, rfl⟩
theorem spec_HelloBytes.fv_eq : spec_HelloBytes.fv a b = (spec_IsHello.fv a b).bind fun t541 => (if t541 = true then ((spec_EncodeExts.fv b).bind fun bt542 => ((some (([(a.length : Int)] : List Int) : List Int)).bind fun y546 => (if y546.length + a.length < 17592186044416 then ((some (y546 ++ a : List Int)).bind fun y549 => (if y549.length + bt542.1.length < 17592186044416 then (some (y549 ++ bt542.1)) else (none))) else (none)))) else (some (([] : List Int)))) := by
  refine Is.lim (g := fun k => spec_HelloBytes.f k a b) ?_
  · unfold spec_HelloBytes.f
    exact is2_ @spec_EncodeExts.f_is @spec_IsHello.f_is
end
section
variable (a : Int) (b : List (S113))
noncomputable def spec_AnswerBytes.fv := Lim fun k => spec_AnswerBytes.f k a b
theorem spec_AnswerBytes.f_is : Is (fun k => spec_AnswerBytes.f k a b) (spec_AnswerBytes.fv a b) := ⟨fun k => spec_AnswerBytes.mono a b k, rfl⟩
theorem spec_AnswerBytes.fv_eq : spec_AnswerBytes.fv a b = (spec_IsAnswer.fv a b).bind fun t559 => (if t559 = true then ((spec_EncodeExts.fv b).bind fun bt560 => ((some (([a] : List Int) : List Int)).bind fun y564 => (if y564.length + bt560.1.length < 17592186044416 then (some (y564 ++ bt560.1)) else (none)))) else (some (([] : List Int)))) := by
  refine Is.lim (g := fun k => spec_AnswerBytes.f k a b) ?_
  · unfold spec_AnswerBytes.f
    exact is2_ @spec_EncodeExts.f_is @spec_IsAnswer.f_is
end
end Go.Proofs.Ytlcpaebidnaolaa.Print

/- Written by a program of this session (limx.py): the equations of what the printed functions come to. No condition. -/
namespace Go.Proofs.Ytlcpaebidnaolaa.Print
open Go.RowKit Go.Proofs.YtlcpaebidnaolaaW.PrintWords Go.Proofs.YtlcpaebidnaolaaW.PrintLast Go.Proofs.Ytlcpaebidnaolaa.Base
set_option linter.unusedVariables false
set_option maxRecDepth 20000
section
variable (a : Int) (b : Bool) (c : List Int) (d : List (S113)) (e : List Int) (g : List (S113)) (h : Int) (i : List (S113)) (j : List Int) (l : List (S113)) (m : List (S89)) (n o : List Int) (p : Int)
noncomputable def spec_DialOnce.j0v := Lim fun k => spec_DialOnce.j0 k a b c d e g h i
noncomputable def spec_DialOnce.fv := Lim fun k => spec_DialOnce.f k j l m n o p
theorem spec_DialOnce.j0_is : Is (fun k => spec_DialOnce.j0 k a b c d e g h i) (spec_DialOnce.j0v a b c d e g h i) := ⟨fun k => (spec_DialOnce.mono_l k) a b c d e g h i, rfl⟩
theorem spec_DialOnce.f_is : Is (fun k => spec_DialOnce.f k j l m n o p) (spec_DialOnce.fv j l m n o p) := ⟨fun k => spec_DialOnce.mono j l m n o p k, rfl⟩
theorem spec_DialOnce.j0v_eq : spec_DialOnce.j0v a b c d e g h i = if b = true then (some (false, 0, ([] : List Int))) else ((spec_HelloBytes.fv c d).bind fun t590 => ((spec_AnswerBytes.fv h i).bind fun t593 => ((spec_FinishOf.fv a (([t590, t593] : List (List Int))) 1).bind fun t599 => (if t599 = 0 then (some (false, 0, ([] : List Int))) else ((spec_HelloBytes.fv e g).bind fun t600 => ((spec_AnswerBytes.fv h i).bind fun t603 => ((spec_FinishOf.fv a (([t600, t603] : List (List Int))) 1).bind fun t609 => (if t599 = t609 then ((spec_TagsOf.fv i).bind fun t610 => (some (true, h, t610))) else (some (false, 0, ([] : List Int))))))))))) := by
  refine Is.step (spec_DialOnce.j0_is a b c d e g h i).mo (fun k => by rw [spec_DialOnce.j0]) ?_
  exact is4_ @spec_AnswerBytes.f_is @spec_FinishOf.f_is @spec_HelloBytes.f_is @spec_TagsOf.f_is
theorem spec_DialOnce.fv_eq : spec_DialOnce.fv j l m n o p = (spec_PassPath.fv m j l).bind fun bt575 => (if bt575.2.2 = true then ((spec_ChooseAnswer.fv n o bt575.1 bt575.2.1).bind fun bt583 => (if bt583.2.2 = true then ((spec_FitsHello.fv j l bt583.1 bt583.2.1).bind fun t589 => (spec_DialOnce.j0v p (!t589) j l bt575.1 bt575.2.1 bt583.1 bt583.2.1)) else (spec_DialOnce.j0v p true j l bt575.1 bt575.2.1 bt583.1 bt583.2.1))) else (some (false, 0, ([] : List Int)))) := by
  refine Is.lim (g := fun k => spec_DialOnce.f k j l m n o p) ?_
  · unfold spec_DialOnce.f
    exact is4_ @spec_ChooseAnswer.f_is @spec_DialOnce.j0_is @spec_FitsHello.f_is @spec_PassPath.f_is
end
end Go.Proofs.Ytlcpaebidnaolaa.Print

/- Written by a program of this session (limx.py): the equations of what the printed functions come to. No condition. -/
namespace Go.Proofs.Ytlcpaebidnaolaa.Print
open Go.RowKit Go.Proofs.YtlcpaebidnaolaaW.PrintWords Go.Proofs.YtlcpaebidnaolaaW.PrintLast Go.Proofs.Ytlcpaebidnaolaa.Base
set_option linter.unusedVariables false
set_option maxRecDepth 20000
section
variable (a : List Int) (b : Int) (c : List Int) (d : List (S113)) (e : List Int) (g : List (S113)) (h : List Int) (i : List (S113)) (j : List Int) (l : List (S113))
noncomputable def spec_GivenUp.l0v := Lim fun k => spec_GivenUp.l0 k a b c d e g
noncomputable def spec_GivenUp.fv := Lim fun k => spec_GivenUp.f k h i j l
theorem spec_GivenUp.l0_is : Is (fun k => spec_GivenUp.l0 k a b c d e g) (spec_GivenUp.l0v a b c d e g) := ⟨fun k => (spec_GivenUp.mono_l k) a b c d e g, rfl⟩
theorem spec_GivenUp.f_is : Is (fun k => spec_GivenUp.f k h i j l) (spec_GivenUp.fv h i j l) := ⟨fun k => spec_GivenUp.mono h i j l k, rfl⟩
theorem spec_GivenUp.l0v_eq : spec_GivenUp.l0v a b c d e g = if b < (d.length : Int) then (if 0 ≤ b then ((spec_ExtOf.fv g ((rd_T113 d b).f0)).bind fun t619 => (if t619 < 0 then ((spec_l1In.f ((rd_T113 d b).f0) 0 255).bind fun t621 => (if t621 = true then (if a.length < 17592186044416 then (spec_GivenUp.l0v (a ++ [wrap64 (1000 + ((rd_T113 d b).f0))]) (wrap64 (b + 1)) c d e g) else (none)) else (spec_GivenUp.l0v a (wrap64 (b + 1)) c d e g))) else (spec_GivenUp.l0v a (wrap64 (b + 1)) c d e g))) else (none)) else (some a) := by
  refine Is.step (spec_GivenUp.l0_is a b c d e g).mo (fun k => by rw [spec_GivenUp.l0]) ?_
  exact is2_ @spec_ExtOf.f_is @spec_GivenUp.l0_is
theorem spec_GivenUp.fv_eq : spec_GivenUp.fv h i j l = (spec_l21Left.fv h j).bind fun t615 => (spec_GivenUp.l0v t615 0 h i j l) := by
  refine Is.lim (g := fun k => spec_GivenUp.f k h i j l) ?_
  · unfold spec_GivenUp.f
    exact is2_ @spec_GivenUp.l0_is @spec_l21Left.f_is
end
section
variable (a : List Int) (b : List (S113)) (c : List (S89)) (d e : List Int) (g : Int)
noncomputable def spec_Dial.fv := Lim fun k => spec_Dial.f k a b c d e g
theorem spec_Dial.f_is : Is (fun k => spec_Dial.f k a b c d e g) (spec_Dial.fv a b c d e g) := ⟨fun k => spec_Dial.mono a b c d e g k, rfl⟩
theorem spec_Dial.fv_eq : spec_Dial.fv a b c d e g = (spec_HelloFor.fv a b c).bind fun bt628 => (if bt628.2.2.2 = true then ((spec_DialOnce.fv bt628.1 bt628.2.1 c d e g).bind fun bt637 => ((spec_GivenUp.fv a b bt628.1 bt628.2.1).bind fun t642 => (some (bt637.1, bt637.2.1, bt637.2.2, bt628.2.2.1, t642)))) else (some (false, 0, ([] : List Int), bt628.2.2.1, ([] : List Int)))) := by
  refine Is.lim (g := fun k => spec_Dial.f k a b c d e g) ?_
  · unfold spec_Dial.f
    exact is3_ @spec_DialOnce.f_is @spec_GivenUp.f_is @spec_HelloFor.f_is
end
end Go.Proofs.Ytlcpaebidnaolaa.Print

/- Written by a program of this session (limx.py): the equations of what the printed functions come to. No condition. -/
namespace Go.Proofs.Ytlcpaebidnaolaa.Print
open Go.RowKit Go.Proofs.YtlcpaebidnaolaaW.PrintWords Go.Proofs.YtlcpaebidnaolaaW.PrintLast Go.Proofs.Ytlcpaebidnaolaa.Base
set_option linter.unusedVariables false
set_option maxRecDepth 20000
section
variable (a : List (S113)) (b g : Int) (c : List Int) (d e h : Int) (i j : List Int) (l m : Int)
noncomputable def spec_l9Draw.l0v := Lim fun k => spec_l9Draw.l0 k a b c d e
noncomputable def spec_l9Draw.l1v := Lim fun k => spec_l9Draw.l1 k a b g c d e h i
noncomputable def spec_l9Draw.fv := Lim fun k => spec_l9Draw.f k j l m
theorem spec_l9Draw.l0_is : Is (fun k => spec_l9Draw.l0 k a b c d e) (spec_l9Draw.l0v a b c d e) := ⟨fun k => (spec_l9Draw.mono_l k).1 a b c d e, rfl⟩
theorem spec_l9Draw.l1_is : Is (fun k => spec_l9Draw.l1 k a b g c d e h i) (spec_l9Draw.l1v a b g c d e h i) := ⟨fun k => (spec_l9Draw.mono_l k).2 a b g c d e h i, rfl⟩
theorem spec_l9Draw.f_is : Is (fun k => spec_l9Draw.f k j l m) (spec_l9Draw.fv j l m) := ⟨fun k => spec_l9Draw.mono j l m k, rfl⟩
theorem spec_l9Draw.l0v_eq : spec_l9Draw.l0v a b c d e = if b > 0 then ((spec_l1Int.f c d e (([1, 2, 3, 10, 26, 40, 42, 200] : List Int))).bind fun bt711 => ((spec_l1Below.f c bt711.2.1 bt711.2.2 4).bind fun bt715 => (spec_l9Draw.l1v a b bt715.1 c bt715.2.1 bt715.2.2 bt711.1 ([] : List Int)))) else (some (a, d, e)) := by
  refine Is.step (spec_l9Draw.l0_is a b c d e).mo (fun k => by rw [spec_l9Draw.l0]) ?_
  exact is1_ @spec_l9Draw.l1_is
theorem spec_l9Draw.l1v_eq : spec_l9Draw.l1v a b g c d e h i = if g > 0 then ((spec_l1Below.f c d e 256).bind fun bt718 => (if i.length < 17592186044416 then (spec_l9Draw.l1v a b (wrap64 (g - 1)) c bt718.2.1 bt718.2.2 h (i ++ [bt718.1])) else (none))) else ((spec_ExtOf.fv a h).bind fun t724 => (if t724 < 0 then (if a.length < 4398046511104 then (spec_l9Draw.l0v (a ++ [(⟨h, i⟩ : S113)]) (wrap64 (b - 1)) c d e) else (none)) else (spec_l9Draw.l0v a (wrap64 (b - 1)) c d e))) := by
  refine Is.step (spec_l9Draw.l1_is a b g c d e h i).mo (fun k => by rw [spec_l9Draw.l1]) ?_
  exact is3_ @spec_ExtOf.f_is @spec_l9Draw.l0_is @spec_l9Draw.l1_is
theorem spec_l9Draw.fv_eq : spec_l9Draw.fv j l m = (spec_l1Below.f j l m 6).bind fun bt705 => (spec_l9Draw.l0v (([] : List (S113))) bt705.1 j bt705.2.1 bt705.2.2) := by
  refine Is.lim (g := fun k => spec_l9Draw.f k j l m) ?_
  · unfold spec_l9Draw.f
    exact is1_ @spec_l9Draw.l0_is
end
section
variable (a : List Int) (b c : Int)
noncomputable def spec_l17Draw.fv := Lim fun k => spec_l17Draw.f k a b c
theorem spec_l17Draw.f_is : Is (fun k => spec_l17Draw.f k a b c) (spec_l17Draw.fv a b c) := ⟨fun k => spec_l17Draw.mono a b c k, rfl⟩
theorem spec_l17Draw.fv_eq : spec_l17Draw.fv a b c = (spec_l12Draw.fv a b c).bind fun bt729 => ((spec_l9Draw.fv a bt729.2.1 bt729.2.2).bind fun bt734 => (some (bt729.1, bt734.1, bt734.2.1, bt734.2.2))) := by
  refine Is.lim (g := fun k => spec_l17Draw.f k a b c) ?_
  · unfold spec_l17Draw.f
    exact is2_ @spec_l12Draw.f_is @spec_l9Draw.f_is
end
section
variable (a : List Int) (b : Int) (c : List Int) (d e : Int) (g : List Int) (h i : Int)
noncomputable def spec_l17Tags.l0v := Lim fun k => spec_l17Tags.l0 k a b c d e
noncomputable def spec_l17Tags.fv := Lim fun k => spec_l17Tags.f k g h i
theorem spec_l17Tags.l0_is : Is (fun k => spec_l17Tags.l0 k a b c d e) (spec_l17Tags.l0v a b c d e) := ⟨fun k => (spec_l17Tags.mono_l k) a b c d e, rfl⟩
theorem spec_l17Tags.f_is : Is (fun k => spec_l17Tags.f k g h i) (spec_l17Tags.fv g h i) := ⟨fun k => spec_l17Tags.mono g h i k, rfl⟩
theorem spec_l17Tags.l0v_eq : spec_l17Tags.l0v a b c d e = if b > 0 then ((spec_l1Int.f c d e (([1, 2, 3, 10, 40, 200] : List Int))).bind fun bt748 => ((spec_l4Put.fv a bt748.1).bind fun t751 => (spec_l17Tags.l0v t751 (wrap64 (b - 1)) c bt748.2.1 bt748.2.2))) else (some (a, d, e)) := by
  refine Is.step (spec_l17Tags.l0_is a b c d e).mo (fun k => by rw [spec_l17Tags.l0]) ?_
  exact is2_ @spec_l17Tags.l0_is @spec_l4Put.f_is
theorem spec_l17Tags.fv_eq : spec_l17Tags.fv g h i = (spec_l1Below.f g h i 5).bind fun bt742 => (spec_l17Tags.l0v (([] : List Int)) bt742.1 g bt742.2.1 bt742.2.2) := by
  refine Is.lim (g := fun k => spec_l17Tags.f k g h i) ?_
  · unfold spec_l17Tags.f
    exact is1_ @spec_l17Tags.l0_is
end
section
variable (a : List Int) (b c : Int)
noncomputable def spec_l19Draw.fv := Lim fun k => spec_l19Draw.f k a b c
theorem spec_l19Draw.f_is : Is (fun k => spec_l19Draw.f k a b c) (spec_l19Draw.fv a b c) := ⟨fun k => spec_l19Draw.mono a b c k, rfl⟩
theorem spec_l19Draw.fv_eq : spec_l19Draw.fv a b c = (spec_l1Below.f a b c 7).bind fun bt756 => (if bt756.1 = 0 then ((spec_l1Below.f a bt756.2.1 bt756.2.2 6).bind fun bt759 => (some (wrap64 (1 + bt759.1), ([] : List Int), ([] : List Int), false, bt759.2.1, bt759.2.2))) else (if bt756.1 = 1 then ((spec_l17Tags.fv a bt756.2.1 bt756.2.2).bind fun bt762 => (some (0, bt762.1, ([] : List Int), false, bt762.2.1, bt762.2.2))) else (if bt756.1 = 2 then ((spec_l17Tags.fv a bt756.2.1 bt756.2.2).bind fun bt767 => (some (0, ([] : List Int), bt767.1, false, bt767.2.1, bt767.2.2))) else (if bt756.1 = 3 then (some (0, ([] : List Int), ([] : List Int), true, bt756.2.1, bt756.2.2)) else (some (0, ([] : List Int), ([] : List Int), false, bt756.2.1, bt756.2.2)))))) := by
  refine Is.lim (g := fun k => spec_l19Draw.f k a b c) ?_
  · unfold spec_l19Draw.f
    exact is1_ @spec_l17Tags.f_is
end
section
variable (a : List (S89)) (b : Int) (c : List Int) (d e : Int) (g : List Int) (h i : Int)
noncomputable def spec_l19Path.l0v := Lim fun k => spec_l19Path.l0 k a b c d e
noncomputable def spec_l19Path.fv := Lim fun k => spec_l19Path.f k g h i
theorem spec_l19Path.l0_is : Is (fun k => spec_l19Path.l0 k a b c d e) (spec_l19Path.l0v a b c d e) := ⟨fun k => (spec_l19Path.mono_l k) a b c d e, rfl⟩
theorem spec_l19Path.f_is : Is (fun k => spec_l19Path.f k g h i) (spec_l19Path.fv g h i) := ⟨fun k => spec_l19Path.mono g h i k, rfl⟩
theorem spec_l19Path.l0v_eq : spec_l19Path.l0v a b c d e = if b > 0 then ((spec_l19Draw.fv c d e).bind fun bt778 => (if a.length < 2199023255552 then (spec_l19Path.l0v (a ++ [(⟨bt778.1, bt778.2.1, bt778.2.2.1, bt778.2.2.2.1⟩ : S89)]) (wrap64 (b - 1)) c bt778.2.2.2.2.1 bt778.2.2.2.2.2) else (none))) else (some (a, d, e)) := by
  refine Is.step (spec_l19Path.l0_is a b c d e).mo (fun k => by rw [spec_l19Path.l0]) ?_
  exact is2_ @spec_l19Draw.f_is @spec_l19Path.l0_is
theorem spec_l19Path.fv_eq : spec_l19Path.fv g h i = (spec_l1Below.f g h i 4).bind fun bt775 => (spec_l19Path.l0v (([] : List (S89))) bt775.1 g bt775.2.1 bt775.2.2) := by
  refine Is.lim (g := fun k => spec_l19Path.f k g h i) ?_
  · unfold spec_l19Path.f
    exact is1_ @spec_l19Path.l0_is
end
section
variable (a : List (S50)) (b : Int) (c : List Int) (d e : Int) (g : List Int)
noncomputable def spec_DrawMaskedBy.l0v := Lim fun k => spec_DrawMaskedBy.l0 k a b c d e
noncomputable def spec_DrawMaskedBy.fv := Lim fun k => spec_DrawMaskedBy.f k g
theorem spec_DrawMaskedBy.l0_is : Is (fun k => spec_DrawMaskedBy.l0 k a b c d e) (spec_DrawMaskedBy.l0v a b c d e) := ⟨fun k => (spec_DrawMaskedBy.mono_l k) a b c d e, rfl⟩
theorem spec_DrawMaskedBy.f_is : Is (fun k => spec_DrawMaskedBy.f k g) (spec_DrawMaskedBy.fv g) := ⟨fun k => spec_DrawMaskedBy.mono g k, rfl⟩
theorem spec_DrawMaskedBy.l0v_eq : spec_DrawMaskedBy.l0v a b c d e = if b > 0 then ((spec_l17Draw.fv c d e).bind fun bt804 => ((spec_l19Path.fv c bt804.2.2.1 bt804.2.2.2).bind fun bt812 => ((spec_l12Draw.fv c bt812.2.1 bt812.2.2).bind fun bt817 => ((spec_Dial.fv bt804.1 bt804.2.1 bt812.1 bt817.1 ([] : List Int) 5).bind fun bt822 => (if a.length < 1954687338268 then (spec_DrawMaskedBy.l0v (a ++ [(⟨(⟨bt822.1, bt822.2.1, bt822.2.2.1⟩ : S48), bt822.2.2.2.1, bt822.2.2.2.2⟩ : S50)]) (wrap64 (b - 1)) c bt817.2.1 bt817.2.2) else (none)))))) else ((spec_l1Below.f c d e 6).bind fun bt801 => (some (a, wrap64 (1 + bt801.1)))) := by
  refine Is.step (spec_DrawMaskedBy.l0_is a b c d e).mo (fun k => by rw [spec_DrawMaskedBy.l0]) ?_
  exact is5_ @spec_Dial.f_is @spec_DrawMaskedBy.l0_is @spec_l12Draw.f_is @spec_l17Draw.f_is @spec_l19Path.f_is
theorem spec_DrawMaskedBy.fv_eq : spec_DrawMaskedBy.fv g = (spec_l1New.fv g).bind fun bt791 => ((spec_l1Below.f bt791.1 bt791.2.1 bt791.2.2 5).bind fun bt798 => (spec_DrawMaskedBy.l0v (([] : List (S50))) bt798.1 bt791.1 bt798.2.1 bt798.2.2)) := by
  refine Is.lim (g := fun k => spec_DrawMaskedBy.f k g) ?_
  · unfold spec_DrawMaskedBy.f
    exact is2_ @spec_DrawMaskedBy.l0_is @spec_l1New.f_is
end
end Go.Proofs.Ytlcpaebidnaolaa.Print

/- Written by a program of this session (limx.py): the equations of what the printed functions come to. No condition. -/
namespace Go.Proofs.Ytlcpaebidnaolaa.Print
open Go.RowKit Go.Proofs.YtlcpaebidnaolaaW.PrintWords Go.Proofs.YtlcpaebidnaolaaW.PrintLast Go.Proofs.Ytlcpaebidnaolaa.Base
set_option linter.unusedVariables false
set_option maxRecDepth 20000
section
variable (a : List Int) (b c : Bool) (d : List (S50)) (e g h i j : Int) (l : List Int)
noncomputable def laws_FnSignals.j0v := Lim fun k => laws_FnSignals.j0 k a b
noncomputable def laws_FnSignals.j1v := Lim fun k => laws_FnSignals.j1 k a c
noncomputable def laws_FnSignals.l0v := Lim fun k => laws_FnSignals.l0 k d e g h i j
noncomputable def laws_FnSignals.fv := Lim fun k => laws_FnSignals.f k l
theorem laws_FnSignals.j0_is : Is (fun k => laws_FnSignals.j0 k a b) (laws_FnSignals.j0v a b) := ⟨fun k => (laws_FnSignals.mono_l k).1 a b, rfl⟩
theorem laws_FnSignals.j1_is : Is (fun k => laws_FnSignals.j1 k a c) (laws_FnSignals.j1v a c) := ⟨fun k => (laws_FnSignals.mono_l k).2.1 a c, rfl⟩
theorem laws_FnSignals.l0_is : Is (fun k => laws_FnSignals.l0 k d e g h i j) (laws_FnSignals.l0v d e g h i j) := ⟨fun k => (laws_FnSignals.mono_l k).2.2 d e g h i j, rfl⟩
theorem laws_FnSignals.f_is : Is (fun k => laws_FnSignals.f k l) (laws_FnSignals.fv l) := ⟨fun k => laws_FnSignals.mono l k, rfl⟩
theorem laws_FnSignals.j0v_eq : laws_FnSignals.j0v a b = if b = true then (some false) else ((spec_DrawMostBad.fv a).bind fun bt849 => ((impl_MostBad.f bt849.1 bt849.2).bind fun t851 => (if t851 > 0 then (if t851 ≤ bt849.1 then ((impl_SignalOf.fv (wrap64 (bt849.1 - t851)) t851 bt849.1 bt849.2).bind fun t852 => (if t852 = 2 then ((impl_SignalOf.fv 0 t851 bt849.1 bt849.2).bind fun t853 => (laws_FnSignals.j1v a (t853 != 2))) else (laws_FnSignals.j1v a true))) else (laws_FnSignals.j1v a false)) else (laws_FnSignals.j1v a false)))) := by
  refine Is.step (laws_FnSignals.j0_is a b).mo (fun k => by rw [laws_FnSignals.j0]) ?_
  exact is3_ @impl_SignalOf.f_is @laws_FnSignals.j1_is @spec_DrawMostBad.f_is
theorem laws_FnSignals.j1v_eq : laws_FnSignals.j1v a c = if c = true then (some false) else ((spec_DrawMaskedBy.fv a).bind fun bt854 => ((impl_MaskedBy.fv bt854.1 bt854.2).bind fun bt858 => (laws_FnSignals.l0v bt854.1 bt854.2 bt858.1 bt858.2 0 0))) := by
  refine Is.step (laws_FnSignals.j1_is a c).mo (fun k => by rw [laws_FnSignals.j1]) ?_
  exact is3_ @impl_MaskedBy.f_is @laws_FnSignals.l0_is @spec_DrawMaskedBy.f_is
theorem laws_FnSignals.l0v_eq : laws_FnSignals.l0v d e g h i j = if j < (d.length : Int) then (if 0 ≤ j then (if (rd_T50 d j).f0.f0 = true then (if ((rd_T50 d j).f0.f1) < e then ((laws_contains.fv ((rd_T50 d j).f2) e).bind fun t863 => (if t863 = true then (laws_FnSignals.l0v d e g h (wrap64 (i + 1)) (wrap64 (j + 1))) else (laws_FnSignals.l0v d e g h i (wrap64 (j + 1))))) else (laws_FnSignals.l0v d e g h i (wrap64 (j + 1)))) else (laws_FnSignals.l0v d e g h i (wrap64 (j + 1)))) else (none)) else (if (wrap64 (g + h)) ≤ (d.length : Int) then (some (decide (h ≥ i))) else (some false)) := by
  refine Is.step (laws_FnSignals.l0_is d e g h i j).mo (fun k => by rw [laws_FnSignals.l0]) ?_
  exact is2_ @laws_FnSignals.l0_is @laws_contains.f_is
theorem laws_FnSignals.fv_eq : laws_FnSignals.fv l = (laws_big.f l).bind fun t842 => (if t842 = true then (some true) else ((spec_DrawSignalOf.fv l).bind fun bt843 => ((impl_SignalOf.fv bt843.1 bt843.2.1 bt843.2.2.1 bt843.2.2.2).bind fun t847 => ((impl_SignalName.f t847).bind fun t848 => (if t848.toList = ([] : List UInt8) then (laws_FnSignals.j0v l true) else (if t847 = 1 then (if (wrap64 (bt843.1 + bt843.2.1)) < bt843.2.2.1 then (laws_FnSignals.j0v l true) else (if (wrap64 (100 * bt843.2.1)) > (wrap64 (bt843.2.2.2 * (wrap64 (bt843.1 + bt843.2.1)))) then (laws_FnSignals.j0v l true) else (if t847 = 2 then (laws_FnSignals.j0v l (decide ((wrap64 (100 * bt843.2.1)) ≤ (wrap64 (bt843.2.2.2 * (wrap64 (bt843.1 + bt843.2.1))))))) else (laws_FnSignals.j0v l false)))) else (if t847 = 2 then (laws_FnSignals.j0v l (decide ((wrap64 (100 * bt843.2.1)) ≤ (wrap64 (bt843.2.2.2 * (wrap64 (bt843.1 + bt843.2.1))))))) else (laws_FnSignals.j0v l false)))))))) := by
  refine Is.lim (g := fun k => laws_FnSignals.f k l) ?_
  · unfold laws_FnSignals.f
    exact is3_ @impl_SignalOf.f_is @laws_FnSignals.j0_is @spec_DrawSignalOf.f_is
end
end Go.Proofs.Ytlcpaebidnaolaa.Print
