/- Written by a program of this session (merge.py): texts that the law's plain side leans on, laid together. No condition. -/
import Derived.Test.YtldcchjbaglppaaWWords
import Derived.Test.YtldcchjbaglppaaPrint1
import Derived.Test.YtldcchjbaglppaaPrint3
import Derived.Test.YtldcchjbaglppaaPrint2
import Derived.Test.YtldcchjbaglppaaPrint4
import Derived.Test.YtldcchjbaglppaaPrint5
import Derived.Test.YtldcchjbaglppaaPrint6
import Derived.Test.YtldcchjbaglppaaPrint7
import Derived.Test.YtldcchjbaglppaaPrint8
import Derived.Test.YtldcchjbaglppaaPrint9
import Derived.Test.YtldcchjbaglppaaPrint10
import Derived.Test.YtldcchjbaglppaaPrint12
import Derived.Test.YtldcchjbaglppaaPrint11
import Derived.Test.YtldcchjbaglppaaPrint13
import Derived.Test.YtldcchjbaglppaaPrint14
import Derived.Test.YtldcchjbaglppaaPrint15
import Derived.Test.YtldcchjbaglppaaPrint16
import Derived.Test.YtldcchjbaglppaaPrint17
import Derived.Test.YtldcchjbaglppaaPrint19
import Derived.Test.YtldcchjbaglppaaPrint18
import Derived.Test.YtldcchjbaglppaaPrint20
/- What a function with rounds comes to when it has rounds enough, as an option: its equations hold without rounds. No condition. -/
namespace Go.Proofs.Ytldcchjbaglppaa.Base
open Go.RowKit Go.Proofs.YtldcchjbaglppaaW.PrintWords

/-- More rounds tell the same. -/
def Mo {α : Type} (g : Nat → Option α) : Prop := ∀ k, LeO (g k) (g (k + 1))
theorem mo_le {α : Type} {g : Nat → Option α} (h : Mo g) {k k' : Nat} (hk : k ≤ k') {r : α} (hr : g k = some r) : g k' = some r := at_rounds h hk hr
open Classical in
/-- What it comes to at last: nothing, or one answer. -/
noncomputable def Lim {α : Type} (g : Nat → Option α) : Option α := if h : ∃ r, ∃ k, g k = some r then some (Classical.choose h) else none
theorem lim_some {α : Type} {g : Nat → Option α} (h : Mo g) {k : Nat} {r : α} (hr : g k = some r) : Lim g = some r := by
  have hx : ∃ r, ∃ k, g k = some r := ⟨r, k, hr⟩
  unfold Lim
  rw [dif_pos hx]
  obtain ⟨k', hk'⟩ := Classical.choose_spec hx
  have h1 := mo_le h (Nat.le_max_left k k') hr
  have h2 := mo_le h (Nat.le_max_right k k') hk'
  rw [h1] at h2
  exact h2.symm
theorem of_lim {α : Type} {g : Nat → Option α} {r : α} (h : Lim g = some r) : ∃ k, g k = some r := by
  unfold Lim at h
  split at h
  · rename_i hx
    obtain rfl := Option.some.inj h
    exact Classical.choose_spec hx
  · cases h
theorem lim_none {α : Type} {g : Nat → Option α} (h : Lim g = none) (k : Nat) : g k = none := by
  cases hk : g k with
  | none => rfl
  | some r =>
    unfold Lim at h
    rw [dif_pos ⟨r, k, hk⟩] at h
    cases h
theorem none_lim {α : Type} {g : Nat → Option α} (h : ∀ k, g k = none) : Lim g = none := by
  unfold Lim
  rw [dif_neg]
  rintro ⟨r, k, hk⟩
  rw [h k] at hk
  cases hk
structure Is {α : Type} (g : Nat → Option α) (v : Option α) : Prop where
  mo : Mo g
  lim : Lim g = v
theorem Is.now {α : Type} (v : Option α) : Is (fun _ => v) v := by
  refine ⟨fun _ => LeO.refl _, ?_⟩
  cases v with
  | none => exact none_lim fun _ => rfl
  | some r => exact lim_some (g := fun _ => some r) (fun _ => LeO.refl _) (k := 0) rfl
theorem Is.ite {α : Type} {c : Prop} [Decidable c] {g h : Nat → Option α} {a b : Option α} (hg : Is g a) (hh : Is h b) : Is (fun k => if c then g k else h k) (if c then a else b) := by
  by_cases hc : c
  · simp only [if_pos hc]
    exact hg
  · simp only [if_neg hc]
    exact hh
theorem Is.bind {α β : Type} {g : Nat → Option α} {f : Nat → α → Option β} {a : Option α} {b : α → Option β} (hg : Is g a) (hf : ∀ x, Is (fun k => f k x) (b x)) : Is (fun k => (g k).bind (f k)) (a.bind b) := by
  have hm : Mo (fun k => (g k).bind (f k)) := fun k => LeO.bind (hg.mo k) (fun x => (hf x).mo k)
  refine ⟨hm, ?_⟩
  cases ha : a with
  | none =>
    refine none_lim fun k => ?_
    rw [lim_none (hg.lim.trans ha) k]
    rfl
  | some x =>
    obtain ⟨k, hk⟩ := of_lim (hg.lim.trans ha)
    show _ = b x
    cases hb : b x with
    | none =>
      refine none_lim fun k' => ?_
      cases hx : (g k').bind (f k') with
      | none => rfl
      | some r =>
        have h1 := mo_le hm (Nat.le_max_left k' k) hx
        have h2 := mo_le hg.mo (Nat.le_max_right k' k) hk
        simp only [h2, Option.bind_some] at h1
        rw [lim_none ((hf x).lim.trans hb)] at h1
        cases h1
    | some r =>
      obtain ⟨k', hk'⟩ := of_lim ((hf x).lim.trans hb)
      refine lim_some hm (k := max k k') ?_
      simp only [mo_le hg.mo (Nat.le_max_left k k') hk, Option.bind_some]
      exact mo_le (hf x).mo (Nat.le_max_right k k') hk'
theorem Is.step {α : Type} {g b : Nat → Option α} {v : Option α} (hg : Mo g) (h : ∀ k, g (k + 1) = b k) (hb : Is b v) : Lim g = v := by
  rw [← hb.lim]
  cases hx : Lim g with
  | none =>
    symm
    refine none_lim fun k => ?_
    rw [← h k]
    exact lim_none hx _
  | some r =>
    obtain ⟨k, hk⟩ := of_lim hx
    symm
    refine lim_some hb.mo (k := k) ?_
    rw [← h k]
    exact mo_le hg (Nat.le_succ k) hk
theorem ends {α : Type} {g : Nat → Option α} {r : α} (h : Lim g = some r) : ∃ k, g k = some r := of_lim h
theorem is0_ {q : Prop} (e : q := by repeat' first | with_reducible exact Is.now _ | with_reducible refine Is.ite ?_ ?_ | with_reducible refine Is.bind ?_ (fun _ => ?_)) : q := e
theorem is1_ {q p0 : Prop} (h0_ : p0) (e : p0 → q := by intro h0_; repeat' first | (with_reducible apply h0_) | with_reducible exact Is.now _ | with_reducible refine Is.ite ?_ ?_ | with_reducible refine Is.bind ?_ (fun _ => ?_)) : q := e h0_
theorem is2_ {q p0 p1 : Prop} (h0_ : p0) (h1_ : p1) (e : p0 → p1 → q := by intro h0_ h1_; repeat' first | (with_reducible apply h0_) | (with_reducible apply h1_) | with_reducible exact Is.now _ | with_reducible refine Is.ite ?_ ?_ | with_reducible refine Is.bind ?_ (fun _ => ?_)) : q := e h0_ h1_
theorem is3_ {q p0 p1 p2 : Prop} (h0_ : p0) (h1_ : p1) (h2_ : p2) (e : p0 → p1 → p2 → q := by intro h0_ h1_ h2_; repeat' first | (with_reducible apply h0_) | (with_reducible apply h1_) | (with_reducible apply h2_) | with_reducible exact Is.now _ | with_reducible refine Is.ite ?_ ?_ | with_reducible refine Is.bind ?_ (fun _ => ?_)) : q := e h0_ h1_ h2_
theorem is4_ {q p0 p1 p2 p3 : Prop} (h0_ : p0) (h1_ : p1) (h2_ : p2) (h3_ : p3) (e : p0 → p1 → p2 → p3 → q := by intro h0_ h1_ h2_ h3_; repeat' first | (with_reducible apply h0_) | (with_reducible apply h1_) | (with_reducible apply h2_) | (with_reducible apply h3_) | with_reducible exact Is.now _ | with_reducible refine Is.ite ?_ ?_ | with_reducible refine Is.bind ?_ (fun _ => ?_)) : q := e h0_ h1_ h2_ h3_
theorem is5_ {q p0 p1 p2 p3 p4 : Prop} (h0_ : p0) (h1_ : p1) (h2_ : p2) (h3_ : p3) (h4_ : p4) (e : p0 → p1 → p2 → p3 → p4 → q := by intro h0_ h1_ h2_ h3_ h4_; repeat' first | (with_reducible apply h0_) | (with_reducible apply h1_) | (with_reducible apply h2_) | (with_reducible apply h3_) | (with_reducible apply h4_) | with_reducible exact Is.now _ | with_reducible refine Is.ite ?_ ?_ | with_reducible refine Is.bind ?_ (fun _ => ?_)) : q := e h0_ h1_ h2_ h3_ h4_
theorem is6_ {q p0 p1 p2 p3 p4 p5 : Prop} (h0_ : p0) (h1_ : p1) (h2_ : p2) (h3_ : p3) (h4_ : p4) (h5_ : p5) (e : p0 → p1 → p2 → p3 → p4 → p5 → q := by intro h0_ h1_ h2_ h3_ h4_ h5_; repeat' first | (with_reducible apply h0_) | (with_reducible apply h1_) | (with_reducible apply h2_) | (with_reducible apply h3_) | (with_reducible apply h4_) | (with_reducible apply h5_) | with_reducible exact Is.now _ | with_reducible refine Is.ite ?_ ?_ | with_reducible refine Is.bind ?_ (fun _ => ?_)) : q := e h0_ h1_ h2_ h3_ h4_ h5_
theorem is7_ {q p0 p1 p2 p3 p4 p5 p6 : Prop} (h0_ : p0) (h1_ : p1) (h2_ : p2) (h3_ : p3) (h4_ : p4) (h5_ : p5) (h6_ : p6) (e : p0 → p1 → p2 → p3 → p4 → p5 → p6 → q := by intro h0_ h1_ h2_ h3_ h4_ h5_ h6_; repeat' first | (with_reducible apply h0_) | (with_reducible apply h1_) | (with_reducible apply h2_) | (with_reducible apply h3_) | (with_reducible apply h4_) | (with_reducible apply h5_) | (with_reducible apply h6_) | with_reducible exact Is.now _ | with_reducible refine Is.ite ?_ ?_ | with_reducible refine Is.bind ?_ (fun _ => ?_)) : q := e h0_ h1_ h2_ h3_ h4_ h5_ h6_
theorem is8_ {q p0 p1 p2 p3 p4 p5 p6 p7 : Prop} (h0_ : p0) (h1_ : p1) (h2_ : p2) (h3_ : p3) (h4_ : p4) (h5_ : p5) (h6_ : p6) (h7_ : p7) (e : p0 → p1 → p2 → p3 → p4 → p5 → p6 → p7 → q := by intro h0_ h1_ h2_ h3_ h4_ h5_ h6_ h7_; repeat' first | (with_reducible apply h0_) | (with_reducible apply h1_) | (with_reducible apply h2_) | (with_reducible apply h3_) | (with_reducible apply h4_) | (with_reducible apply h5_) | (with_reducible apply h6_) | (with_reducible apply h7_) | with_reducible exact Is.now _ | with_reducible refine Is.ite ?_ ?_ | with_reducible refine Is.bind ?_ (fun _ => ?_)) : q := e h0_ h1_ h2_ h3_ h4_ h5_ h6_ h7_
end Go.Proofs.Ytldcchjbaglppaa.Base

/- Written by a program of this session (limx.py): the equations of what the printed functions come to. No condition. -/
namespace Go.Proofs.Ytldcchjbaglppaa.Print
open Go.RowKit Go.Proofs.YtldcchjbaglppaaW.PrintWords Go.Proofs.YtldcchjbaglppaaW.PrintLast Go.Proofs.Ytldcchjbaglppaa.Base
set_option linter.unusedVariables false
set_option maxRecDepth 20000
noncomputable def impl_IsMachine.j0v (o : Bool) (p : Int) (q : List Bool) (r : List (S78)) : Option (Bool) := Lim fun k => impl_IsMachine.j0 k o p q r
noncomputable def impl_IsMachine.l0v (p : List (S78)) (s : Int) (r : Int) (q : Int) (o : List Bool) (t : List (S78)) : Option (Bool) := Lim fun k => impl_IsMachine.l0 k p s r q o t
noncomputable def impl_IsMachine.j2v (u : Int) (v : List (S78)) (w : Int) (x : Int) (y : Bool) (p : Int) (q : List Bool) (r : List (S78)) (o : Int) (t : Bool) (z : Int) (s : Int) : Option (Bool) := Lim fun k => impl_IsMachine.j2 k u v w x y p q r o t z s
noncomputable def impl_IsMachine.l1v (w : List (S78)) (x : Int) (u : Int) (v : List (S78)) (y : Int) (A : Int) (r : Int) (p : List Bool) (q : List (S78)) (o : Int) (t : Bool) (z : Int) (s : Int) : Option (Bool) := Lim fun k => impl_IsMachine.l1 k w x u v y A r p q o t z s
noncomputable def impl_IsMachine.fv (r : Int) (p : List Bool) (q : List (S78)) : Option (Bool) := Lim fun k => impl_IsMachine.f k r p q
theorem impl_IsMachine.j0_is (o : Bool) (p : Int) (q : List Bool) (r : List (S78)) : Is (fun k => impl_IsMachine.j0 k o p q r) (impl_IsMachine.j0v o p q r) := ⟨fun k => (impl_IsMachine.mono_l k).1 o p q r, rfl⟩
theorem impl_IsMachine.l0_is (p : List (S78)) (s : Int) (r : Int) (q : Int) (o : List Bool) (t : List (S78)) : Is (fun k => impl_IsMachine.l0 k p s r q o t) (impl_IsMachine.l0v p s r q o t) := ⟨fun k => (impl_IsMachine.mono_l k).2.1 p s r q o t, rfl⟩
theorem impl_IsMachine.j2_is (u : Int) (v : List (S78)) (w : Int) (x : Int) (y : Bool) (p : Int) (q : List Bool) (r : List (S78)) (o : Int) (t : Bool) (z : Int) (s : Int) : Is (fun k => impl_IsMachine.j2 k u v w x y p q r o t z s) (impl_IsMachine.j2v u v w x y p q r o t z s) := ⟨fun k => (impl_IsMachine.mono_l k).2.2.1 u v w x y p q r o t z s, rfl⟩
theorem impl_IsMachine.l1_is (w : List (S78)) (x : Int) (u : Int) (v : List (S78)) (y : Int) (A : Int) (r : Int) (p : List Bool) (q : List (S78)) (o : Int) (t : Bool) (z : Int) (s : Int) : Is (fun k => impl_IsMachine.l1 k w x u v y A r p q o t z s) (impl_IsMachine.l1v w x u v y A r p q o t z s) := ⟨fun k => (impl_IsMachine.mono_l k).2.2.2 w x u v y A r p q o t z s, rfl⟩
theorem impl_IsMachine.f_is (r : Int) (p : List Bool) (q : List (S78)) : Is (fun k => impl_IsMachine.f k r p q) (impl_IsMachine.fv r p q) := ⟨fun k => impl_IsMachine.mono r p q k, rfl⟩
theorem impl_IsMachine.j0v_eq (o : Bool) (p : Int) (q : List Bool) (r : List (S78)) : impl_IsMachine.j0v o p q r = if o = true then (some false) else (impl_IsMachine.l0v r (r.length : Int) 0 p q r) := by
  refine Is.step (impl_IsMachine.j0_is o p q r).mo (fun k => by rw [impl_IsMachine.j0]) ?_
  exact is1_ @impl_IsMachine.l0_is
theorem impl_IsMachine.l0v_eq (p : List (S78)) (s : Int) (r : Int) (q : Int) (o : List Bool) (t : List (S78)) : impl_IsMachine.l0v p s r q o t = if r < s then (if 0 ≤ r then (if r < (p.length : Int) then ((impl_InRange.f ((rd_T78 p r).f0) 0 (wrap64 (q - 1))).bind fun A => (if A = true then ((impl_InRange.f ((rd_T78 p r).f3) 0 (wrap64 (q - 1))).bind fun v => (if v = true then ((impl_InRange.f ((rd_T78 p r).f2) 0 5).bind fun w => (impl_IsMachine.j2v r p s r (!w) q o t ((rd_T78 p r).f0) ((rd_T78 p r).f1) ((rd_T78 p r).f2) ((rd_T78 p r).f3))) else (impl_IsMachine.j2v r p s r true q o t ((rd_T78 p r).f0) ((rd_T78 p r).f1) ((rd_T78 p r).f2) ((rd_T78 p r).f3)))) else (impl_IsMachine.j2v r p s r true q o t ((rd_T78 p r).f0) ((rd_T78 p r).f1) ((rd_T78 p r).f2) ((rd_T78 p r).f3)))) else (none)) else (none)) else (some true) := by
  refine Is.step (impl_IsMachine.l0_is p s r q o t).mo (fun k => by rw [impl_IsMachine.l0]) ?_
  exact is1_ @impl_IsMachine.j2_is
theorem impl_IsMachine.j2v_eq (u : Int) (v : List (S78)) (w : Int) (x : Int) (y : Bool) (p : Int) (q : List Bool) (r : List (S78)) (o : Int) (t : Bool) (z : Int) (s : Int) : impl_IsMachine.j2v u v w x y p q r o t z s = if y = true then (some false) else (if 0 ≤ u then (if u ≤ (r.length : Int) then ((some (r.take (u : Int).toNat : List (S78))).bind fun A => (impl_IsMachine.l1v v w x A (A.length : Int) 0 p q r o t z s)) else (none)) else (none)) := by
  refine Is.step (impl_IsMachine.j2_is u v w x y p q r o t z s).mo (fun k => by rw [impl_IsMachine.j2]) ?_
  exact is1_ @impl_IsMachine.l1_is
theorem impl_IsMachine.l1v_eq (w : List (S78)) (x : Int) (u : Int) (v : List (S78)) (y : Int) (A : Int) (r : Int) (p : List Bool) (q : List (S78)) (o : Int) (t : Bool) (z : Int) (s : Int) : impl_IsMachine.l1v w x u v y A r p q o t z s = if A < y then (if 0 ≤ A then (if A < (v.length : Int) then (if ((rd_T78 v A).f0) = o then (if (((rd_T78 v A).f1) != t) = true then (some false) else (if ((rd_T78 v A).f2) = z then (some false) else (impl_IsMachine.l1v w x u v y (wrap64 (A + 1)) r p q o t z s))) else (impl_IsMachine.l1v w x u v y (wrap64 (A + 1)) r p q o t z s)) else (none)) else (none)) else (impl_IsMachine.l0v w x (wrap64 (u + 1)) r p q) := by
  refine Is.step (impl_IsMachine.l1_is w x u v y A r p q o t z s).mo (fun k => by rw [impl_IsMachine.l1]) ?_
  exact is2_ @impl_IsMachine.l0_is @impl_IsMachine.l1_is
theorem impl_IsMachine.fv_eq (r : Int) (p : List Bool) (q : List (S78)) : impl_IsMachine.fv r p q = (impl_InRange.f r 1 6).bind fun o => (if o = true then (if (p.length : Int) = r then (impl_IsMachine.j0v (decide ((q.length : Int) > 12)) r p q) else (impl_IsMachine.j0v true r p q)) else (impl_IsMachine.j0v true r p q)) := by
  refine Is.lim (g := fun k => impl_IsMachine.f k r p q) ?_
  · unfold impl_IsMachine.f
    exact is1_ @impl_IsMachine.j0_is
noncomputable def slices_Equal_int_int.l0v (e : List Int) (f : List Int) (g : Int) (h : Int) : Option (Bool) := Lim fun k => slices_Equal_int_int.l0 k e f g h
noncomputable def slices_Equal_int_int.fv (h : List Int) (g : List Int) : Option (Bool) := Lim fun k => slices_Equal_int_int.f k h g
theorem slices_Equal_int_int.l0_is (e : List Int) (f : List Int) (g : Int) (h : Int) : Is (fun k => slices_Equal_int_int.l0 k e f g h) (slices_Equal_int_int.l0v e f g h) := ⟨fun k => (slices_Equal_int_int.mono_l k) e f g h, rfl⟩
theorem slices_Equal_int_int.f_is (h : List Int) (g : List Int) : Is (fun k => slices_Equal_int_int.f k h g) (slices_Equal_int_int.fv h g) := ⟨fun k => slices_Equal_int_int.mono h g k, rfl⟩
theorem slices_Equal_int_int.l0v_eq (e : List Int) (f : List Int) (g : Int) (h : Int) : slices_Equal_int_int.l0v e f g h = if h < g then (if 0 ≤ h then (if h < (e.length : Int) then (if h < (f.length : Int) then (if (rd e h) = (rd f h) then (slices_Equal_int_int.l0v e f g (wrap64 (h + 1))) else (some false)) else (none)) else (none)) else (none)) else (some true) := by
  refine Is.step (slices_Equal_int_int.l0_is e f g h).mo (fun k => by rw [slices_Equal_int_int.l0]) ?_
  exact is1_ @slices_Equal_int_int.l0_is
theorem slices_Equal_int_int.fv_eq (h : List Int) (g : List Int) : slices_Equal_int_int.fv h g = if (h.length : Int) = (g.length : Int) then (slices_Equal_int_int.l0v h g (h.length : Int) 0) else (some false) := by
  refine Is.lim (g := fun k => slices_Equal_int_int.f k h g) ?_
  · unfold slices_Equal_int_int.f
    exact is1_ @slices_Equal_int_int.l0_is
end Go.Proofs.Ytldcchjbaglppaa.Print

/- Written by a program of this session (limx.py): the equations of what the printed functions come to. No condition. -/
namespace Go.Proofs.Ytldcchjbaglppaa.Print
open Go.RowKit Go.Proofs.YtldcchjbaglppaaW.PrintWords Go.Proofs.YtldcchjbaglppaaW.PrintLast Go.Proofs.Ytldcchjbaglppaa.Base
set_option linter.unusedVariables false
set_option maxRecDepth 20000
noncomputable def slices_IndexFunc_impl_Move_impl_Move_with_impl_MoveOf_1.l0v (i : List (S78)) (j : Int) (l : Int) (m : Int) (n : Bool) (o : Int) : Option (Int) := Lim fun k => slices_IndexFunc_impl_Move_impl_Move_with_impl_MoveOf_1.l0 k i j l m n o
noncomputable def slices_IndexFunc_impl_Move_impl_Move_with_impl_MoveOf_1.fv (l : List (S78)) (m : Int) (n : Bool) (o : Int) : Option (Int) := Lim fun k => slices_IndexFunc_impl_Move_impl_Move_with_impl_MoveOf_1.f k l m n o
theorem slices_IndexFunc_impl_Move_impl_Move_with_impl_MoveOf_1.l0_is (i : List (S78)) (j : Int) (l : Int) (m : Int) (n : Bool) (o : Int) : Is (fun k => slices_IndexFunc_impl_Move_impl_Move_with_impl_MoveOf_1.l0 k i j l m n o) (slices_IndexFunc_impl_Move_impl_Move_with_impl_MoveOf_1.l0v i j l m n o) := ⟨fun k => (slices_IndexFunc_impl_Move_impl_Move_with_impl_MoveOf_1.mono_l k) i j l m n o, rfl⟩
theorem slices_IndexFunc_impl_Move_impl_Move_with_impl_MoveOf_1.f_is (l : List (S78)) (m : Int) (n : Bool) (o : Int) : Is (fun k => slices_IndexFunc_impl_Move_impl_Move_with_impl_MoveOf_1.f k l m n o) (slices_IndexFunc_impl_Move_impl_Move_with_impl_MoveOf_1.fv l m n o) := ⟨fun k => slices_IndexFunc_impl_Move_impl_Move_with_impl_MoveOf_1.mono l m n o k, rfl⟩
theorem slices_IndexFunc_impl_Move_impl_Move_with_impl_MoveOf_1.l0v_eq (i : List (S78)) (j : Int) (l : Int) (m : Int) (n : Bool) (o : Int) : slices_IndexFunc_impl_Move_impl_Move_with_impl_MoveOf_1.l0v i j l m n o = if l < j then (if 0 ≤ l then (if l < (i.length : Int) then ((impl_MoveOf_1.f ((rd_T78 i l).f0) ((rd_T78 i l).f1) ((rd_T78 i l).f2) ((rd_T78 i l).f3) m n o).bind fun g => (if g = true then (some l) else (slices_IndexFunc_impl_Move_impl_Move_with_impl_MoveOf_1.l0v i j (wrap64 (l + 1)) m n o))) else (none)) else (none)) else (some (-1)) := by
  refine Is.step (slices_IndexFunc_impl_Move_impl_Move_with_impl_MoveOf_1.l0_is i j l m n o).mo (fun k => by rw [slices_IndexFunc_impl_Move_impl_Move_with_impl_MoveOf_1.l0]) ?_
  exact is1_ @slices_IndexFunc_impl_Move_impl_Move_with_impl_MoveOf_1.l0_is
theorem slices_IndexFunc_impl_Move_impl_Move_with_impl_MoveOf_1.fv_eq (l : List (S78)) (m : Int) (n : Bool) (o : Int) : slices_IndexFunc_impl_Move_impl_Move_with_impl_MoveOf_1.fv l m n o = slices_IndexFunc_impl_Move_impl_Move_with_impl_MoveOf_1.l0v l (l.length : Int) 0 m n o := by
  refine Is.lim (g := fun k => slices_IndexFunc_impl_Move_impl_Move_with_impl_MoveOf_1.f k l m n o) ?_
  · unfold slices_IndexFunc_impl_Move_impl_Move_with_impl_MoveOf_1.f
    exact is1_ @slices_IndexFunc_impl_Move_impl_Move_with_impl_MoveOf_1.l0_is
section
variable (i : Int) (j : List Bool) (l : List (S78)) (m : Int) (n : Bool) (o : Int)
noncomputable def impl_MoveOf.fv := Lim fun k => impl_MoveOf.f k i j l m n o
theorem impl_MoveOf.f_is : Is (fun k => impl_MoveOf.f k i j l m n o) (impl_MoveOf.fv i j l m n o) := ⟨fun k => impl_MoveOf.mono i j l m n o k, rfl⟩
theorem impl_MoveOf.fv_eq : impl_MoveOf.fv i j l m n o = (slices_IndexFunc_impl_Move_impl_Move_with_impl_MoveOf_1.fv l m n o).bind fun b => (some b) := by
  refine Is.lim (g := fun k => impl_MoveOf.f k i j l m n o) ?_
  · unfold impl_MoveOf.f
    exact is1_ @slices_IndexFunc_impl_Move_impl_Move_with_impl_MoveOf_1.f_is
end
end Go.Proofs.Ytldcchjbaglppaa.Print

/- Written by a program of this session (limx.py): the equations of what the printed functions come to. No condition. -/
namespace Go.Proofs.Ytldcchjbaglppaa.Print
open Go.RowKit Go.Proofs.YtldcchjbaglppaaW.PrintWords Go.Proofs.YtldcchjbaglppaaW.PrintLast Go.Proofs.Ytldcchjbaglppaa.Base
set_option linter.unusedVariables false
set_option maxRecDepth 20000
noncomputable def slices_insertionSortOrdered_int.l0v (h : List Int) (i : Int) (j : Int) (l : Int) : Option (List Int) := Lim fun k => slices_insertionSortOrdered_int.l0 k h i j l
noncomputable def slices_insertionSortOrdered_int.l1v (h : List Int) (i : Int) (m : Int) (n : Int) (l : Int) : Option (List Int) := Lim fun k => slices_insertionSortOrdered_int.l1 k h i m n l
noncomputable def slices_insertionSortOrdered_int.fv (j : List Int) (l : Int) (h : Int) : Option (List Int) := Lim fun k => slices_insertionSortOrdered_int.f k j l h
theorem slices_insertionSortOrdered_int.l0_is (h : List Int) (i : Int) (j : Int) (l : Int) : Is (fun k => slices_insertionSortOrdered_int.l0 k h i j l) (slices_insertionSortOrdered_int.l0v h i j l) := ⟨fun k => (slices_insertionSortOrdered_int.mono_l k).1 h i j l, rfl⟩
theorem slices_insertionSortOrdered_int.l1_is (h : List Int) (i : Int) (m : Int) (n : Int) (l : Int) : Is (fun k => slices_insertionSortOrdered_int.l1 k h i m n l) (slices_insertionSortOrdered_int.l1v h i m n l) := ⟨fun k => (slices_insertionSortOrdered_int.mono_l k).2 h i m n l, rfl⟩
theorem slices_insertionSortOrdered_int.f_is (j : List Int) (l : Int) (h : Int) : Is (fun k => slices_insertionSortOrdered_int.f k j l h) (slices_insertionSortOrdered_int.fv j l h) := ⟨fun k => slices_insertionSortOrdered_int.mono j l h k, rfl⟩
theorem slices_insertionSortOrdered_int.l0v_eq (h : List Int) (i : Int) (j : Int) (l : Int) : slices_insertionSortOrdered_int.l0v h i j l = if l < j then (slices_insertionSortOrdered_int.l1v h i j l l) else (some h) := by
  refine Is.step (slices_insertionSortOrdered_int.l0_is h i j l).mo (fun k => by rw [slices_insertionSortOrdered_int.l0]) ?_
  exact is1_ @slices_insertionSortOrdered_int.l1_is
theorem slices_insertionSortOrdered_int.l1v_eq (h : List Int) (i : Int) (m : Int) (n : Int) (l : Int) : slices_insertionSortOrdered_int.l1v h i m n l = if l > i then (if 0 ≤ l then (if l < (h.length : Int) then (if 0 ≤ (wrap64 (l - 1)) then (if (wrap64 (l - 1)) < (h.length : Int) then ((cmp_Less_int.f (rd h l) (rd h (wrap64 (l - 1)))).bind fun j => (if j = true then (slices_insertionSortOrdered_int.l1v ((h.set (l : Int).toNat (rd h (wrap64 (l - 1)))).set ((wrap64 (l - 1)) : Int).toNat (rd h l)) i m n (wrap64 (l - 1))) else (slices_insertionSortOrdered_int.l0v h i m (wrap64 (n + 1))))) else (none)) else (none)) else (none)) else (none)) else (slices_insertionSortOrdered_int.l0v h i m (wrap64 (n + 1))) := by
  refine Is.step (slices_insertionSortOrdered_int.l1_is h i m n l).mo (fun k => by rw [slices_insertionSortOrdered_int.l1]) ?_
  exact is2_ @slices_insertionSortOrdered_int.l0_is @slices_insertionSortOrdered_int.l1_is
theorem slices_insertionSortOrdered_int.fv_eq (j : List Int) (l : Int) (h : Int) : slices_insertionSortOrdered_int.fv j l h = slices_insertionSortOrdered_int.l0v j l h (wrap64 (l + 1)) := by
  refine Is.lim (g := fun k => slices_insertionSortOrdered_int.f k j l h) ?_
  · unfold slices_insertionSortOrdered_int.f
    exact is1_ @slices_insertionSortOrdered_int.l0_is
section
variable (h : List Int) (n i j l : Int) (m : Bool)
noncomputable def slices_pdqsortOrdered_int.l0v := Lim fun k => slices_pdqsortOrdered_int.l0 k h i j l m
noncomputable def slices_pdqsortOrdered_int.fv := Lim fun k => slices_pdqsortOrdered_int.f k h n i j
theorem slices_pdqsortOrdered_int.l0_is : Is (fun k => slices_pdqsortOrdered_int.l0 k h i j l m) (slices_pdqsortOrdered_int.l0v h i j l m) := ⟨fun k => (slices_pdqsortOrdered_int.mono_l k) h i j l m, rfl⟩
theorem slices_pdqsortOrdered_int.f_is : Is (fun k => slices_pdqsortOrdered_int.f k h n i j) (slices_pdqsortOrdered_int.fv h n i j) := ⟨fun k => slices_pdqsortOrdered_int.mono h n i j k, rfl⟩
theorem slices_pdqsortOrdered_int.l0v_eq : slices_pdqsortOrdered_int.l0v h i j l m = if (wrap64 (j - i)) ≤ 12 then ((slices_insertionSortOrdered_int.fv h i j).bind fun n => (some n)) else (if l = 0 then (none) else (if m = true then (none) else (none))) := by
  refine Is.step (slices_pdqsortOrdered_int.l0_is h i j l m).mo (fun k => by rw [slices_pdqsortOrdered_int.l0]) ?_
  exact is1_ @slices_insertionSortOrdered_int.f_is
theorem slices_pdqsortOrdered_int.fv_eq : slices_pdqsortOrdered_int.fv h n i j = slices_pdqsortOrdered_int.l0v h n i j true := by
  refine Is.lim (g := fun k => slices_pdqsortOrdered_int.f k h n i j) ?_
  · unfold slices_pdqsortOrdered_int.f
    exact is1_ @slices_pdqsortOrdered_int.l0_is
end
section
variable (d : List Int)
noncomputable def slices_Sort_int_int.fv := Lim fun k => slices_Sort_int_int.f k d
theorem slices_Sort_int_int.f_is : Is (fun k => slices_Sort_int_int.f k d) (slices_Sort_int_int.fv d) := ⟨fun k => slices_Sort_int_int.mono d k, rfl⟩
theorem slices_Sort_int_int.fv_eq : slices_Sort_int_int.fv d = (bits_Len.f (IntKind.u64.wrap ((d.length : Int)))).bind fun a => ((slices_pdqsortOrdered_int.fv d 0 (d.length : Int) a).bind fun b => (some b)) := by
  refine Is.lim (g := fun k => slices_Sort_int_int.f k d) ?_
  · unfold slices_Sort_int_int.f
    exact is1_ @slices_pdqsortOrdered_int.f_is
end
noncomputable def slices_Compact_int_int.l0v (c : List Int) (d : Int) : Option (List Int) := Lim fun k => slices_Compact_int_int.l0 k c d
noncomputable def slices_Compact_int_int.fv (d : List Int) : Option (List Int) := Lim fun k => slices_Compact_int_int.f k d
theorem slices_Compact_int_int.l0_is (c : List Int) (d : Int) : Is (fun k => slices_Compact_int_int.l0 k c d) (slices_Compact_int_int.l0v c d) := ⟨fun k => (slices_Compact_int_int.mono_l k) c d, rfl⟩
theorem slices_Compact_int_int.f_is (d : List Int) : Is (fun k => slices_Compact_int_int.f k d) (slices_Compact_int_int.fv d) := ⟨fun k => slices_Compact_int_int.mono d k, rfl⟩
theorem slices_Compact_int_int.l0v_eq (c : List Int) (d : Int) : slices_Compact_int_int.l0v c d = if d < (c.length : Int) then (if 0 ≤ d then (if 0 ≤ (wrap64 (d - 1)) then (if (wrap64 (d - 1)) < (c.length : Int) then (if (rd c d) = (rd c (wrap64 (d - 1))) then (none) else (slices_Compact_int_int.l0v c (wrap64 (d + 1)))) else (none)) else (none)) else (none)) else (some c) := by
  refine Is.step (slices_Compact_int_int.l0_is c d).mo (fun k => by rw [slices_Compact_int_int.l0]) ?_
  exact is1_ @slices_Compact_int_int.l0_is
theorem slices_Compact_int_int.fv_eq (d : List Int) : slices_Compact_int_int.fv d = if (d.length : Int) < 2 then (some d) else (slices_Compact_int_int.l0v d 1) := by
  refine Is.lim (g := fun k => slices_Compact_int_int.f k d) ?_
  · unfold slices_Compact_int_int.f
    exact is1_ @slices_Compact_int_int.l0_is
noncomputable def impl_MovesFrom.l0v (j : Int) (l : Bool) (m : List Int) (n : List (S78)) (o : Int) (p : Int) : Option (List Int) := Lim fun k => impl_MovesFrom.l0 k j l m n o p
noncomputable def impl_MovesFrom.fv (n : Int) (o : List Bool) (p : List (S78)) (q : Int) (r : Bool) : Option (List Int) := Lim fun k => impl_MovesFrom.f k n o p q r
theorem impl_MovesFrom.l0_is (j : Int) (l : Bool) (m : List Int) (n : List (S78)) (o : Int) (p : Int) : Is (fun k => impl_MovesFrom.l0 k j l m n o p) (impl_MovesFrom.l0v j l m n o p) := ⟨fun k => (impl_MovesFrom.mono_l k) j l m n o p, rfl⟩
theorem impl_MovesFrom.f_is (n : Int) (o : List Bool) (p : List (S78)) (q : Int) (r : Bool) : Is (fun k => impl_MovesFrom.f k n o p q r) (impl_MovesFrom.fv n o p q r) := ⟨fun k => impl_MovesFrom.mono n o p q r k, rfl⟩
theorem impl_MovesFrom.l0v_eq (j : Int) (l : Bool) (m : List Int) (n : List (S78)) (o : Int) (p : Int) : impl_MovesFrom.l0v j l m n o p = if p < o then (if 0 ≤ p then (if p < (n.length : Int) then (if ((rd_T78 n p).f0) = j then (if (((rd_T78 n p).f1) == l) = true then (if m.length < 17592186044416 then (impl_MovesFrom.l0v j l (m ++ [(rd_T78 n p).f2]) n o (wrap64 (p + 1))) else (none)) else (impl_MovesFrom.l0v j l m n o (wrap64 (p + 1)))) else (impl_MovesFrom.l0v j l m n o (wrap64 (p + 1)))) else (none)) else (none)) else ((slices_Sort_int_int.fv m).bind fun q => ((slices_Compact_int_int.fv q).bind fun r => (some r))) := by
  refine Is.step (impl_MovesFrom.l0_is j l m n o p).mo (fun k => by rw [impl_MovesFrom.l0]) ?_
  exact is3_ @impl_MovesFrom.l0_is @slices_Compact_int_int.f_is @slices_Sort_int_int.f_is
theorem impl_MovesFrom.fv_eq (n : Int) (o : List Bool) (p : List (S78)) (q : Int) (r : Bool) : impl_MovesFrom.fv n o p q r = impl_MovesFrom.l0v q r (([] : List Int)) p (p.length : Int) 0 := by
  refine Is.lim (g := fun k => impl_MovesFrom.f k n o p q r) ?_
  · unfold impl_MovesFrom.f
    exact is1_ @impl_MovesFrom.l0_is
end Go.Proofs.Ytldcchjbaglppaa.Print

/- Written by a program of this session (limx.py): the equations of what the printed functions come to. No condition. -/
namespace Go.Proofs.Ytldcchjbaglppaa.Print
open Go.RowKit Go.Proofs.YtldcchjbaglppaaW.PrintWords Go.Proofs.YtldcchjbaglppaaW.PrintLast Go.Proofs.Ytldcchjbaglppaa.Base
set_option linter.unusedVariables false
set_option maxRecDepth 20000
noncomputable def impl_NextPairs.l0v (u : Int) (v : Int) (w : List (List Int)) (x : List Bool) (y : Int) (z : Int) (A : Int) (B : List Bool) (C : List (S78)) (D : Int) (E : List Bool) (F : List (S78)) : Option ((List (List Int))) := Lim fun k => impl_NextPairs.l0 k u v w x y z A B C D E F
noncomputable def impl_NextPairs.j1v (G : Int) (u : Int) (v : List (List Int)) (z : Bool) (F : List Int) (x : List Bool) (y : Int) (H : Int) (A : Int) (B : List Bool) (C : List (S78)) (D : Int) (E : List Bool) (I : List (S78)) : Option ((List (List Int))) := Lim fun k => impl_NextPairs.j1 k G u v z F x y H A B C D E I
noncomputable def impl_NextPairs.l1v (J : Int) (K : Int) (L : List (List Int)) (G : Bool) (u : List Bool) (v : Int) (w : Int) (H : List Int) (M : Int) (z : Int) (C : Int) (D : List Bool) (A : List (S78)) (E : Int) (F : List Bool) (B : List (S78)) : Option ((List (List Int))) := Lim fun k => impl_NextPairs.l1 k J K L G u v w H M z C D A E F B
noncomputable def impl_NextPairs.fv (B : Int) (D : List Bool) (E : List (S78)) (C : Int) (F : List Bool) (z : List (S78)) (x : Int) (y : Int) : Option ((List (List Int))) := Lim fun k => impl_NextPairs.f k B D E C F z x y
theorem impl_NextPairs.l0_is (u : Int) (v : Int) (w : List (List Int)) (x : List Bool) (y : Int) (z : Int) (A : Int) (B : List Bool) (C : List (S78)) (D : Int) (E : List Bool) (F : List (S78)) : Is (fun k => impl_NextPairs.l0 k u v w x y z A B C D E F) (impl_NextPairs.l0v u v w x y z A B C D E F) := ⟨fun k => (impl_NextPairs.mono_l k).1 u v w x y z A B C D E F, rfl⟩
theorem impl_NextPairs.j1_is (G : Int) (u : Int) (v : List (List Int)) (z : Bool) (F : List Int) (x : List Bool) (y : Int) (H : Int) (A : Int) (B : List Bool) (C : List (S78)) (D : Int) (E : List Bool) (I : List (S78)) : Is (fun k => impl_NextPairs.j1 k G u v z F x y H A B C D E I) (impl_NextPairs.j1v G u v z F x y H A B C D E I) := ⟨fun k => (impl_NextPairs.mono_l k).2.1 G u v z F x y H A B C D E I, rfl⟩
theorem impl_NextPairs.l1_is (J : Int) (K : Int) (L : List (List Int)) (G : Bool) (u : List Bool) (v : Int) (w : Int) (H : List Int) (M : Int) (z : Int) (C : Int) (D : List Bool) (A : List (S78)) (E : Int) (F : List Bool) (B : List (S78)) : Is (fun k => impl_NextPairs.l1 k J K L G u v w H M z C D A E F B) (impl_NextPairs.l1v J K L G u v w H M z C D A E F B) := ⟨fun k => (impl_NextPairs.mono_l k).2.2 J K L G u v w H M z C D A E F B, rfl⟩
theorem impl_NextPairs.f_is (B : Int) (D : List Bool) (E : List (S78)) (C : Int) (F : List Bool) (z : List (S78)) (x : Int) (y : Int) : Is (fun k => impl_NextPairs.f k B D E C F z x y) (impl_NextPairs.fv B D E C F z x y) := ⟨fun k => impl_NextPairs.mono B D E C F z x y k, rfl⟩
theorem impl_NextPairs.l0v_eq (u : Int) (v : Int) (w : List (List Int)) (x : List Bool) (y : Int) (z : Int) (A : Int) (B : List Bool) (C : List (S78)) (D : Int) (E : List Bool) (F : List (S78)) : impl_NextPairs.l0v u v w x y z A B C D E F = if z < y then (if 0 ≤ z then (if z < (x.length : Int) then ((impl_MovesFrom.fv A B C u true).bind fun H => (if rdOf false x z = true then (impl_NextPairs.j1v u v w (rdOf false x z) H x y z A B C D E F) else ((impl_MovesFrom.fv D E F v true).bind fun G => (impl_NextPairs.j1v u v w (rdOf false x z) G x y z A B C D E F)))) else (none)) else (none)) else (some w) := by
  refine Is.step (impl_NextPairs.l0_is u v w x y z A B C D E F).mo (fun k => by rw [impl_NextPairs.l0]) ?_
  exact is2_ @impl_MovesFrom.f_is @impl_NextPairs.j1_is
theorem impl_NextPairs.j1v_eq (G : Int) (u : Int) (v : List (List Int)) (z : Bool) (F : List Int) (x : List Bool) (y : Int) (H : Int) (A : Int) (B : List Bool) (C : List (S78)) (D : Int) (E : List Bool) (I : List (S78)) : impl_NextPairs.j1v G u v z F x y H A B C D E I = impl_NextPairs.l1v G u v z x y H F (F.length : Int) 0 A B C D E I := by
  refine Is.step (impl_NextPairs.j1_is G u v z F x y H A B C D E I).mo (fun k => by rw [impl_NextPairs.j1]) ?_
  exact is1_ @impl_NextPairs.l1_is
theorem impl_NextPairs.l1v_eq (J : Int) (K : Int) (L : List (List Int)) (G : Bool) (u : List Bool) (v : Int) (w : Int) (H : List Int) (M : Int) (z : Int) (C : Int) (D : List Bool) (A : List (S78)) (E : Int) (F : List Bool) (B : List (S78)) : impl_NextPairs.l1v J K L G u v w H M z C D A E F B = if z < M then (if 0 ≤ z then (if z < (H.length : Int) then ((impl_MoveOf.fv C D A J G (rd H z)).bind fun x => ((impl_MoveOf.fv E F B K (!G) (rd H z)).bind fun y => (if x ≥ 0 then (if y ≥ 0 then (if 0 ≤ x then (if x < (A.length : Int) then (if 0 ≤ y then (if y < (B.length : Int) then (if L.length < 5864062014805 then (impl_NextPairs.l1v J K (L ++ [(([(rd_T78 A x).f3, (rd_T78 B y).f3] : List Int))]) G u v w H M (wrap64 (z + 1)) C D A E F B) else (none)) else (none)) else (none)) else (none)) else (none)) else (impl_NextPairs.l1v J K L G u v w H M (wrap64 (z + 1)) C D A E F B)) else (impl_NextPairs.l1v J K L G u v w H M (wrap64 (z + 1)) C D A E F B)))) else (none)) else (none)) else (impl_NextPairs.l0v J K L u v (wrap64 (w + 1)) C D A E F B) := by
  refine Is.step (impl_NextPairs.l1_is J K L G u v w H M z C D A E F B).mo (fun k => by rw [impl_NextPairs.l1]) ?_
  exact is3_ @impl_MoveOf.f_is @impl_NextPairs.l0_is @impl_NextPairs.l1_is
theorem impl_NextPairs.fv_eq (B : Int) (D : List Bool) (E : List (S78)) (C : Int) (F : List Bool) (z : List (S78)) (x : Int) (y : Int) : impl_NextPairs.fv B D E C F z x y = (some (([true, false] : List Bool) : List Bool)).bind fun A => (impl_NextPairs.l0v x y (([] : List (List Int))) A (A.length : Int) 0 B D E C F z) := by
  refine Is.lim (g := fun k => impl_NextPairs.f k B D E C F z x y) ?_
  · unfold impl_NextPairs.f
    exact is1_ @impl_NextPairs.l0_is
section
variable (l m n : Int) (o : List Bool) (p : List (S78)) (q : Int) (r : List Bool) (s : List (S78))
noncomputable def impl_PairsOf_1.fv := Lim fun k => impl_PairsOf_1.f k l m n o p q r s
theorem impl_PairsOf_1.f_is : Is (fun k => impl_PairsOf_1.f k l m n o p q r s) (impl_PairsOf_1.fv l m n o p q r s) := ⟨fun k => impl_PairsOf_1.mono l m n o p q r s k, rfl⟩
theorem impl_PairsOf_1.fv_eq : impl_PairsOf_1.fv l m n o p q r s = (impl_NextPairs.fv n o p q r s l m).bind fun h => (some h) := by
  refine Is.lim (g := fun k => impl_PairsOf_1.f k l m n o p q r s) ?_
  · unfold impl_PairsOf_1.f
    exact is1_ @impl_NextPairs.f_is
end
section
variable (d e : List Int)
noncomputable def impl_reached_1.fv := Lim fun k => impl_reached_1.f k d e
theorem impl_reached_1.f_is : Is (fun k => impl_reached_1.f k d e) (impl_reached_1.fv d e) := ⟨fun k => impl_reached_1.mono d e k, rfl⟩
theorem impl_reached_1.fv_eq : impl_reached_1.fv d e = (slices_Equal_int_int.fv d e).bind fun b => (some b) := by
  refine Is.lim (g := fun k => impl_reached_1.f k d e) ?_
  · unfold impl_reached_1.f
    exact is1_ @slices_Equal_int_int.f_is
end
noncomputable def slices_IndexFunc_int_int_with_impl_reached_1.l0v (g : List (List Int)) (h : Int) (i : Int) (j : List Int) : Option (Int) := Lim fun k => slices_IndexFunc_int_int_with_impl_reached_1.l0 k g h i j
noncomputable def slices_IndexFunc_int_int_with_impl_reached_1.fv (i : List (List Int)) (j : List Int) : Option (Int) := Lim fun k => slices_IndexFunc_int_int_with_impl_reached_1.f k i j
theorem slices_IndexFunc_int_int_with_impl_reached_1.l0_is (g : List (List Int)) (h : Int) (i : Int) (j : List Int) : Is (fun k => slices_IndexFunc_int_int_with_impl_reached_1.l0 k g h i j) (slices_IndexFunc_int_int_with_impl_reached_1.l0v g h i j) := ⟨fun k => (slices_IndexFunc_int_int_with_impl_reached_1.mono_l k) g h i j, rfl⟩
theorem slices_IndexFunc_int_int_with_impl_reached_1.f_is (i : List (List Int)) (j : List Int) : Is (fun k => slices_IndexFunc_int_int_with_impl_reached_1.f k i j) (slices_IndexFunc_int_int_with_impl_reached_1.fv i j) := ⟨fun k => slices_IndexFunc_int_int_with_impl_reached_1.mono i j k, rfl⟩
theorem slices_IndexFunc_int_int_with_impl_reached_1.l0v_eq (g : List (List Int)) (h : Int) (i : Int) (j : List Int) : slices_IndexFunc_int_int_with_impl_reached_1.l0v g h i j = if i < h then (if 0 ≤ i then (if i < (g.length : Int) then ((impl_reached_1.fv (rd_L3 g i) j).bind fun c => (if c = true then (some i) else (slices_IndexFunc_int_int_with_impl_reached_1.l0v g h (wrap64 (i + 1)) j))) else (none)) else (none)) else (some (-1)) := by
  refine Is.step (slices_IndexFunc_int_int_with_impl_reached_1.l0_is g h i j).mo (fun k => by rw [slices_IndexFunc_int_int_with_impl_reached_1.l0]) ?_
  exact is2_ @impl_reached_1.f_is @slices_IndexFunc_int_int_with_impl_reached_1.l0_is
theorem slices_IndexFunc_int_int_with_impl_reached_1.fv_eq (i : List (List Int)) (j : List Int) : slices_IndexFunc_int_int_with_impl_reached_1.fv i j = slices_IndexFunc_int_int_with_impl_reached_1.l0v i (i.length : Int) 0 j := by
  refine Is.lim (g := fun k => slices_IndexFunc_int_int_with_impl_reached_1.f k i j) ?_
  · unfold slices_IndexFunc_int_int_with_impl_reached_1.f
    exact is1_ @slices_IndexFunc_int_int_with_impl_reached_1.l0_is
section
variable (d : List (List Int)) (e : List Int)
noncomputable def slices_ContainsFunc_int_int_with_impl_reached_1.fv := Lim fun k => slices_ContainsFunc_int_int_with_impl_reached_1.f k d e
theorem slices_ContainsFunc_int_int_with_impl_reached_1.f_is : Is (fun k => slices_ContainsFunc_int_int_with_impl_reached_1.f k d e) (slices_ContainsFunc_int_int_with_impl_reached_1.fv d e) := ⟨fun k => slices_ContainsFunc_int_int_with_impl_reached_1.mono d e k, rfl⟩
theorem slices_ContainsFunc_int_int_with_impl_reached_1.fv_eq : slices_ContainsFunc_int_int_with_impl_reached_1.fv d e = (slices_IndexFunc_int_int_with_impl_reached_1.fv d e).bind fun b => (some (decide (b ≥ 0))) := by
  refine Is.lim (g := fun k => slices_ContainsFunc_int_int_with_impl_reached_1.f k d e) ?_
  · unfold slices_ContainsFunc_int_int_with_impl_reached_1.f
    exact is1_ @slices_IndexFunc_int_int_with_impl_reached_1.f_is
end
end Go.Proofs.Ytldcchjbaglppaa.Print

/- Written by a program of this session (limx.py): the equations of what the printed functions come to. No condition. -/
namespace Go.Proofs.Ytldcchjbaglppaa.Print
open Go.RowKit Go.Proofs.YtldcchjbaglppaaW.PrintWords Go.Proofs.YtldcchjbaglppaaW.PrintLast Go.Proofs.Ytldcchjbaglppaa.Base
set_option linter.unusedVariables false
set_option maxRecDepth 20000
noncomputable def impl_reached_with_impl_PairsOf_1.l0v (o : List (List Int)) (p : Int) (q : Int) (r : List Bool) (s : List (S78)) (t : Int) (u : List Bool) (v : List (S78)) : Option ((List (List Int))) := Lim fun k => impl_reached_with_impl_PairsOf_1.l0 k o p q r s t u v
noncomputable def impl_reached_with_impl_PairsOf_1.l1v (w : List (List Int)) (x : Int) (o : List (List Int)) (p : Int) (y : Int) (q : Int) (r : List Bool) (s : List (S78)) (t : Int) (u : List Bool) (v : List (S78)) : Option ((List (List Int))) := Lim fun k => impl_reached_with_impl_PairsOf_1.l1 k w x o p y q r s t u v
noncomputable def impl_reached_with_impl_PairsOf_1.fv (q : Int) (s : List Bool) (t : List (S78)) (r : Int) (u : List Bool) (v : List (S78)) : Option ((List (List Int))) := Lim fun k => impl_reached_with_impl_PairsOf_1.f k q s t r u v
theorem impl_reached_with_impl_PairsOf_1.l0_is (o : List (List Int)) (p : Int) (q : Int) (r : List Bool) (s : List (S78)) (t : Int) (u : List Bool) (v : List (S78)) : Is (fun k => impl_reached_with_impl_PairsOf_1.l0 k o p q r s t u v) (impl_reached_with_impl_PairsOf_1.l0v o p q r s t u v) := ⟨fun k => (impl_reached_with_impl_PairsOf_1.mono_l k).1 o p q r s t u v, rfl⟩
theorem impl_reached_with_impl_PairsOf_1.l1_is (w : List (List Int)) (x : Int) (o : List (List Int)) (p : Int) (y : Int) (q : Int) (r : List Bool) (s : List (S78)) (t : Int) (u : List Bool) (v : List (S78)) : Is (fun k => impl_reached_with_impl_PairsOf_1.l1 k w x o p y q r s t u v) (impl_reached_with_impl_PairsOf_1.l1v w x o p y q r s t u v) := ⟨fun k => (impl_reached_with_impl_PairsOf_1.mono_l k).2 w x o p y q r s t u v, rfl⟩
theorem impl_reached_with_impl_PairsOf_1.f_is (q : Int) (s : List Bool) (t : List (S78)) (r : Int) (u : List Bool) (v : List (S78)) : Is (fun k => impl_reached_with_impl_PairsOf_1.f k q s t r u v) (impl_reached_with_impl_PairsOf_1.fv q s t r u v) := ⟨fun k => impl_reached_with_impl_PairsOf_1.mono q s t r u v k, rfl⟩
theorem impl_reached_with_impl_PairsOf_1.l0v_eq (o : List (List Int)) (p : Int) (q : Int) (r : List Bool) (s : List (S78)) (t : Int) (u : List Bool) (v : List (S78)) : impl_reached_with_impl_PairsOf_1.l0v o p q r s t u v = if p < (o.length : Int) then (if 0 ≤ p then (if 0 < ((rd_L3 o p).length : Int) then (if 1 < ((rd_L3 o p).length : Int) then ((impl_PairsOf_1.fv (rd (rd_L3 o p) 0) (rd (rd_L3 o p) 1) q r s t u v).bind fun y => (impl_reached_with_impl_PairsOf_1.l1v o p y (y.length : Int) 0 q r s t u v)) else (none)) else (none)) else (none)) else (some o) := by
  refine Is.step (impl_reached_with_impl_PairsOf_1.l0_is o p q r s t u v).mo (fun k => by rw [impl_reached_with_impl_PairsOf_1.l0]) ?_
  exact is2_ @impl_PairsOf_1.f_is @impl_reached_with_impl_PairsOf_1.l1_is
theorem impl_reached_with_impl_PairsOf_1.l1v_eq (w : List (List Int)) (x : Int) (o : List (List Int)) (p : Int) (y : Int) (q : Int) (r : List Bool) (s : List (S78)) (t : Int) (u : List Bool) (v : List (S78)) : impl_reached_with_impl_PairsOf_1.l1v w x o p y q r s t u v = if y < p then (if 0 ≤ y then (if y < (o.length : Int) then ((slices_ContainsFunc_int_int_with_impl_reached_1.fv w (rd_L3 o y)).bind fun l => (if l = true then (impl_reached_with_impl_PairsOf_1.l1v w x o p (wrap64 (y + 1)) q r s t u v) else (if w.length < 5864062014805 then (impl_reached_with_impl_PairsOf_1.l1v (w ++ [rd_L3 o y]) x o p (wrap64 (y + 1)) q r s t u v) else (none)))) else (none)) else (none)) else (impl_reached_with_impl_PairsOf_1.l0v w (wrap64 (x + 1)) q r s t u v) := by
  refine Is.step (impl_reached_with_impl_PairsOf_1.l1_is w x o p y q r s t u v).mo (fun k => by rw [impl_reached_with_impl_PairsOf_1.l1]) ?_
  exact is3_ @impl_reached_with_impl_PairsOf_1.l0_is @impl_reached_with_impl_PairsOf_1.l1_is @slices_ContainsFunc_int_int_with_impl_reached_1.f_is
theorem impl_reached_with_impl_PairsOf_1.fv_eq (q : Int) (s : List Bool) (t : List (S78)) (r : Int) (u : List Bool) (v : List (S78)) : impl_reached_with_impl_PairsOf_1.fv q s t r u v = impl_reached_with_impl_PairsOf_1.l0v (([(([0, 0] : List Int))] : List (List Int))) 0 q s t r u v := by
  refine Is.lim (g := fun k => impl_reached_with_impl_PairsOf_1.f k q s t r u v) ?_
  · unfold impl_reached_with_impl_PairsOf_1.f
    exact is1_ @impl_reached_with_impl_PairsOf_1.l0_is
section
variable (l : Int) (m : List Bool) (n : List (S78)) (o : Int) (p : List Bool) (q : List (S78))
noncomputable def impl_PairsOf.fv := Lim fun k => impl_PairsOf.f k l m n o p q
theorem impl_PairsOf.f_is : Is (fun k => impl_PairsOf.f k l m n o p q) (impl_PairsOf.fv l m n o p q) := ⟨fun k => impl_PairsOf.mono l m n o p q k, rfl⟩
theorem impl_PairsOf.fv_eq : impl_PairsOf.fv l m n o p q = (impl_IsMachine.fv l m n).bind fun h => (if h = true then ((impl_IsMachine.fv o p q).bind fun i => (if i = true then ((impl_reached_with_impl_PairsOf_1.fv l m n o p q).bind fun j => (some j)) else (some ([] : List (List Int))))) else (some ([] : List (List Int)))) := by
  refine Is.lim (g := fun k => impl_PairsOf.f k l m n o p q) ?_
  · unfold impl_PairsOf.f
    exact is2_ @impl_IsMachine.f_is @impl_reached_with_impl_PairsOf_1.f_is
end
noncomputable def slices_Index_int_int.l0v (e : List Int) (f : Int) (g : Int) (h : Int) : Option (Int) := Lim fun k => slices_Index_int_int.l0 k e f g h
noncomputable def slices_Index_int_int.fv (h : List Int) (e : Int) : Option (Int) := Lim fun k => slices_Index_int_int.f k h e
theorem slices_Index_int_int.l0_is (e : List Int) (f : Int) (g : Int) (h : Int) : Is (fun k => slices_Index_int_int.l0 k e f g h) (slices_Index_int_int.l0v e f g h) := ⟨fun k => (slices_Index_int_int.mono_l k) e f g h, rfl⟩
theorem slices_Index_int_int.f_is (h : List Int) (e : Int) : Is (fun k => slices_Index_int_int.f k h e) (slices_Index_int_int.fv h e) := ⟨fun k => slices_Index_int_int.mono h e k, rfl⟩
theorem slices_Index_int_int.l0v_eq (e : List Int) (f : Int) (g : Int) (h : Int) : slices_Index_int_int.l0v e f g h = if h < g then (if 0 ≤ h then (if h < (e.length : Int) then (if f = (rd e h) then (some h) else (slices_Index_int_int.l0v e f g (wrap64 (h + 1)))) else (none)) else (none)) else (some (-1)) := by
  refine Is.step (slices_Index_int_int.l0_is e f g h).mo (fun k => by rw [slices_Index_int_int.l0]) ?_
  exact is1_ @slices_Index_int_int.l0_is
theorem slices_Index_int_int.fv_eq (h : List Int) (e : Int) : slices_Index_int_int.fv h e = slices_Index_int_int.l0v h e (h.length : Int) 0 := by
  refine Is.lim (g := fun k => slices_Index_int_int.f k h e) ?_
  · unfold slices_Index_int_int.f
    exact is1_ @slices_Index_int_int.l0_is
section
variable (d : List Int) (e : Int)
noncomputable def slices_Contains_int_int.fv := Lim fun k => slices_Contains_int_int.f k d e
theorem slices_Contains_int_int.f_is : Is (fun k => slices_Contains_int_int.f k d e) (slices_Contains_int_int.fv d e) := ⟨fun k => slices_Contains_int_int.mono d e k, rfl⟩
theorem slices_Contains_int_int.fv_eq : slices_Contains_int_int.fv d e = (slices_Index_int_int.fv d e).bind fun a => (some (decide (a ≥ 0))) := by
  refine Is.lim (g := fun k => slices_Contains_int_int.f k d e) ?_
  · unfold slices_Contains_int_int.f
    exact is1_ @slices_Index_int_int.f_is
end
noncomputable def impl_without.l0v (h : List Int) (i : List Int) (j : List Int) (l : Int) (m : Int) : Option (List Int) := Lim fun k => impl_without.l0 k h i j l m
noncomputable def impl_without.fv (m : List Int) (l : List Int) : Option (List Int) := Lim fun k => impl_without.f k m l
theorem impl_without.l0_is (h : List Int) (i : List Int) (j : List Int) (l : Int) (m : Int) : Is (fun k => impl_without.l0 k h i j l m) (impl_without.l0v h i j l m) := ⟨fun k => (impl_without.mono_l k) h i j l m, rfl⟩
theorem impl_without.f_is (m : List Int) (l : List Int) : Is (fun k => impl_without.f k m l) (impl_without.fv m l) := ⟨fun k => impl_without.mono m l k, rfl⟩
theorem impl_without.l0v_eq (h : List Int) (i : List Int) (j : List Int) (l : Int) (m : Int) : impl_without.l0v h i j l m = if m < l then (if 0 ≤ m then (if m < (j.length : Int) then ((slices_Contains_int_int.fv h (rd j m)).bind fun c => (if c = true then (impl_without.l0v h i j l (wrap64 (m + 1))) else (if i.length < 17592186044416 then (impl_without.l0v h (i ++ [rd j m]) j l (wrap64 (m + 1))) else (none)))) else (none)) else (none)) else (some i) := by
  refine Is.step (impl_without.l0_is h i j l m).mo (fun k => by rw [impl_without.l0]) ?_
  exact is2_ @impl_without.l0_is @slices_Contains_int_int.f_is
theorem impl_without.fv_eq (m : List Int) (l : List Int) : impl_without.fv m l = impl_without.l0v l (([] : List Int)) m (m.length : Int) 0 := by
  refine Is.lim (g := fun k => impl_without.f k m l) ?_
  · unfold impl_without.f
    exact is1_ @impl_without.l0_is
end Go.Proofs.Ytldcchjbaglppaa.Print

/- Written by a program of this session (limx.py): the equations of what the printed functions come to. No condition. -/
namespace Go.Proofs.Ytldcchjbaglppaa.Print
open Go.RowKit Go.Proofs.YtldcchjbaglppaaW.PrintWords Go.Proofs.YtldcchjbaglppaaW.PrintLast Go.Proofs.Ytldcchjbaglppaa.Base
set_option linter.unusedVariables false
set_option maxRecDepth 20000
noncomputable def impl_TroubleAt.j0v (q : Int) (r : Int) (s : Bool) (t : Int) (u : List Bool) (v : List (S78)) (w : Int) (x : List Bool) (y : List (S78)) : Option (Int) := Lim fun k => impl_TroubleAt.j0 k q r s t u v w x y
noncomputable def impl_TroubleAt.fv (t : Int) (v : List Bool) (w : List (S78)) (u : Int) (x : List Bool) (y : List (S78)) (z : Int) (A : Int) : Option (Int) := Lim fun k => impl_TroubleAt.f k t v w u x y z A
theorem impl_TroubleAt.j0_is (q : Int) (r : Int) (s : Bool) (t : Int) (u : List Bool) (v : List (S78)) (w : Int) (x : List Bool) (y : List (S78)) : Is (fun k => impl_TroubleAt.j0 k q r s t u v w x y) (impl_TroubleAt.j0v q r s t u v w x y) := ⟨fun k => (impl_TroubleAt.mono_l k) q r s t u v w x y, rfl⟩
theorem impl_TroubleAt.f_is (t : Int) (v : List Bool) (w : List (S78)) (u : Int) (x : List Bool) (y : List (S78)) (z : Int) (A : Int) : Is (fun k => impl_TroubleAt.f k t v w u x y z A) (impl_TroubleAt.fv t v w u x y z A) := ⟨fun k => impl_TroubleAt.mono t v w u x y z A k, rfl⟩
theorem impl_TroubleAt.j0v_eq (q : Int) (r : Int) (s : Bool) (t : Int) (u : List Bool) (v : List (S78)) (w : Int) (x : List Bool) (y : List (S78)) : impl_TroubleAt.j0v q r s t u v w x y = if s = true then (some 1) else ((impl_NextPairs.fv t u v w x y q r).bind fun h => (if (h.length : Int) = 0 then ((impl_isEnd.f t u v q).bind fun i => (if i = true then ((impl_isEnd.f w x y r).bind fun j => (if j = true then (some 0) else (some 2))) else (some 2))) else (some 0))) := by
  refine Is.step (impl_TroubleAt.j0_is q r s t u v w x y).mo (fun k => by rw [impl_TroubleAt.j0]) ?_
  exact is1_ @impl_NextPairs.f_is
theorem impl_TroubleAt.fv_eq (t : Int) (v : List Bool) (w : List (S78)) (u : Int) (x : List Bool) (y : List (S78)) (z : Int) (A : Int) : impl_TroubleAt.fv t v w u x y z A = (impl_MovesFrom.fv t v w z true).bind fun h => ((impl_MovesFrom.fv u x y A false).bind fun i => ((impl_without.fv h i).bind fun j => (if (j.length : Int) > 0 then (impl_TroubleAt.j0v z A true t v w u x y) else ((impl_MovesFrom.fv u x y A true).bind fun q => ((impl_MovesFrom.fv t v w z false).bind fun r => ((impl_without.fv q r).bind fun s => (impl_TroubleAt.j0v z A (decide ((s.length : Int) > 0)) t v w u x y))))))) := by
  refine Is.lim (g := fun k => impl_TroubleAt.f k t v w u x y z A) ?_
  · unfold impl_TroubleAt.f
    exact is3_ @impl_MovesFrom.f_is @impl_TroubleAt.j0_is @impl_without.f_is
noncomputable def impl_FirstTrouble.l0v (m : List (List Int)) (n : Int) (o : Int) (p : Int) (q : List Bool) (r : List (S78)) (s : Int) (t : List Bool) (u : List (S78)) : Option (List Int) := Lim fun k => impl_FirstTrouble.l0 k m n o p q r s t u
noncomputable def impl_FirstTrouble.fv (o : Int) (q : List Bool) (r : List (S78)) (p : Int) (s : List Bool) (t : List (S78)) : Option (List Int) := Lim fun k => impl_FirstTrouble.f k o q r p s t
theorem impl_FirstTrouble.l0_is (m : List (List Int)) (n : Int) (o : Int) (p : Int) (q : List Bool) (r : List (S78)) (s : Int) (t : List Bool) (u : List (S78)) : Is (fun k => impl_FirstTrouble.l0 k m n o p q r s t u) (impl_FirstTrouble.l0v m n o p q r s t u) := ⟨fun k => (impl_FirstTrouble.mono_l k) m n o p q r s t u, rfl⟩
theorem impl_FirstTrouble.f_is (o : Int) (q : List Bool) (r : List (S78)) (p : Int) (s : List Bool) (t : List (S78)) : Is (fun k => impl_FirstTrouble.f k o q r p s t) (impl_FirstTrouble.fv o q r p s t) := ⟨fun k => impl_FirstTrouble.mono o q r p s t k, rfl⟩
theorem impl_FirstTrouble.l0v_eq (m : List (List Int)) (n : Int) (o : Int) (p : Int) (q : List Bool) (r : List (S78)) (s : Int) (t : List Bool) (u : List (S78)) : impl_FirstTrouble.l0v m n o p q r s t u = if o < n then (if 0 ≤ o then (if o < (m.length : Int) then (if 0 < ((rd_L3 m o).length : Int) then (if 1 < ((rd_L3 m o).length : Int) then ((impl_TroubleAt.fv p q r s t u (rd (rd_L3 m o) 0) (rd (rd_L3 m o) 1)).bind fun j => (if j = 0 then (impl_FirstTrouble.l0v m n (wrap64 (o + 1)) p q r s t u) else (some (rd_L3 m o)))) else (none)) else (none)) else (none)) else (none)) else (some ([] : List Int)) := by
  refine Is.step (impl_FirstTrouble.l0_is m n o p q r s t u).mo (fun k => by rw [impl_FirstTrouble.l0]) ?_
  exact is2_ @impl_FirstTrouble.l0_is @impl_TroubleAt.f_is
theorem impl_FirstTrouble.fv_eq (o : Int) (q : List Bool) (r : List (S78)) (p : Int) (s : List Bool) (t : List (S78)) : impl_FirstTrouble.fv o q r p s t = (impl_PairsOf.fv o q r p s t).bind fun u => (impl_FirstTrouble.l0v u (u.length : Int) 0 o q r p s t) := by
  refine Is.lim (g := fun k => impl_FirstTrouble.f k o q r p s t) ?_
  · unfold impl_FirstTrouble.f
    exact is2_ @impl_FirstTrouble.l0_is @impl_PairsOf.f_is
section
variable (l : Int) (m : List Bool) (n : List (S78)) (o : Int) (p : List Bool) (q : List (S78))
noncomputable def impl_IsSafe.fv := Lim fun k => impl_IsSafe.f k l m n o p q
theorem impl_IsSafe.f_is : Is (fun k => impl_IsSafe.f k l m n o p q) (impl_IsSafe.fv l m n o p q) := ⟨fun k => impl_IsSafe.mono l m n o p q k, rfl⟩
theorem impl_IsSafe.fv_eq : impl_IsSafe.fv l m n o p q = (impl_IsMachine.fv l m n).bind fun h => (if h = true then ((impl_IsMachine.fv o p q).bind fun i => (if i = true then ((impl_FirstTrouble.fv l m n o p q).bind fun j => (some ((j.length : Int) == 0))) else (some false))) else (some false)) := by
  refine Is.lim (g := fun k => impl_IsSafe.f k l m n o p q) ?_
  · unfold impl_IsSafe.f
    exact is2_ @impl_FirstTrouble.f_is @impl_IsMachine.f_is
end
end Go.Proofs.Ytldcchjbaglppaa.Print

/- Written by a program of this session (limx.py): the equations of what the printed functions come to. No condition. -/
namespace Go.Proofs.Ytldcchjbaglppaa.Print
open Go.RowKit Go.Proofs.YtldcchjbaglppaaW.PrintWords Go.Proofs.YtldcchjbaglppaaW.PrintLast Go.Proofs.Ytldcchjbaglppaa.Base
set_option linter.unusedVariables false
set_option maxRecDepth 20000
noncomputable def impl_WorksWith.l0v (j : List Int) (l : List (S34)) (m : Int) (n : Int) (o : Int) (p : List Bool) (q : List (S78)) : Option (List Int) := Lim fun k => impl_WorksWith.l0 k j l m n o p q
noncomputable def impl_WorksWith.fv (n : List (S34)) (o : Int) (p : List Bool) (q : List (S78)) : Option (List Int) := Lim fun k => impl_WorksWith.f k n o p q
theorem impl_WorksWith.l0_is (j : List Int) (l : List (S34)) (m : Int) (n : Int) (o : Int) (p : List Bool) (q : List (S78)) : Is (fun k => impl_WorksWith.l0 k j l m n o p q) (impl_WorksWith.l0v j l m n o p q) := ⟨fun k => (impl_WorksWith.mono_l k) j l m n o p q, rfl⟩
theorem impl_WorksWith.f_is (n : List (S34)) (o : Int) (p : List Bool) (q : List (S78)) : Is (fun k => impl_WorksWith.f k n o p q) (impl_WorksWith.fv n o p q) := ⟨fun k => impl_WorksWith.mono n o p q k, rfl⟩
theorem impl_WorksWith.l0v_eq (j : List Int) (l : List (S34)) (m : Int) (n : Int) (o : Int) (p : List Bool) (q : List (S78)) : impl_WorksWith.l0v j l m n o p q = if n < m then (if 0 ≤ n then (if n < (l.length : Int) then ((impl_IsSafe.fv ((rd_T34 l n).f0) ((rd_T34 l n).f1) ((rd_T34 l n).f2) o p q).bind fun h => (if h = true then (if j.length < 17592186044416 then (impl_WorksWith.l0v (j ++ [n]) l m (wrap64 (n + 1)) o p q) else (none)) else (impl_WorksWith.l0v j l m (wrap64 (n + 1)) o p q))) else (none)) else (none)) else (some j) := by
  refine Is.step (impl_WorksWith.l0_is j l m n o p q).mo (fun k => by rw [impl_WorksWith.l0]) ?_
  exact is2_ @impl_IsSafe.f_is @impl_WorksWith.l0_is
theorem impl_WorksWith.fv_eq (n : List (S34)) (o : Int) (p : List Bool) (q : List (S78)) : impl_WorksWith.fv n o p q = impl_WorksWith.l0v (([] : List Int)) n (n.length : Int) 0 o p q := by
  refine Is.lim (g := fun k => impl_WorksWith.f k n o p q) ?_
  · unfold impl_WorksWith.f
    exact is1_ @impl_WorksWith.l0_is
section
variable (g : List (S34)) (h : Int) (i : List Bool) (j : List (S78))
noncomputable def impl_LatestFor.fv := Lim fun k => impl_LatestFor.f k g h i j
theorem impl_LatestFor.f_is : Is (fun k => impl_LatestFor.f k g h i j) (impl_LatestFor.fv g h i j) := ⟨fun k => impl_LatestFor.mono g h i j k, rfl⟩
theorem impl_LatestFor.fv_eq : impl_LatestFor.fv g h i j = (impl_WorksWith.fv g h i j).bind fun a => (if (a.length : Int) = 0 then (some (-1)) else (if 0 ≤ (wrap64 ((a.length : Int) - 1)) then (if (wrap64 ((a.length : Int) - 1)) < (a.length : Int) then (some (rd a (wrap64 ((a.length : Int) - 1)))) else (none)) else (none))) := by
  refine Is.lim (g := fun k => impl_LatestFor.f k g h i j) ?_
  · unfold impl_LatestFor.f
    exact is1_ @impl_WorksWith.f_is
end
noncomputable def impl_nextFollowed.l0v (u : Int) (v : Int) (w : List (List Int)) (x : List Bool) (y : Int) (z : Int) (A : Int) (B : List Bool) (C : List (S78)) (D : Int) (E : List Bool) (F : List (S78)) : Option ((List (List Int))) := Lim fun k => impl_nextFollowed.l0 k u v w x y z A B C D E F
noncomputable def impl_nextFollowed.j1v (G : Int) (u : Int) (v : List (List Int)) (z : Bool) (F : List Int) (x : List Bool) (y : Int) (H : Int) (A : Int) (B : List Bool) (C : List (S78)) (D : Int) (E : List Bool) (I : List (S78)) : Option ((List (List Int))) := Lim fun k => impl_nextFollowed.j1 k G u v z F x y H A B C D E I
noncomputable def impl_nextFollowed.l1v (J : Int) (K : Int) (L : List (List Int)) (G : Bool) (u : List Bool) (v : Int) (w : Int) (H : List Int) (M : Int) (z : Int) (C : Int) (D : List Bool) (A : List (S78)) (E : Int) (F : List Bool) (B : List (S78)) : Option ((List (List Int))) := Lim fun k => impl_nextFollowed.l1 k J K L G u v w H M z C D A E F B
noncomputable def impl_nextFollowed.fv (B : Int) (D : List Bool) (E : List (S78)) (C : Int) (F : List Bool) (z : List (S78)) (x : Int) (y : Int) : Option ((List (List Int))) := Lim fun k => impl_nextFollowed.f k B D E C F z x y
theorem impl_nextFollowed.l0_is (u : Int) (v : Int) (w : List (List Int)) (x : List Bool) (y : Int) (z : Int) (A : Int) (B : List Bool) (C : List (S78)) (D : Int) (E : List Bool) (F : List (S78)) : Is (fun k => impl_nextFollowed.l0 k u v w x y z A B C D E F) (impl_nextFollowed.l0v u v w x y z A B C D E F) := ⟨fun k => (impl_nextFollowed.mono_l k).1 u v w x y z A B C D E F, rfl⟩
theorem impl_nextFollowed.j1_is (G : Int) (u : Int) (v : List (List Int)) (z : Bool) (F : List Int) (x : List Bool) (y : Int) (H : Int) (A : Int) (B : List Bool) (C : List (S78)) (D : Int) (E : List Bool) (I : List (S78)) : Is (fun k => impl_nextFollowed.j1 k G u v z F x y H A B C D E I) (impl_nextFollowed.j1v G u v z F x y H A B C D E I) := ⟨fun k => (impl_nextFollowed.mono_l k).2.1 G u v z F x y H A B C D E I, rfl⟩
theorem impl_nextFollowed.l1_is (J : Int) (K : Int) (L : List (List Int)) (G : Bool) (u : List Bool) (v : Int) (w : Int) (H : List Int) (M : Int) (z : Int) (C : Int) (D : List Bool) (A : List (S78)) (E : Int) (F : List Bool) (B : List (S78)) : Is (fun k => impl_nextFollowed.l1 k J K L G u v w H M z C D A E F B) (impl_nextFollowed.l1v J K L G u v w H M z C D A E F B) := ⟨fun k => (impl_nextFollowed.mono_l k).2.2 J K L G u v w H M z C D A E F B, rfl⟩
theorem impl_nextFollowed.f_is (B : Int) (D : List Bool) (E : List (S78)) (C : Int) (F : List Bool) (z : List (S78)) (x : Int) (y : Int) : Is (fun k => impl_nextFollowed.f k B D E C F z x y) (impl_nextFollowed.fv B D E C F z x y) := ⟨fun k => impl_nextFollowed.mono B D E C F z x y k, rfl⟩
theorem impl_nextFollowed.l0v_eq (u : Int) (v : Int) (w : List (List Int)) (x : List Bool) (y : Int) (z : Int) (A : Int) (B : List Bool) (C : List (S78)) (D : Int) (E : List Bool) (F : List (S78)) : impl_nextFollowed.l0v u v w x y z A B C D E F = if z < y then (if 0 ≤ z then (if z < (x.length : Int) then ((impl_MovesFrom.fv A B C u true).bind fun H => (if rdOf false x z = true then (impl_nextFollowed.j1v u v w (rdOf false x z) H x y z A B C D E F) else ((impl_MovesFrom.fv D E F v false).bind fun G => (impl_nextFollowed.j1v u v w (rdOf false x z) G x y z A B C D E F)))) else (none)) else (none)) else (some w) := by
  refine Is.step (impl_nextFollowed.l0_is u v w x y z A B C D E F).mo (fun k => by rw [impl_nextFollowed.l0]) ?_
  exact is2_ @impl_MovesFrom.f_is @impl_nextFollowed.j1_is
theorem impl_nextFollowed.j1v_eq (G : Int) (u : Int) (v : List (List Int)) (z : Bool) (F : List Int) (x : List Bool) (y : Int) (H : Int) (A : Int) (B : List Bool) (C : List (S78)) (D : Int) (E : List Bool) (I : List (S78)) : impl_nextFollowed.j1v G u v z F x y H A B C D E I = impl_nextFollowed.l1v G u v z x y H F (F.length : Int) 0 A B C D E I := by
  refine Is.step (impl_nextFollowed.j1_is G u v z F x y H A B C D E I).mo (fun k => by rw [impl_nextFollowed.j1]) ?_
  exact is1_ @impl_nextFollowed.l1_is
theorem impl_nextFollowed.l1v_eq (J : Int) (K : Int) (L : List (List Int)) (G : Bool) (u : List Bool) (v : Int) (w : Int) (H : List Int) (M : Int) (z : Int) (C : Int) (D : List Bool) (A : List (S78)) (E : Int) (F : List Bool) (B : List (S78)) : impl_nextFollowed.l1v J K L G u v w H M z C D A E F B = if z < M then (if 0 ≤ z then (if z < (H.length : Int) then ((impl_MoveOf.fv C D A J G (rd H z)).bind fun x => ((impl_MoveOf.fv E F B K G (rd H z)).bind fun y => (if x ≥ 0 then (if y ≥ 0 then (if 0 ≤ x then (if x < (A.length : Int) then (if 0 ≤ y then (if y < (B.length : Int) then (if L.length < 5864062014805 then (impl_nextFollowed.l1v J K (L ++ [(([(rd_T78 A x).f3, (rd_T78 B y).f3] : List Int))]) G u v w H M (wrap64 (z + 1)) C D A E F B) else (none)) else (none)) else (none)) else (none)) else (none)) else (impl_nextFollowed.l1v J K L G u v w H M (wrap64 (z + 1)) C D A E F B)) else (impl_nextFollowed.l1v J K L G u v w H M (wrap64 (z + 1)) C D A E F B)))) else (none)) else (none)) else (impl_nextFollowed.l0v J K L u v (wrap64 (w + 1)) C D A E F B) := by
  refine Is.step (impl_nextFollowed.l1_is J K L G u v w H M z C D A E F B).mo (fun k => by rw [impl_nextFollowed.l1]) ?_
  exact is3_ @impl_MoveOf.f_is @impl_nextFollowed.l0_is @impl_nextFollowed.l1_is
theorem impl_nextFollowed.fv_eq (B : Int) (D : List Bool) (E : List (S78)) (C : Int) (F : List Bool) (z : List (S78)) (x : Int) (y : Int) : impl_nextFollowed.fv B D E C F z x y = (some (([true, false] : List Bool) : List Bool)).bind fun A => (impl_nextFollowed.l0v x y (([] : List (List Int))) A (A.length : Int) 0 B D E C F z) := by
  refine Is.lim (g := fun k => impl_nextFollowed.f k B D E C F z x y) ?_
  · unfold impl_nextFollowed.f
    exact is1_ @impl_nextFollowed.l0_is
end Go.Proofs.Ytldcchjbaglppaa.Print

/- Written by a program of this session (limx.py): the equations of what the printed functions come to. No condition. -/
namespace Go.Proofs.Ytldcchjbaglppaa.Print
open Go.RowKit Go.Proofs.YtldcchjbaglppaaW.PrintWords Go.Proofs.YtldcchjbaglppaaW.PrintLast Go.Proofs.Ytldcchjbaglppaa.Base
set_option linter.unusedVariables false
set_option maxRecDepth 20000
section
variable (l m n : Int) (o : List Bool) (p : List (S78)) (q : Int) (r : List Bool) (s : List (S78))
noncomputable def impl_FollowPairs_1.fv := Lim fun k => impl_FollowPairs_1.f k l m n o p q r s
theorem impl_FollowPairs_1.f_is : Is (fun k => impl_FollowPairs_1.f k l m n o p q r s) (impl_FollowPairs_1.fv l m n o p q r s) := ⟨fun k => impl_FollowPairs_1.mono l m n o p q r s k, rfl⟩
theorem impl_FollowPairs_1.fv_eq : impl_FollowPairs_1.fv l m n o p q r s = (impl_nextFollowed.fv n o p q r s l m).bind fun h => (some h) := by
  refine Is.lim (g := fun k => impl_FollowPairs_1.f k l m n o p q r s) ?_
  · unfold impl_FollowPairs_1.f
    exact is1_ @impl_nextFollowed.f_is
end
noncomputable def impl_reached_with_impl_FollowPairs_1.l0v (o : List (List Int)) (p : Int) (q : Int) (r : List Bool) (s : List (S78)) (t : Int) (u : List Bool) (v : List (S78)) : Option ((List (List Int))) := Lim fun k => impl_reached_with_impl_FollowPairs_1.l0 k o p q r s t u v
noncomputable def impl_reached_with_impl_FollowPairs_1.l1v (w : List (List Int)) (x : Int) (o : List (List Int)) (p : Int) (y : Int) (q : Int) (r : List Bool) (s : List (S78)) (t : Int) (u : List Bool) (v : List (S78)) : Option ((List (List Int))) := Lim fun k => impl_reached_with_impl_FollowPairs_1.l1 k w x o p y q r s t u v
noncomputable def impl_reached_with_impl_FollowPairs_1.fv (q : Int) (s : List Bool) (t : List (S78)) (r : Int) (u : List Bool) (v : List (S78)) : Option ((List (List Int))) := Lim fun k => impl_reached_with_impl_FollowPairs_1.f k q s t r u v
theorem impl_reached_with_impl_FollowPairs_1.l0_is (o : List (List Int)) (p : Int) (q : Int) (r : List Bool) (s : List (S78)) (t : Int) (u : List Bool) (v : List (S78)) : Is (fun k => impl_reached_with_impl_FollowPairs_1.l0 k o p q r s t u v) (impl_reached_with_impl_FollowPairs_1.l0v o p q r s t u v) := ⟨fun k => (impl_reached_with_impl_FollowPairs_1.mono_l k).1 o p q r s t u v, rfl⟩
theorem impl_reached_with_impl_FollowPairs_1.l1_is (w : List (List Int)) (x : Int) (o : List (List Int)) (p : Int) (y : Int) (q : Int) (r : List Bool) (s : List (S78)) (t : Int) (u : List Bool) (v : List (S78)) : Is (fun k => impl_reached_with_impl_FollowPairs_1.l1 k w x o p y q r s t u v) (impl_reached_with_impl_FollowPairs_1.l1v w x o p y q r s t u v) := ⟨fun k => (impl_reached_with_impl_FollowPairs_1.mono_l k).2 w x o p y q r s t u v, rfl⟩
theorem impl_reached_with_impl_FollowPairs_1.f_is (q : Int) (s : List Bool) (t : List (S78)) (r : Int) (u : List Bool) (v : List (S78)) : Is (fun k => impl_reached_with_impl_FollowPairs_1.f k q s t r u v) (impl_reached_with_impl_FollowPairs_1.fv q s t r u v) := ⟨fun k => impl_reached_with_impl_FollowPairs_1.mono q s t r u v k, rfl⟩
theorem impl_reached_with_impl_FollowPairs_1.l0v_eq (o : List (List Int)) (p : Int) (q : Int) (r : List Bool) (s : List (S78)) (t : Int) (u : List Bool) (v : List (S78)) : impl_reached_with_impl_FollowPairs_1.l0v o p q r s t u v = if p < (o.length : Int) then (if 0 ≤ p then (if 0 < ((rd_L3 o p).length : Int) then (if 1 < ((rd_L3 o p).length : Int) then ((impl_FollowPairs_1.fv (rd (rd_L3 o p) 0) (rd (rd_L3 o p) 1) q r s t u v).bind fun y => (impl_reached_with_impl_FollowPairs_1.l1v o p y (y.length : Int) 0 q r s t u v)) else (none)) else (none)) else (none)) else (some o) := by
  refine Is.step (impl_reached_with_impl_FollowPairs_1.l0_is o p q r s t u v).mo (fun k => by rw [impl_reached_with_impl_FollowPairs_1.l0]) ?_
  exact is2_ @impl_FollowPairs_1.f_is @impl_reached_with_impl_FollowPairs_1.l1_is
theorem impl_reached_with_impl_FollowPairs_1.l1v_eq (w : List (List Int)) (x : Int) (o : List (List Int)) (p : Int) (y : Int) (q : Int) (r : List Bool) (s : List (S78)) (t : Int) (u : List Bool) (v : List (S78)) : impl_reached_with_impl_FollowPairs_1.l1v w x o p y q r s t u v = if y < p then (if 0 ≤ y then (if y < (o.length : Int) then ((slices_ContainsFunc_int_int_with_impl_reached_1.fv w (rd_L3 o y)).bind fun l => (if l = true then (impl_reached_with_impl_FollowPairs_1.l1v w x o p (wrap64 (y + 1)) q r s t u v) else (if w.length < 5864062014805 then (impl_reached_with_impl_FollowPairs_1.l1v (w ++ [rd_L3 o y]) x o p (wrap64 (y + 1)) q r s t u v) else (none)))) else (none)) else (none)) else (impl_reached_with_impl_FollowPairs_1.l0v w (wrap64 (x + 1)) q r s t u v) := by
  refine Is.step (impl_reached_with_impl_FollowPairs_1.l1_is w x o p y q r s t u v).mo (fun k => by rw [impl_reached_with_impl_FollowPairs_1.l1]) ?_
  exact is3_ @impl_reached_with_impl_FollowPairs_1.l0_is @impl_reached_with_impl_FollowPairs_1.l1_is @slices_ContainsFunc_int_int_with_impl_reached_1.f_is
theorem impl_reached_with_impl_FollowPairs_1.fv_eq (q : Int) (s : List Bool) (t : List (S78)) (r : Int) (u : List Bool) (v : List (S78)) : impl_reached_with_impl_FollowPairs_1.fv q s t r u v = impl_reached_with_impl_FollowPairs_1.l0v (([(([0, 0] : List Int))] : List (List Int))) 0 q s t r u v := by
  refine Is.lim (g := fun k => impl_reached_with_impl_FollowPairs_1.f k q s t r u v) ?_
  · unfold impl_reached_with_impl_FollowPairs_1.f
    exact is1_ @impl_reached_with_impl_FollowPairs_1.l0_is
section
variable (l : Int) (m : List Bool) (n : List (S78)) (o : Int) (p : List Bool) (q : List (S78))
noncomputable def impl_FollowPairs.fv := Lim fun k => impl_FollowPairs.f k l m n o p q
theorem impl_FollowPairs.f_is : Is (fun k => impl_FollowPairs.f k l m n o p q) (impl_FollowPairs.fv l m n o p q) := ⟨fun k => impl_FollowPairs.mono l m n o p q k, rfl⟩
theorem impl_FollowPairs.fv_eq : impl_FollowPairs.fv l m n o p q = (impl_IsMachine.fv l m n).bind fun h => (if h = true then ((impl_IsMachine.fv o p q).bind fun i => (if i = true then ((impl_reached_with_impl_FollowPairs_1.fv l m n o p q).bind fun j => (some j)) else (some ([] : List (List Int))))) else (some ([] : List (List Int)))) := by
  refine Is.lim (g := fun k => impl_FollowPairs.f k l m n o p q) ?_
  · unfold impl_FollowPairs.f
    exact is2_ @impl_IsMachine.f_is @impl_reached_with_impl_FollowPairs_1.f_is
end
end Go.Proofs.Ytldcchjbaglppaa.Print

/- Written by a program of this session (limx.py): the equations of what the printed functions come to. No condition. -/
namespace Go.Proofs.Ytldcchjbaglppaa.Print
open Go.RowKit Go.Proofs.YtldcchjbaglppaaW.PrintWords Go.Proofs.YtldcchjbaglppaaW.PrintLast Go.Proofs.Ytldcchjbaglppaa.Base
set_option linter.unusedVariables false
set_option maxRecDepth 20000
noncomputable def impl_FollowsAt.j0v (q : Int) (r : Int) (s : List Int) (t : List Int) (u : List Int) (v : List Int) (w : Bool) (x : Int) (y : List Bool) (z : List (S78)) (A : Int) (B : List Bool) (C : List (S78)) : Option (Bool) := Lim fun k => impl_FollowsAt.j0 k q r s t u v w x y z A B C
noncomputable def impl_FollowsAt.j1v (u : Int) (w : Int) (v : Bool) (x : Int) (y : List Bool) (z : List (S78)) (A : Int) (B : List Bool) (q : List (S78)) : Option (Bool) := Lim fun k => impl_FollowsAt.j1 k u w v x y z A B q
noncomputable def impl_FollowsAt.fv (x : Int) (z : List Bool) (A : List (S78)) (y : Int) (B : List Bool) (q : List (S78)) (D : Int) (E : Int) : Option (Bool) := Lim fun k => impl_FollowsAt.f k x z A y B q D E
theorem impl_FollowsAt.j0_is (q : Int) (r : Int) (s : List Int) (t : List Int) (u : List Int) (v : List Int) (w : Bool) (x : Int) (y : List Bool) (z : List (S78)) (A : Int) (B : List Bool) (C : List (S78)) : Is (fun k => impl_FollowsAt.j0 k q r s t u v w x y z A B C) (impl_FollowsAt.j0v q r s t u v w x y z A B C) := ⟨fun k => (impl_FollowsAt.mono_l k).1 q r s t u v w x y z A B C, rfl⟩
theorem impl_FollowsAt.j1_is (u : Int) (w : Int) (v : Bool) (x : Int) (y : List Bool) (z : List (S78)) (A : Int) (B : List Bool) (q : List (S78)) : Is (fun k => impl_FollowsAt.j1 k u w v x y z A B q) (impl_FollowsAt.j1v u w v x y z A B q) := ⟨fun k => (impl_FollowsAt.mono_l k).2 u w v x y z A B q, rfl⟩
theorem impl_FollowsAt.f_is (x : Int) (z : List Bool) (A : List (S78)) (y : Int) (B : List Bool) (q : List (S78)) (D : Int) (E : Int) : Is (fun k => impl_FollowsAt.f k x z A y B q D E) (impl_FollowsAt.fv x z A y B q D E) := ⟨fun k => impl_FollowsAt.mono x z A y B q D E k, rfl⟩
theorem impl_FollowsAt.j0v_eq (q : Int) (r : Int) (s : List Int) (t : List Int) (u : List Int) (v : List Int) (w : Bool) (x : Int) (y : List Bool) (z : List (S78)) (A : Int) (B : List Bool) (C : List (S78)) : impl_FollowsAt.j0v q r s t u v w x y z A B C = if w = true then (some false) else (if (u.length : Int) > 0 then (if (s.length : Int) > 0 then (if (v.length : Int) = 0 then (impl_FollowsAt.j1v q r (decide ((t.length : Int) > 0)) x y z A B C) else (impl_FollowsAt.j1v q r false x y z A B C)) else (impl_FollowsAt.j1v q r true x y z A B C)) else (if (s.length : Int) > 0 then (impl_FollowsAt.j1v q r true x y z A B C) else (if (v.length : Int) = 0 then (impl_FollowsAt.j1v q r (decide ((t.length : Int) > 0)) x y z A B C) else (impl_FollowsAt.j1v q r false x y z A B C)))) := by
  refine Is.step (impl_FollowsAt.j0_is q r s t u v w x y z A B C).mo (fun k => by rw [impl_FollowsAt.j0]) ?_
  exact is1_ @impl_FollowsAt.j1_is
theorem impl_FollowsAt.j1v_eq (u : Int) (w : Int) (v : Bool) (x : Int) (y : List Bool) (z : List (S78)) (A : Int) (B : List Bool) (q : List (S78)) : impl_FollowsAt.j1v u w v x y z A B q = if v = true then (some false) else ((impl_isEnd.f x y z u).bind fun r => (if r = true then (some true) else ((impl_isEnd.f A B q w).bind fun t => (some (!t))))) := by
  refine Is.step (impl_FollowsAt.j1_is u w v x y z A B q).mo (fun k => by rw [impl_FollowsAt.j1]) ?_
  exact is0_
theorem impl_FollowsAt.fv_eq (x : Int) (z : List Bool) (A : List (S78)) (y : Int) (B : List Bool) (q : List (S78)) (D : Int) (E : Int) : impl_FollowsAt.fv x z A y B q D E = (impl_MovesFrom.fv x z A D true).bind fun r => ((impl_MovesFrom.fv x z A D false).bind fun t => ((impl_MovesFrom.fv y B q E true).bind fun v => ((impl_MovesFrom.fv y B q E false).bind fun u => ((impl_without.fv u t).bind fun w => (if (w.length : Int) > 0 then (impl_FollowsAt.j0v D E r t v u true x z A y B q) else ((impl_without.fv r v).bind fun s => (impl_FollowsAt.j0v D E r t v u (decide ((s.length : Int) > 0)) x z A y B q))))))) := by
  refine Is.lim (g := fun k => impl_FollowsAt.f k x z A y B q D E) ?_
  · unfold impl_FollowsAt.f
    exact is3_ @impl_FollowsAt.j0_is @impl_MovesFrom.f_is @impl_without.f_is
noncomputable def impl_Follows.j0v (m : Bool) (n : Int) (o : List Bool) (p : List (S78)) (q : Int) (r : List Bool) (s : List (S78)) : Option (Bool) := Lim fun k => impl_Follows.j0 k m n o p q r s
noncomputable def impl_Follows.l0v (m : List (List Int)) (t : Int) (n : Int) (o : Int) (p : List Bool) (q : List (S78)) (r : Int) (s : List Bool) (u : List (S78)) : Option (Bool) := Lim fun k => impl_Follows.l0 k m t n o p q r s u
noncomputable def impl_Follows.fv (n : Int) (p : List Bool) (q : List (S78)) (o : Int) (r : List Bool) (s : List (S78)) : Option (Bool) := Lim fun k => impl_Follows.f k n p q o r s
theorem impl_Follows.j0_is (m : Bool) (n : Int) (o : List Bool) (p : List (S78)) (q : Int) (r : List Bool) (s : List (S78)) : Is (fun k => impl_Follows.j0 k m n o p q r s) (impl_Follows.j0v m n o p q r s) := ⟨fun k => (impl_Follows.mono_l k).1 m n o p q r s, rfl⟩
theorem impl_Follows.l0_is (m : List (List Int)) (t : Int) (n : Int) (o : Int) (p : List Bool) (q : List (S78)) (r : Int) (s : List Bool) (u : List (S78)) : Is (fun k => impl_Follows.l0 k m t n o p q r s u) (impl_Follows.l0v m t n o p q r s u) := ⟨fun k => (impl_Follows.mono_l k).2 m t n o p q r s u, rfl⟩
theorem impl_Follows.f_is (n : Int) (p : List Bool) (q : List (S78)) (o : Int) (r : List Bool) (s : List (S78)) : Is (fun k => impl_Follows.f k n p q o r s) (impl_Follows.fv n p q o r s) := ⟨fun k => impl_Follows.mono n p q o r s k, rfl⟩
theorem impl_Follows.j0v_eq (m : Bool) (n : Int) (o : List Bool) (p : List (S78)) (q : Int) (r : List Bool) (s : List (S78)) : impl_Follows.j0v m n o p q r s = if m = true then (some false) else ((impl_FollowPairs.fv n o p q r s).bind fun u => (impl_Follows.l0v u (u.length : Int) 0 n o p q r s)) := by
  refine Is.step (impl_Follows.j0_is m n o p q r s).mo (fun k => by rw [impl_Follows.j0]) ?_
  exact is2_ @impl_FollowPairs.f_is @impl_Follows.l0_is
theorem impl_Follows.l0v_eq (m : List (List Int)) (t : Int) (n : Int) (o : Int) (p : List Bool) (q : List (S78)) (r : Int) (s : List Bool) (u : List (S78)) : impl_Follows.l0v m t n o p q r s u = if n < t then (if 0 ≤ n then (if n < (m.length : Int) then (if 0 < ((rd_L3 m n).length : Int) then (if 1 < ((rd_L3 m n).length : Int) then ((impl_FollowsAt.fv o p q r s u (rd (rd_L3 m n) 0) (rd (rd_L3 m n) 1)).bind fun j => (if j = true then (impl_Follows.l0v m t (wrap64 (n + 1)) o p q r s u) else (some false))) else (none)) else (none)) else (none)) else (none)) else (some true) := by
  refine Is.step (impl_Follows.l0_is m t n o p q r s u).mo (fun k => by rw [impl_Follows.l0]) ?_
  exact is2_ @impl_Follows.l0_is @impl_FollowsAt.f_is
theorem impl_Follows.fv_eq (n : Int) (p : List Bool) (q : List (S78)) (o : Int) (r : List Bool) (s : List (S78)) : impl_Follows.fv n p q o r s = (impl_IsMachine.fv n p q).bind fun u => (if u = true then ((impl_IsMachine.fv o r s).bind fun m => (impl_Follows.j0v (!m) n p q o r s)) else (impl_Follows.j0v true n p q o r s)) := by
  refine Is.lim (g := fun k => impl_Follows.f k n p q o r s) ?_
  · unfold impl_Follows.f
    exact is2_ @impl_Follows.j0_is @impl_IsMachine.f_is
end Go.Proofs.Ytldcchjbaglppaa.Print

/- Written by a program of this session (limx.py): the equations of what the printed functions come to. No condition. -/
namespace Go.Proofs.Ytldcchjbaglppaa.Print
open Go.RowKit Go.Proofs.YtldcchjbaglppaaW.PrintWords Go.Proofs.YtldcchjbaglppaaW.PrintLast Go.Proofs.Ytldcchjbaglppaa.Base
set_option linter.unusedVariables false
set_option maxRecDepth 20000
section
variable (g : List (S34)) (h i : Int)
noncomputable def impl_FarFollows.fv := Lim fun k => impl_FarFollows.f k g h i
theorem impl_FarFollows.f_is : Is (fun k => impl_FarFollows.f k g h i) (impl_FarFollows.fv g h i) := ⟨fun k => impl_FarFollows.mono g h i k, rfl⟩
theorem impl_FarFollows.fv_eq : impl_FarFollows.fv g h i = (impl_InRange.f h 0 i).bind fun d => (if d = true then (if i < (g.length : Int) then (if 0 ≤ i then (if 0 ≤ h then (if h < (g.length : Int) then ((impl_Follows.fv ((rd_T34 g i).f0) ((rd_T34 g i).f1) ((rd_T34 g i).f2) ((rd_T34 g h).f0) ((rd_T34 g h).f1) ((rd_T34 g h).f2)).bind fun e => (some e)) else (none)) else (none)) else (none)) else (some false)) else (some false)) := by
  refine Is.lim (g := fun k => impl_FarFollows.f k g h i) ?_
  · unfold impl_FarFollows.f
    exact is1_ @impl_Follows.f_is
end
section
variable (d : List Int) (e f : Int)
noncomputable def spec_l1New.l0v := Lim fun k => spec_l1New.l0 k d e f
noncomputable def spec_l1New.fv := Lim fun k => spec_l1New.f k d
theorem spec_l1New.l0_is : Is (fun k => spec_l1New.l0 k d e f) (spec_l1New.l0v d e f) := ⟨fun k => (spec_l1New.mono_l k) d e f, rfl⟩
theorem spec_l1New.f_is : Is (fun k => spec_l1New.f k d) (spec_l1New.fv d) := ⟨fun k => spec_l1New.mono d k, rfl⟩
theorem spec_l1New.l0v_eq : spec_l1New.l0v d e f = if f < (d.length : Int) then (if f < 4000 then (if 0 ≤ f then (spec_l1New.l0v d (Go.bits .and .i64 (wrap64 ((wrap64 ((wrap64 (e * 137)) + (wrap64 (rd d f)))) + 11)) 1073741823) (wrap64 (f + 1))) else (none)) else (some (d, 0, e))) else (some (d, 0, e)) := by
  refine Is.step (spec_l1New.l0_is d e f).mo (fun k => by rw [spec_l1New.l0]) ?_
  exact is1_ @spec_l1New.l0_is
theorem spec_l1New.fv_eq : spec_l1New.fv d = spec_l1New.l0v d (wrap64 (193017 + (d.length : Int))) 0 := by
  refine Is.lim (g := fun k => spec_l1New.f k d) ?_
  · unfold spec_l1New.f
    exact is1_ @spec_l1New.l0_is
end
noncomputable def spec_MoveOf.l0v (h : Int) (i : Bool) (j : Int) (l : Int) (m : Int) (n : List Bool) (o : List (S78)) : Option (Int) := Lim fun k => spec_MoveOf.l0 k h i j l m n o
noncomputable def spec_MoveOf.fv (o : Int) (m : List Bool) (n : List (S78)) (l : Int) (h : Bool) (j : Int) : Option (Int) := Lim fun k => spec_MoveOf.f k o m n l h j
theorem spec_MoveOf.l0_is (h : Int) (i : Bool) (j : Int) (l : Int) (m : Int) (n : List Bool) (o : List (S78)) : Is (fun k => spec_MoveOf.l0 k h i j l m n o) (spec_MoveOf.l0v h i j l m n o) := ⟨fun k => (spec_MoveOf.mono_l k) h i j l m n o, rfl⟩
theorem spec_MoveOf.f_is (o : Int) (m : List Bool) (n : List (S78)) (l : Int) (h : Bool) (j : Int) : Is (fun k => spec_MoveOf.f k o m n l h j) (spec_MoveOf.fv o m n l h j) := ⟨fun k => spec_MoveOf.mono o m n l h j k, rfl⟩
theorem spec_MoveOf.l0v_eq (h : Int) (i : Bool) (j : Int) (l : Int) (m : Int) (n : List Bool) (o : List (S78)) : spec_MoveOf.l0v h i j l m n o = if l < (o.length : Int) then (if 0 ≤ l then (if ((rd_T78 o l).f0) = h then (if (((rd_T78 o l).f1) == i) = true then (if ((rd_T78 o l).f2) = j then (some l) else (spec_MoveOf.l0v h i j (wrap64 (l + 1)) m n o)) else (spec_MoveOf.l0v h i j (wrap64 (l + 1)) m n o)) else (spec_MoveOf.l0v h i j (wrap64 (l + 1)) m n o)) else (none)) else (some (-1)) := by
  refine Is.step (spec_MoveOf.l0_is h i j l m n o).mo (fun k => by rw [spec_MoveOf.l0]) ?_
  exact is1_ @spec_MoveOf.l0_is
theorem spec_MoveOf.fv_eq (o : Int) (m : List Bool) (n : List (S78)) (l : Int) (h : Bool) (j : Int) : spec_MoveOf.fv o m n l h j = spec_MoveOf.l0v l h j 0 o m n := by
  refine Is.lim (g := fun k => spec_MoveOf.f k o m n l h j) ?_
  · unfold spec_MoveOf.f
    exact is1_ @spec_MoveOf.l0_is
end Go.Proofs.Ytldcchjbaglppaa.Print

/- Written by a program of this session (limx.py): the equations of what the printed functions come to. No condition. -/
namespace Go.Proofs.Ytldcchjbaglppaa.Print
open Go.RowKit Go.Proofs.YtldcchjbaglppaaW.PrintWords Go.Proofs.YtldcchjbaglppaaW.PrintLast Go.Proofs.Ytldcchjbaglppaa.Base
set_option linter.unusedVariables false
set_option maxRecDepth 20000
noncomputable def spec_DualOf.l0v (h : Int) (i : Int) (j : List Bool) (l : List (S78)) (m : Int) (n : List Bool) (o : List (S78)) : Option (Int × List Bool × (List (S78))) := Lim fun k => spec_DualOf.l0 k h i j l m n o
noncomputable def spec_DualOf.fv (o : Int) (l : List Bool) (n : List (S78)) : Option (Int × List Bool × (List (S78))) := Lim fun k => spec_DualOf.f k o l n
theorem spec_DualOf.l0_is (h : Int) (i : Int) (j : List Bool) (l : List (S78)) (m : Int) (n : List Bool) (o : List (S78)) : Is (fun k => spec_DualOf.l0 k h i j l m n o) (spec_DualOf.l0v h i j l m n o) := ⟨fun k => (spec_DualOf.mono_l k) h i j l m n o, rfl⟩
theorem spec_DualOf.f_is (o : Int) (l : List Bool) (n : List (S78)) : Is (fun k => spec_DualOf.f k o l n) (spec_DualOf.fv o l n) := ⟨fun k => spec_DualOf.mono o l n k, rfl⟩
theorem spec_DualOf.l0v_eq (h : Int) (i : Int) (j : List Bool) (l : List (S78)) (m : Int) (n : List Bool) (o : List (S78)) : spec_DualOf.l0v h i j l m n o = if h < (l.length : Int) then (if 0 ≤ h then (if o.length < 4398046511104 then (spec_DualOf.l0v (wrap64 (h + 1)) i j l m n (o ++ [(⟨(rd_T78 l h).f0, !((rd_T78 l h).f1), (rd_T78 l h).f2, (rd_T78 l h).f3⟩ : S78)])) else (none)) else (none)) else (some (m, n, o)) := by
  refine Is.step (spec_DualOf.l0_is h i j l m n o).mo (fun k => by rw [spec_DualOf.l0]) ?_
  exact is1_ @spec_DualOf.l0_is
theorem spec_DualOf.fv_eq (o : Int) (l : List Bool) (n : List (S78)) : spec_DualOf.fv o l n = (some (([] : List Bool) : List Bool)).bind fun m => (if m.length + l.length < 140737488355328 then (spec_DualOf.l0v 0 o l n o (m ++ l) ([] : List (S78))) else (none)) := by
  refine Is.lim (g := fun k => spec_DualOf.f k o l n) ?_
  · unfold spec_DualOf.f
    exact is1_ @spec_DualOf.l0_is
end Go.Proofs.Ytldcchjbaglppaa.Print

/- Written by a program of this session (limx.py): the equations of what the printed functions come to. No condition. -/
namespace Go.Proofs.Ytldcchjbaglppaa.Print
open Go.RowKit Go.Proofs.YtldcchjbaglppaaW.PrintWords Go.Proofs.YtldcchjbaglppaaW.PrintLast Go.Proofs.Ytldcchjbaglppaa.Base
set_option linter.unusedVariables false
set_option maxRecDepth 20000
noncomputable def spec_l13Draw.l0v (q : Int) (r : List Int) (s : Int) (t : Int) (u : Int) (v : List Bool) (w : List (S78)) : Option (Int × List Bool × (List (S78)) × Int × Int) := Lim fun k => spec_l13Draw.l0 k q r s t u v w
noncomputable def spec_l13Draw.j1v (x : Int) (y : Bool) (s : Int) (v : List Int) (w : Int) (z : Int) (u : Int) (A : List Bool) (r : List (S78)) : Option (Int × List Bool × (List (S78)) × Int × Int) := Lim fun k => spec_l13Draw.j1 k x y s v w z u A r
noncomputable def spec_l13Draw.l1v (q : Int) (B : Bool) (C : Int) (D : Int) (v : List Int) (s : Int) (t : Int) (A : Int) (u : List Bool) (r : List (S78)) : Option (Int × List Bool × (List (S78)) × Int × Int) := Lim fun k => spec_l13Draw.l1 k q B C D v s t A u r
noncomputable def spec_l13Draw.fv (A : List Int) (r : Int) (v : Int) : Option (Int × List Bool × (List (S78)) × Int × Int) := Lim fun k => spec_l13Draw.f k A r v
theorem spec_l13Draw.l0_is (q : Int) (r : List Int) (s : Int) (t : Int) (u : Int) (v : List Bool) (w : List (S78)) : Is (fun k => spec_l13Draw.l0 k q r s t u v w) (spec_l13Draw.l0v q r s t u v w) := ⟨fun k => (spec_l13Draw.mono_l k).1 q r s t u v w, rfl⟩
theorem spec_l13Draw.j1_is (x : Int) (y : Bool) (s : Int) (v : List Int) (w : Int) (z : Int) (u : Int) (A : List Bool) (r : List (S78)) : Is (fun k => spec_l13Draw.j1 k x y s v w z u A r) (spec_l13Draw.j1v x y s v w z u A r) := ⟨fun k => (spec_l13Draw.mono_l k).2.1 x y s v w z u A r, rfl⟩
theorem spec_l13Draw.l1_is (q : Int) (B : Bool) (C : Int) (D : Int) (v : List Int) (s : Int) (t : Int) (A : Int) (u : List Bool) (r : List (S78)) : Is (fun k => spec_l13Draw.l1 k q B C D v s t A u r) (spec_l13Draw.l1v q B C D v s t A u r) := ⟨fun k => (spec_l13Draw.mono_l k).2.2 q B C D v s t A u r, rfl⟩
theorem spec_l13Draw.f_is (A : List Int) (r : Int) (v : Int) : Is (fun k => spec_l13Draw.f k A r v) (spec_l13Draw.fv A r v) := ⟨fun k => spec_l13Draw.mono A r v k, rfl⟩
theorem spec_l13Draw.l0v_eq (q : Int) (r : List Int) (s : Int) (t : Int) (u : Int) (v : List Bool) (w : List (S78)) : spec_l13Draw.l0v q r s t u v w = if q < u then ((spec_l1Once.f r s t 2).bind fun x => ((spec_l1Below.f r x.2.1 x.2.2 3).bind fun A => (if q = 0 then ((spec_l1Below.f r A.2.1 A.2.2 2).bind fun y => (spec_l13Draw.j1v q x.1 (wrap64 (1 + y.1)) r y.2.1 y.2.2 u v w)) else (spec_l13Draw.j1v q x.1 A.1 r A.2.1 A.2.2 u v w)))) else (some (u, v, w, s, t)) := by
  refine Is.step (spec_l13Draw.l0_is q r s t u v w).mo (fun k => by rw [spec_l13Draw.l0]) ?_
  exact is1_ @spec_l13Draw.j1_is
theorem spec_l13Draw.j1v_eq (x : Int) (y : Bool) (s : Int) (v : List Int) (w : Int) (z : Int) (u : Int) (A : List Bool) (r : List (S78)) : spec_l13Draw.j1v x y s v w z u A r = spec_l13Draw.l1v x y s 0 v w z u A r := by
  refine Is.step (spec_l13Draw.j1_is x y s v w z u A r).mo (fun k => by rw [spec_l13Draw.j1]) ?_
  exact is1_ @spec_l13Draw.l1_is
theorem spec_l13Draw.l1v_eq (q : Int) (B : Bool) (C : Int) (D : Int) (v : List Int) (s : Int) (t : Int) (A : Int) (u : List Bool) (r : List (S78)) : spec_l13Draw.l1v q B C D v s t A u r = if D < C then ((spec_l1Below.f v s t 3).bind fun x => ((spec_l1Below.f v x.2.1 x.2.2 A).bind fun w => ((spec_MoveOf.fv A u r q B x.1).bind fun m => (if m < 0 then (if r.length < 4398046511104 then (spec_l13Draw.l1v q B C (wrap64 (D + 1)) v w.2.1 w.2.2 A u (r ++ [(⟨q, B, x.1, w.1⟩ : S78)])) else (none)) else (spec_l13Draw.l1v q B C (wrap64 (D + 1)) v w.2.1 w.2.2 A u r))))) else (if C = 0 then (if u.length < 140737488355328 then (spec_l13Draw.l0v (wrap64 (q + 1)) v s t A (u ++ [true]) r) else (none)) else ((spec_l1Once.f v s t 4).bind fun y => (if u.length < 140737488355328 then (spec_l13Draw.l0v (wrap64 (q + 1)) v y.2.1 y.2.2 A (u ++ [y.1]) r) else (none)))) := by
  refine Is.step (spec_l13Draw.l1_is q B C D v s t A u r).mo (fun k => by rw [spec_l13Draw.l1]) ?_
  exact is3_ @spec_MoveOf.f_is @spec_l13Draw.l0_is @spec_l13Draw.l1_is
theorem spec_l13Draw.fv_eq (A : List Int) (r : Int) (v : Int) : spec_l13Draw.fv A r v = (spec_l1Below.f A r v 4).bind fun u => (spec_l13Draw.l0v 0 A u.2.1 u.2.2 (wrap64 (1 + u.1)) ([] : List Bool) ([] : List (S78))) := by
  refine Is.lim (g := fun k => spec_l13Draw.f k A r v) ?_
  · unfold spec_l13Draw.f
    exact is1_ @spec_l13Draw.l0_is
end Go.Proofs.Ytldcchjbaglppaa.Print

/- Written by a program of this session (limx.py): the equations of what the printed functions come to. No condition. -/
namespace Go.Proofs.Ytldcchjbaglppaa.Print
open Go.RowKit Go.Proofs.YtldcchjbaglppaaW.PrintWords Go.Proofs.YtldcchjbaglppaaW.PrintLast Go.Proofs.Ytldcchjbaglppaa.Base
set_option linter.unusedVariables false
set_option maxRecDepth 20000
noncomputable def spec_l4Put.l0v (n : List Int) (o : Int) (p : Int) : Option (List Int) := Lim fun k => spec_l4Put.l0 k n o p
noncomputable def spec_l4Put.fv (p : List Int) (n : Int) : Option (List Int) := Lim fun k => spec_l4Put.f k p n
theorem spec_l4Put.l0_is (n : List Int) (o : Int) (p : Int) : Is (fun k => spec_l4Put.l0 k n o p) (spec_l4Put.l0v n o p) := ⟨fun k => (spec_l4Put.mono_l k) n o p, rfl⟩
theorem spec_l4Put.f_is (p : List Int) (n : Int) : Is (fun k => spec_l4Put.f k p n) (spec_l4Put.fv p n) := ⟨fun k => spec_l4Put.mono p n k, rfl⟩
theorem spec_l4Put.l0v_eq (n : List Int) (o : Int) (p : Int) : spec_l4Put.l0v n o p = if p < (n.length : Int) then (if 0 ≤ p then (if (rd n p) < o then (spec_l4Put.l0v n o (wrap64 (p + 1))) else (if (rd n p) = o then ((some (([] : List Int) : List Int)).bind fun c => (if c.length + n.length < 17592186044416 then (some (c ++ n)) else (none))) else ((some (([] : List Int) : List Int)).bind fun d => (if p ≤ (n.length : Int) then (if d.length + (n.take (p : Int).toNat).length < 17592186044416 then ((some (d ++ (n.take (p : Int).toNat) : List Int)).bind fun e => ((some (([o] : List Int) : List Int)).bind fun f => (if e.length + f.length < 17592186044416 then ((some (e ++ f : List Int)).bind fun g => (if g.length + (n.drop (p : Int).toNat).length < 17592186044416 then (some (g ++ (n.drop (p : Int).toNat))) else (none))) else (none)))) else (none)) else (none))))) else (none)) else ((some (([] : List Int) : List Int)).bind fun h => (if 0 ≤ p then (if p ≤ (n.length : Int) then (if h.length + (n.take (p : Int).toNat).length < 17592186044416 then ((some (h ++ (n.take (p : Int).toNat) : List Int)).bind fun i => ((some (([o] : List Int) : List Int)).bind fun j => (if i.length + j.length < 17592186044416 then ((some (i ++ j : List Int)).bind fun l => (if l.length + (n.drop (p : Int).toNat).length < 17592186044416 then (some (l ++ (n.drop (p : Int).toNat))) else (none))) else (none)))) else (none)) else (none)) else (none))) := by
  refine Is.step (spec_l4Put.l0_is n o p).mo (fun k => by rw [spec_l4Put.l0]) ?_
  exact is1_ @spec_l4Put.l0_is
theorem spec_l4Put.fv_eq (p : List Int) (n : Int) : spec_l4Put.fv p n = spec_l4Put.l0v p n 0 := by
  refine Is.lim (g := fun k => spec_l4Put.f k p n) ?_
  · unfold spec_l4Put.f
    exact is1_ @spec_l4Put.l0_is
noncomputable def spec_MovesFrom.l0v (j : Int) (l : Bool) (m : List Int) (n : Int) (o : Int) (p : List Bool) (q : List (S78)) : Option (List Int) := Lim fun k => spec_MovesFrom.l0 k j l m n o p q
noncomputable def spec_MovesFrom.fv (q : Int) (o : List Bool) (p : List (S78)) (n : Int) (r : Bool) : Option (List Int) := Lim fun k => spec_MovesFrom.f k q o p n r
theorem spec_MovesFrom.l0_is (j : Int) (l : Bool) (m : List Int) (n : Int) (o : Int) (p : List Bool) (q : List (S78)) : Is (fun k => spec_MovesFrom.l0 k j l m n o p q) (spec_MovesFrom.l0v j l m n o p q) := ⟨fun k => (spec_MovesFrom.mono_l k) j l m n o p q, rfl⟩
theorem spec_MovesFrom.f_is (q : Int) (o : List Bool) (p : List (S78)) (n : Int) (r : Bool) : Is (fun k => spec_MovesFrom.f k q o p n r) (spec_MovesFrom.fv q o p n r) := ⟨fun k => spec_MovesFrom.mono q o p n r k, rfl⟩
theorem spec_MovesFrom.l0v_eq (j : Int) (l : Bool) (m : List Int) (n : Int) (o : Int) (p : List Bool) (q : List (S78)) : spec_MovesFrom.l0v j l m n o p q = if n < (q.length : Int) then (if 0 ≤ n then (if ((rd_T78 q n).f0) = j then (if (((rd_T78 q n).f1) == l) = true then ((spec_l4Put.fv m ((rd_T78 q n).f2)).bind fun r => (spec_MovesFrom.l0v j l r (wrap64 (n + 1)) o p q)) else (spec_MovesFrom.l0v j l m (wrap64 (n + 1)) o p q)) else (spec_MovesFrom.l0v j l m (wrap64 (n + 1)) o p q)) else (none)) else (some m) := by
  refine Is.step (spec_MovesFrom.l0_is j l m n o p q).mo (fun k => by rw [spec_MovesFrom.l0]) ?_
  exact is2_ @spec_MovesFrom.l0_is @spec_l4Put.f_is
theorem spec_MovesFrom.fv_eq (q : Int) (o : List Bool) (p : List (S78)) (n : Int) (r : Bool) : spec_MovesFrom.fv q o p n r = spec_MovesFrom.l0v n r (([] : List Int)) 0 q o p := by
  refine Is.lim (g := fun k => spec_MovesFrom.f k q o p n r) ?_
  · unfold spec_MovesFrom.f
    exact is1_ @spec_MovesFrom.l0_is
end Go.Proofs.Ytldcchjbaglppaa.Print

/- Written by a program of this session (limx.py): the equations of what the printed functions come to. No condition. -/
namespace Go.Proofs.Ytldcchjbaglppaa.Print
open Go.RowKit Go.Proofs.YtldcchjbaglppaaW.PrintWords Go.Proofs.YtldcchjbaglppaaW.PrintLast Go.Proofs.Ytldcchjbaglppaa.Base
set_option linter.unusedVariables false
set_option maxRecDepth 20000
noncomputable def spec_l15Next.l0v (w : Int) (x : List Int) (y : Int) (z : Int) (A : Int) (B : List Bool) (C : List (S78)) : Option (Int × List Bool × (List (S78)) × Int × Int) := Lim fun k => spec_l15Next.l0 k w x y z A B C
noncomputable def spec_l15Next.j1v (D : Int) (E : Bool) (w : List Int) (F : Int) (G : Int) (B : Int) (x : List Bool) (C : List (S78)) : Option (Int × List Bool × (List (S78)) × Int × Int) := Lim fun k => spec_l15Next.j1 k D E w F G B x C
noncomputable def spec_l15Next.j2v (H : Int) (I : Int) (J : Bool) (y : List Int) (K : Int) (E : Int) (A : Int) (B : List Bool) (C : List (S78)) (F : Int) (G : Bool) (L : Int) (M : Int) : Option (Int × List Bool × (List (S78)) × Int × Int) := Lim fun k => spec_l15Next.j2 k H I J y K E A B C F G L M
noncomputable def spec_l15Next.fv (x : List Int) (G : Int) (K : Int) (y : Int) (w : List Bool) (F : List (S78)) : Option (Int × List Bool × (List (S78)) × Int × Int) := Lim fun k => spec_l15Next.f k x G K y w F
theorem spec_l15Next.l0_is (w : Int) (x : List Int) (y : Int) (z : Int) (A : Int) (B : List Bool) (C : List (S78)) : Is (fun k => spec_l15Next.l0 k w x y z A B C) (spec_l15Next.l0v w x y z A B C) := ⟨fun k => (spec_l15Next.mono_l k).1 w x y z A B C, rfl⟩
theorem spec_l15Next.j1_is (D : Int) (E : Bool) (w : List Int) (F : Int) (G : Int) (B : Int) (x : List Bool) (C : List (S78)) : Is (fun k => spec_l15Next.j1 k D E w F G B x C) (spec_l15Next.j1v D E w F G B x C) := ⟨fun k => (spec_l15Next.mono_l k).2.1 D E w F G B x C, rfl⟩
theorem spec_l15Next.j2_is (H : Int) (I : Int) (J : Bool) (y : List Int) (K : Int) (E : Int) (A : Int) (B : List Bool) (C : List (S78)) (F : Int) (G : Bool) (L : Int) (M : Int) : Is (fun k => spec_l15Next.j2 k H I J y K E A B C F G L M) (spec_l15Next.j2v H I J y K E A B C F G L M) := ⟨fun k => (spec_l15Next.mono_l k).2.2 H I J y K E A B C F G L M, rfl⟩
theorem spec_l15Next.f_is (x : List Int) (G : Int) (K : Int) (y : Int) (w : List Bool) (F : List (S78)) : Is (fun k => spec_l15Next.f k x G K y w F) (spec_l15Next.fv x G K y w F) := ⟨fun k => spec_l15Next.mono x G K y w F k, rfl⟩
theorem spec_l15Next.l0v_eq (w : Int) (x : List Int) (y : Int) (z : Int) (A : Int) (B : List Bool) (C : List (S78)) : spec_l15Next.l0v w x y z A B C = if w > 0 then (spec_l15Next.j1v w (decide ((C.length : Int) > 0)) x y z A B C) else (spec_l15Next.j1v w false x y z A B C) := by
  refine Is.step (spec_l15Next.l0_is w x y z A B C).mo (fun k => by rw [spec_l15Next.l0]) ?_
  exact is1_ @spec_l15Next.j1_is
theorem spec_l15Next.j1v_eq (D : Int) (E : Bool) (w : List Int) (F : Int) (G : Int) (B : Int) (x : List Bool) (C : List (S78)) : spec_l15Next.j1v D E w F G B x C = if E = true then ((spec_l1Below.f w F G (C.length : Int)).bind fun A => (if 0 ≤ A.1 then (if A.1 < (C.length : Int) then (if (rd_T78 C A.1).f1 = true then ((spec_MovesFrom.fv B x C ((rd_T78 C A.1).f0) true).bind fun K => (spec_l15Next.j2v D A.1 (decide ((K.length : Int) > 1)) w A.2.1 A.2.2 B x C ((rd_T78 C A.1).f0) ((rd_T78 C A.1).f1) ((rd_T78 C A.1).f2) ((rd_T78 C A.1).f3))) else (spec_l15Next.j2v D A.1 false w A.2.1 A.2.2 B x C ((rd_T78 C A.1).f0) ((rd_T78 C A.1).f1) ((rd_T78 C A.1).f2) ((rd_T78 C A.1).f3))) else (none)) else (none))) else ((spec_l1Once.f w F G 6).bind fun y => (if y.1 = true then (if 0 ≤ (wrap64 ((C.length : Int) / 2)) then (if (wrap64 ((C.length : Int) / 2)) ≤ (C.length : Int) then (some (B, x, (C.take ((wrap64 ((C.length : Int) / 2)) : Int).toNat), y.2.1, y.2.2)) else (none)) else (none)) else (some (B, x, C, y.2.1, y.2.2)))) := by
  refine Is.step (spec_l15Next.j1_is D E w F G B x C).mo (fun k => by rw [spec_l15Next.j1]) ?_
  exact is2_ @spec_MovesFrom.f_is @spec_l15Next.j2_is
theorem spec_l15Next.j2v_eq (H : Int) (I : Int) (J : Bool) (y : List Int) (K : Int) (E : Int) (A : Int) (B : List Bool) (C : List (S78)) (F : Int) (G : Bool) (L : Int) (M : Int) : spec_l15Next.j2v H I J y K E A B C F G L M = if J = true then ((some (([] : List (S78)) : List (S78))).bind fun D => (if 0 ≤ I then (if I ≤ (C.length : Int) then ((some (C.take (I : Int).toNat : List (S78))).bind fun n => (if D.length + n.length < 4398046511104 then ((some (D ++ n : List (S78))).bind fun o => (if 0 ≤ (wrap64 (I + 1)) then (if (wrap64 (I + 1)) ≤ (C.length : Int) then ((some (C.drop ((wrap64 (I + 1)) : Int).toNat : List (S78))).bind fun p => (if o.length + p.length < 4398046511104 then (spec_l15Next.l0v (wrap64 (H - 1)) y K E A B (o ++ p)) else (none))) else (none)) else (none))) else (none))) else (none)) else (none))) else (if G = true then (spec_l15Next.l0v (wrap64 (H - 1)) y K E A B C) else ((spec_l1Below.f y K E 5).bind fun w => ((spec_l1Below.f y w.2.1 w.2.2 A).bind fun x => ((spec_MoveOf.fv A B C F false w.1).bind fun r => (if r < 0 then (if (C.length : Int) < 12 then (if C.length < 4398046511104 then (spec_l15Next.l0v (wrap64 (H - 1)) y x.2.1 x.2.2 A B (C ++ [(⟨F, G, w.1, x.1⟩ : S78)])) else (none)) else (spec_l15Next.l0v (wrap64 (H - 1)) y x.2.1 x.2.2 A B C)) else (spec_l15Next.l0v (wrap64 (H - 1)) y x.2.1 x.2.2 A B C)))))) := by
  refine Is.step (spec_l15Next.j2_is H I J y K E A B C F G L M).mo (fun k => by rw [spec_l15Next.j2]) ?_
  exact is2_ @spec_MoveOf.f_is @spec_l15Next.l0_is
theorem spec_l15Next.fv_eq (x : List Int) (G : Int) (K : Int) (y : Int) (w : List Bool) (F : List (S78)) : spec_l15Next.fv x G K y w F = (spec_DualOf.fv y w F).bind fun C => ((spec_DualOf.fv C.1 C.2.1 C.2.2).bind fun A => ((spec_l1Below.f x G K 3).bind fun B => (spec_l15Next.l0v B.1 x B.2.1 B.2.2 A.1 A.2.1 A.2.2))) := by
  refine Is.lim (g := fun k => spec_l15Next.f k x G K y w F) ?_
  · unfold spec_l15Next.f
    exact is2_ @spec_DualOf.f_is @spec_l15Next.l0_is
end Go.Proofs.Ytldcchjbaglppaa.Print

/- Written by a program of this session (limx.py): the equations of what the printed functions come to. No condition. -/
namespace Go.Proofs.Ytldcchjbaglppaa.Print
open Go.RowKit Go.Proofs.YtldcchjbaglppaaW.PrintWords Go.Proofs.YtldcchjbaglppaaW.PrintLast Go.Proofs.Ytldcchjbaglppaa.Base
set_option linter.unusedVariables false
set_option maxRecDepth 20000
noncomputable def spec_l30Line.l0v (j : List (S34)) (l : Int) (m : List Int) (n : Int) (o : Int) : Option ((List (S34)) × Int × Int) := Lim fun k => spec_l30Line.l0 k j l m n o
noncomputable def spec_l30Line.fv (p : List Int) (m : Int) (j : Int) : Option ((List (S34)) × Int × Int) := Lim fun k => spec_l30Line.f k p m j
theorem spec_l30Line.l0_is (j : List (S34)) (l : Int) (m : List Int) (n : Int) (o : Int) : Is (fun k => spec_l30Line.l0 k j l m n o) (spec_l30Line.l0v j l m n o) := ⟨fun k => (spec_l30Line.mono_l k) j l m n o, rfl⟩
theorem spec_l30Line.f_is (p : List Int) (m : Int) (j : Int) : Is (fun k => spec_l30Line.f k p m j) (spec_l30Line.fv p m j) := ⟨fun k => spec_l30Line.mono p m j k, rfl⟩
theorem spec_l30Line.l0v_eq (j : List (S34)) (l : Int) (m : List Int) (n : Int) (o : Int) : spec_l30Line.l0v j l m n o = if l > 0 then (if 0 ≤ (wrap64 ((j.length : Int) - 1)) then (if (wrap64 ((j.length : Int) - 1)) < (j.length : Int) then ((spec_l15Next.fv m n o ((rd_T34 j (wrap64 ((j.length : Int) - 1))).f0) ((rd_T34 j (wrap64 ((j.length : Int) - 1))).f1) ((rd_T34 j (wrap64 ((j.length : Int) - 1))).f2)).bind fun a => ((spec_l1Once.f m a.2.2.2.1 a.2.2.2.2 8).bind fun b => (if b.1 = true then ((spec_l13Draw.fv m b.2.1 b.2.2).bind fun p => (if j.length < 2513169434916 then (spec_l30Line.l0v (j ++ [(⟨p.1, p.2.1, p.2.2.1⟩ : S34)]) (wrap64 (l - 1)) m p.2.2.2.1 p.2.2.2.2) else (none))) else (if j.length < 2513169434916 then (spec_l30Line.l0v (j ++ [(⟨a.1, a.2.1, a.2.2.1⟩ : S34)]) (wrap64 (l - 1)) m b.2.1 b.2.2) else (none))))) else (none)) else (none)) else (some (j, n, o)) := by
  refine Is.step (spec_l30Line.l0_is j l m n o).mo (fun k => by rw [spec_l30Line.l0]) ?_
  exact is3_ @spec_l13Draw.f_is @spec_l15Next.f_is @spec_l30Line.l0_is
theorem spec_l30Line.fv_eq (p : List Int) (m : Int) (j : Int) : spec_l30Line.fv p m j = (spec_l13Draw.fv p m j).bind fun a => ((spec_l1Below.f p a.2.2.2.1 a.2.2.2.2 3).bind fun b => (spec_l30Line.l0v (([(⟨a.1, a.2.1, a.2.2.1⟩ : S34)] : List (S34))) (wrap64 (1 + b.1)) p b.2.1 b.2.2)) := by
  refine Is.lim (g := fun k => spec_l30Line.f k p m j) ?_
  · unfold spec_l30Line.f
    exact is2_ @spec_l13Draw.f_is @spec_l30Line.l0_is
end Go.Proofs.Ytldcchjbaglppaa.Print

/- Written by a program of this session (limx.py): the equations of what the printed functions come to. No condition. -/
namespace Go.Proofs.Ytldcchjbaglppaa.Print
open Go.RowKit Go.Proofs.YtldcchjbaglppaaW.PrintWords Go.Proofs.YtldcchjbaglppaaW.PrintLast Go.Proofs.Ytldcchjbaglppaa.Base
set_option linter.unusedVariables false
set_option maxRecDepth 20000
noncomputable def spec_l14Pair.l0v (w : Int) (x : List Int) (y : Int) (z : Int) (A : Int) (B : List Bool) (C : List (S78)) (D : Int) (E : List Bool) (F : List (S78)) : Option (Int × List Bool × (List (S78)) × Int × List Bool × (List (S78)) × Int × Int) := Lim fun k => spec_l14Pair.l0 k w x y z A B C D E F
noncomputable def spec_l14Pair.j1v (G : Int) (H : Bool) (w : List Int) (I : Int) (J : Int) (x : Int) (y : List Bool) (z : List (S78)) (B : Int) (D : List Bool) (F : List (S78)) : Option (Int × List Bool × (List (S78)) × Int × List Bool × (List (S78)) × Int × Int) := Lim fun k => spec_l14Pair.j1 k G H w I J x y z B D F
noncomputable def spec_l14Pair.fv (C : List Int) (D : Int) (x : Int) : Option (Int × List Bool × (List (S78)) × Int × List Bool × (List (S78)) × Int × Int) := Lim fun k => spec_l14Pair.f k C D x
theorem spec_l14Pair.l0_is (w : Int) (x : List Int) (y : Int) (z : Int) (A : Int) (B : List Bool) (C : List (S78)) (D : Int) (E : List Bool) (F : List (S78)) : Is (fun k => spec_l14Pair.l0 k w x y z A B C D E F) (spec_l14Pair.l0v w x y z A B C D E F) := ⟨fun k => (spec_l14Pair.mono_l k).1 w x y z A B C D E F, rfl⟩
theorem spec_l14Pair.j1_is (G : Int) (H : Bool) (w : List Int) (I : Int) (J : Int) (x : Int) (y : List Bool) (z : List (S78)) (B : Int) (D : List Bool) (F : List (S78)) : Is (fun k => spec_l14Pair.j1 k G H w I J x y z B D F) (spec_l14Pair.j1v G H w I J x y z B D F) := ⟨fun k => (spec_l14Pair.mono_l k).2 G H w I J x y z B D F, rfl⟩
theorem spec_l14Pair.f_is (C : List Int) (D : Int) (x : Int) : Is (fun k => spec_l14Pair.f k C D x) (spec_l14Pair.fv C D x) := ⟨fun k => spec_l14Pair.mono C D x k, rfl⟩
theorem spec_l14Pair.l0v_eq (w : Int) (x : List Int) (y : Int) (z : Int) (A : Int) (B : List Bool) (C : List (S78)) (D : Int) (E : List Bool) (F : List (S78)) : spec_l14Pair.l0v w x y z A B C D E F = if w > 0 then (spec_l14Pair.j1v w (decide ((F.length : Int) > 0)) x y z A B C D E F) else (spec_l14Pair.j1v w false x y z A B C D E F) := by
  refine Is.step (spec_l14Pair.l0_is w x y z A B C D E F).mo (fun k => by rw [spec_l14Pair.l0]) ?_
  exact is1_ @spec_l14Pair.j1_is
theorem spec_l14Pair.j1v_eq (G : Int) (H : Bool) (w : List Int) (I : Int) (J : Int) (x : Int) (y : List Bool) (z : List (S78)) (B : Int) (D : List Bool) (F : List (S78)) : spec_l14Pair.j1v G H w I J x y z B D F = if H = true then ((spec_l1Below.f w I J (F.length : Int)).bind fun A => ((spec_l1Below.f w A.2.1 A.2.2 4).bind fun C => (if C.1 = 0 then ((some (([] : List (S78)) : List (S78))).bind fun p => (if 0 ≤ A.1 then (if A.1 ≤ (F.length : Int) then ((some (F.take (A.1 : Int).toNat : List (S78))).bind fun q => (if p.length + q.length < 4398046511104 then ((some (p ++ q : List (S78))).bind fun r => (if 0 ≤ (wrap64 (A.1 + 1)) then (if (wrap64 (A.1 + 1)) ≤ (F.length : Int) then ((some (F.drop ((wrap64 (A.1 + 1)) : Int).toNat : List (S78))).bind fun s => (if r.length + s.length < 4398046511104 then (spec_l14Pair.l0v (wrap64 (G - 1)) w C.2.1 C.2.2 x y z B D (r ++ s)) else (none))) else (none)) else (none))) else (none))) else (none)) else (none))) else (if C.1 = 1 then (if 0 ≤ A.1 then (if A.1 < (F.length : Int) then ((spec_l1Below.f w C.2.1 C.2.2 4).bind fun l => ((spec_MoveOf.fv B D F ((rd_T78 F A.1).f0) ((rd_T78 F A.1).f1) l.1).bind fun t => (if t < 0 then (if F.length < 4398046511104 then (spec_l14Pair.l0v (wrap64 (G - 1)) w l.2.1 l.2.2 x y z B D (F ++ [(⟨(rd_T78 F A.1).f0, (rd_T78 F A.1).f1, l.1, (rd_T78 F A.1).f3⟩ : S78)])) else (none)) else (spec_l14Pair.l0v (wrap64 (G - 1)) w l.2.1 l.2.2 x y z B D F)))) else (none)) else (none)) else (if C.1 = 2 then ((spec_l1Below.f w C.2.1 C.2.2 B).bind fun m => (if 0 ≤ A.1 then (if A.1 < (F.length : Int) then (spec_l14Pair.l0v (wrap64 (G - 1)) w m.2.1 m.2.2 x y z B D (F.set (A.1 : Int).toNat (⟨(rd_T78 F A.1).f0, (rd_T78 F A.1).f1, (rd_T78 F A.1).f2, m.1⟩ : S78))) else (none)) else (none))) else (spec_l14Pair.l0v (wrap64 (G - 1)) w C.2.1 C.2.2 x y z B D F)))))) else (some (x, y, z, B, D, F, I, J)) := by
  refine Is.step (spec_l14Pair.j1_is G H w I J x y z B D F).mo (fun k => by rw [spec_l14Pair.j1]) ?_
  exact is2_ @spec_MoveOf.f_is @spec_l14Pair.l0_is
theorem spec_l14Pair.fv_eq (C : List Int) (D : Int) (x : Int) : spec_l14Pair.fv C D x = (spec_l13Draw.fv C D x).bind fun F => ((spec_DualOf.fv F.1 F.2.1 F.2.2.1).bind fun A => ((spec_l1Below.f C F.2.2.2.1 F.2.2.2.2 3).bind fun B => (spec_l14Pair.l0v B.1 C B.2.1 B.2.2 F.1 F.2.1 F.2.2.1 A.1 A.2.1 A.2.2))) := by
  refine Is.lim (g := fun k => spec_l14Pair.f k C D x) ?_
  · unfold spec_l14Pair.f
    exact is3_ @spec_DualOf.f_is @spec_l13Draw.f_is @spec_l14Pair.l0_is
end Go.Proofs.Ytldcchjbaglppaa.Print

/- Written by a program of this session (limx.py): the equations of what the printed functions come to. No condition. -/
namespace Go.Proofs.Ytldcchjbaglppaa.Print
open Go.RowKit Go.Proofs.YtldcchjbaglppaaW.PrintWords Go.Proofs.YtldcchjbaglppaaW.PrintLast Go.Proofs.Ytldcchjbaglppaa.Base
set_option linter.unusedVariables false
set_option maxRecDepth 20000
section
variable (i : List Int)
noncomputable def spec_DrawWorksWith.fv := Lim fun k => spec_DrawWorksWith.f k i
theorem spec_DrawWorksWith.f_is : Is (fun k => spec_DrawWorksWith.f k i) (spec_DrawWorksWith.fv i) := ⟨fun k => spec_DrawWorksWith.mono i k, rfl⟩
theorem spec_DrawWorksWith.fv_eq : spec_DrawWorksWith.fv i = (spec_l1New.fv i).bind fun b => ((spec_l30Line.fv b.1 b.2.1 b.2.2).bind fun a => ((spec_l1Once.f b.1 a.2.1 a.2.2 3).bind fun c => (if c.1 = true then ((spec_l14Pair.fv b.1 c.2.1 c.2.2).bind fun e => (some (a.1, e.2.2.2.1, e.2.2.2.2.1, e.2.2.2.2.2.1))) else ((spec_l1Below.f b.1 c.2.1 c.2.2 (a.1.length : Int)).bind fun d => (if 0 ≤ d.1 then (if d.1 < (a.1.length : Int) then ((spec_DualOf.fv ((rd_T34 a.1 d.1).f0) ((rd_T34 a.1 d.1).f1) ((rd_T34 a.1 d.1).f2)).bind fun g => (some (a.1, g.1, g.2.1, g.2.2))) else (none)) else (none)))))) := by
  refine Is.lim (g := fun k => spec_DrawWorksWith.f k i) ?_
  · unfold spec_DrawWorksWith.f
    exact is4_ @spec_DualOf.f_is @spec_l14Pair.f_is @spec_l1New.f_is @spec_l30Line.f_is
end
section
variable (e : List (S34)) (g : Int)
noncomputable def impl_ChainFollows.l0v := Lim fun k => impl_ChainFollows.l0 k e g
noncomputable def impl_ChainFollows.fv := Lim fun k => impl_ChainFollows.f k e
theorem impl_ChainFollows.l0_is : Is (fun k => impl_ChainFollows.l0 k e g) (impl_ChainFollows.l0v e g) := ⟨fun k => (impl_ChainFollows.mono_l k) e g, rfl⟩
theorem impl_ChainFollows.f_is : Is (fun k => impl_ChainFollows.f k e) (impl_ChainFollows.fv e) := ⟨fun k => impl_ChainFollows.mono e k, rfl⟩
theorem impl_ChainFollows.l0v_eq : impl_ChainFollows.l0v e g = if g < (e.length : Int) then (if 0 ≤ g then (if 0 ≤ (wrap64 (g - 1)) then (if (wrap64 (g - 1)) < (e.length : Int) then ((impl_Follows.fv ((rd_T34 e g).f0) ((rd_T34 e g).f1) ((rd_T34 e g).f2) ((rd_T34 e (wrap64 (g - 1))).f0) ((rd_T34 e (wrap64 (g - 1))).f1) ((rd_T34 e (wrap64 (g - 1))).f2)).bind fun c => (if c = true then (impl_ChainFollows.l0v e (wrap64 (g + 1))) else (some false))) else (none)) else (none)) else (none)) else (if (e.length : Int) > 0 then (if 0 < (e.length : Int) then ((impl_IsMachine.fv ((rd_T34 e 0).f0) ((rd_T34 e 0).f1) ((rd_T34 e 0).f2)).bind fun d => (some d)) else (none)) else (some false)) := by
  refine Is.step (impl_ChainFollows.l0_is e g).mo (fun k => by rw [impl_ChainFollows.l0]) ?_
  exact is3_ @impl_ChainFollows.l0_is @impl_Follows.f_is @impl_IsMachine.f_is
theorem impl_ChainFollows.fv_eq : impl_ChainFollows.fv e = impl_ChainFollows.l0v e 1 := by
  refine Is.lim (g := fun k => impl_ChainFollows.f k e) ?_
  · unfold impl_ChainFollows.f
    exact is1_ @impl_ChainFollows.l0_is
end
noncomputable def impl_BreaksAt.l0v (d : List (S34)) (e : Int) : Option (Int) := Lim fun k => impl_BreaksAt.l0 k d e
noncomputable def impl_BreaksAt.fv (e : List (S34)) : Option (Int) := Lim fun k => impl_BreaksAt.f k e
theorem impl_BreaksAt.l0_is (d : List (S34)) (e : Int) : Is (fun k => impl_BreaksAt.l0 k d e) (impl_BreaksAt.l0v d e) := ⟨fun k => (impl_BreaksAt.mono_l k) d e, rfl⟩
theorem impl_BreaksAt.f_is (e : List (S34)) : Is (fun k => impl_BreaksAt.f k e) (impl_BreaksAt.fv e) := ⟨fun k => impl_BreaksAt.mono e k, rfl⟩
theorem impl_BreaksAt.l0v_eq (d : List (S34)) (e : Int) : impl_BreaksAt.l0v d e = if e < (d.length : Int) then (if 0 ≤ e then (if 0 ≤ (wrap64 (e - 1)) then (if (wrap64 (e - 1)) < (d.length : Int) then ((impl_Follows.fv ((rd_T34 d e).f0) ((rd_T34 d e).f1) ((rd_T34 d e).f2) ((rd_T34 d (wrap64 (e - 1))).f0) ((rd_T34 d (wrap64 (e - 1))).f1) ((rd_T34 d (wrap64 (e - 1))).f2)).bind fun c => (if c = true then (impl_BreaksAt.l0v d (wrap64 (e + 1))) else (some e))) else (none)) else (none)) else (none)) else (some (-1)) := by
  refine Is.step (impl_BreaksAt.l0_is d e).mo (fun k => by rw [impl_BreaksAt.l0]) ?_
  exact is2_ @impl_BreaksAt.l0_is @impl_Follows.f_is
theorem impl_BreaksAt.fv_eq (e : List (S34)) : impl_BreaksAt.fv e = impl_BreaksAt.l0v e 1 := by
  refine Is.lim (g := fun k => impl_BreaksAt.f k e) ?_
  · unfold impl_BreaksAt.f
    exact is1_ @impl_BreaksAt.l0_is
section
variable (g : List Int)
noncomputable def spec_DrawFarFollows.fv := Lim fun k => spec_DrawFarFollows.f k g
theorem spec_DrawFarFollows.f_is : Is (fun k => spec_DrawFarFollows.f k g) (spec_DrawFarFollows.fv g) := ⟨fun k => spec_DrawFarFollows.mono g k, rfl⟩
theorem spec_DrawFarFollows.fv_eq : spec_DrawFarFollows.fv g = (spec_l1New.fv g).bind fun a => ((spec_l30Line.fv a.1 a.2.1 a.2.2).bind fun c => ((spec_l1Below.f a.1 c.2.1 c.2.2 3).bind fun b => ((spec_l1Below.f a.1 b.2.1 b.2.2 4).bind fun d => (some (c.1, b.1, wrap64 ((wrap64 (b.1 + d.1)) - 1)))))) := by
  refine Is.lim (g := fun k => spec_DrawFarFollows.f k g) ?_
  · unfold spec_DrawFarFollows.f
    exact is2_ @spec_l1New.f_is @spec_l30Line.f_is
end
end Go.Proofs.Ytldcchjbaglppaa.Print

/- Written by a program of this session (limx.py): the equations of what the printed functions come to. No condition. -/
namespace Go.Proofs.Ytldcchjbaglppaa.Print
open Go.RowKit Go.Proofs.YtldcchjbaglppaaW.PrintWords Go.Proofs.YtldcchjbaglppaaW.PrintLast Go.Proofs.Ytldcchjbaglppaa.Base
set_option linter.unusedVariables false
set_option maxRecDepth 20000
noncomputable def impl_NextOnly.j0v (n : List (S34)) (o : List (S34)) (p : Bool) : Option (Bool) := Lim fun k => impl_NextOnly.j0 k n o p
noncomputable def impl_NextOnly.l0v (o : List (S34)) (q : Bool) (n : List (S34)) (r : Int) (p : Int) : Option (Bool) := Lim fun k => impl_NextOnly.l0 k o q n r p
noncomputable def impl_NextOnly.j2v (q : List (S34)) (s : Bool) (t : Int) (r : List (S34)) (u : Int) (v : Int) (w : Bool) (p : Int) (n : List Bool) (o : List (S78)) : Option (Bool) := Lim fun k => impl_NextOnly.j2 k q s t r u v w p n o
noncomputable def impl_NextOnly.l1v (u : List (S34)) (x : Bool) (w : List (S34)) (q : Int) (s : Int) (t : Int) (r : Int) (p : Int) (n : List Bool) (o : List (S78)) : Option (Bool) := Lim fun k => impl_NextOnly.l1 k u x w q s t r p n o
noncomputable def impl_NextOnly.fv (p : List (S34)) (n : List (S34)) : Option (Bool) := Lim fun k => impl_NextOnly.f k p n
theorem impl_NextOnly.j0_is (n : List (S34)) (o : List (S34)) (p : Bool) : Is (fun k => impl_NextOnly.j0 k n o p) (impl_NextOnly.j0v n o p) := ⟨fun k => (impl_NextOnly.mono_l k).1 n o p, rfl⟩
theorem impl_NextOnly.l0_is (o : List (S34)) (q : Bool) (n : List (S34)) (r : Int) (p : Int) : Is (fun k => impl_NextOnly.l0 k o q n r p) (impl_NextOnly.l0v o q n r p) := ⟨fun k => (impl_NextOnly.mono_l k).2.1 o q n r p, rfl⟩
theorem impl_NextOnly.j2_is (q : List (S34)) (s : Bool) (t : Int) (r : List (S34)) (u : Int) (v : Int) (w : Bool) (p : Int) (n : List Bool) (o : List (S78)) : Is (fun k => impl_NextOnly.j2 k q s t r u v w p n o) (impl_NextOnly.j2v q s t r u v w p n o) := ⟨fun k => (impl_NextOnly.mono_l k).2.2.1 q s t r u v w p n o, rfl⟩
theorem impl_NextOnly.l1_is (u : List (S34)) (x : Bool) (w : List (S34)) (q : Int) (s : Int) (t : Int) (r : Int) (p : Int) (n : List Bool) (o : List (S78)) : Is (fun k => impl_NextOnly.l1 k u x w q s t r p n o) (impl_NextOnly.l1v u x w q s t r p n o) := ⟨fun k => (impl_NextOnly.mono_l k).2.2.2 u x w q s t r p n o, rfl⟩
theorem impl_NextOnly.f_is (p : List (S34)) (n : List (S34)) : Is (fun k => impl_NextOnly.f k p n) (impl_NextOnly.fv p n) := ⟨fun k => impl_NextOnly.mono p n k, rfl⟩
theorem impl_NextOnly.j0v_eq (n : List (S34)) (o : List (S34)) (p : Bool) : impl_NextOnly.j0v n o p = if p = true then (some false) else (impl_NextOnly.l0v o false n (n.length : Int) 0) := by
  refine Is.step (impl_NextOnly.j0_is n o p).mo (fun k => by rw [impl_NextOnly.j0]) ?_
  exact is1_ @impl_NextOnly.l0_is
theorem impl_NextOnly.l0v_eq (o : List (S34)) (q : Bool) (n : List (S34)) (r : Int) (p : Int) : impl_NextOnly.l0v o q n r p = if p < r then (if 0 ≤ p then (if p < (n.length : Int) then (if p < (o.length : Int) then ((impl_IsSafe.fv ((rd_T34 n p).f0) ((rd_T34 n p).f1) ((rd_T34 n p).f2) ((rd_T34 o p).f0) ((rd_T34 o p).f1) ((rd_T34 o p).f2)).bind fun u => (if u = true then (if p > 0 then (if 0 ≤ (wrap64 (p - 1)) then (if (wrap64 (p - 1)) < (o.length : Int) then ((impl_IsSafe.fv ((rd_T34 n p).f0) ((rd_T34 n p).f1) ((rd_T34 n p).f2) ((rd_T34 o (wrap64 (p - 1))).f0) ((rd_T34 o (wrap64 (p - 1))).f1) ((rd_T34 o (wrap64 (p - 1))).f2)).bind fun w => (impl_NextOnly.j2v o q p n r p (!w) ((rd_T34 n p).f0) ((rd_T34 n p).f1) ((rd_T34 n p).f2))) else (none)) else (none)) else (impl_NextOnly.j2v o q p n r p false ((rd_T34 n p).f0) ((rd_T34 n p).f1) ((rd_T34 n p).f2))) else (impl_NextOnly.j2v o q p n r p true ((rd_T34 n p).f0) ((rd_T34 n p).f1) ((rd_T34 n p).f2)))) else (none)) else (none)) else (none)) else (some q) := by
  refine Is.step (impl_NextOnly.l0_is o q n r p).mo (fun k => by rw [impl_NextOnly.l0]) ?_
  exact is2_ @impl_IsSafe.f_is @impl_NextOnly.j2_is
theorem impl_NextOnly.j2v_eq (q : List (S34)) (s : Bool) (t : Int) (r : List (S34)) (u : Int) (v : Int) (w : Bool) (p : Int) (n : List Bool) (o : List (S78)) : impl_NextOnly.j2v q s t r u v w p n o = if w = true then (some false) else (impl_NextOnly.l1v q s r u v t 0 p n o) := by
  refine Is.step (impl_NextOnly.j2_is q s t r u v w p n o).mo (fun k => by rw [impl_NextOnly.j2]) ?_
  exact is1_ @impl_NextOnly.l1_is
theorem impl_NextOnly.l1v_eq (u : List (S34)) (x : Bool) (w : List (S34)) (q : Int) (s : Int) (t : Int) (r : Int) (p : Int) (n : List Bool) (o : List (S78)) : impl_NextOnly.l1v u x w q s t r p n o = if r < t then (if x = true then (impl_NextOnly.l1v u true w q s t (wrap64 (r + 1)) p n o) else (if 0 ≤ r then (if r < (u.length : Int) then ((impl_IsSafe.fv p n o ((rd_T34 u r).f0) ((rd_T34 u r).f1) ((rd_T34 u r).f2)).bind fun l => (impl_NextOnly.l1v u (!l) w q s t (wrap64 (r + 1)) p n o)) else (none)) else (none))) else (impl_NextOnly.l0v u x w q (wrap64 (s + 1))) := by
  refine Is.step (impl_NextOnly.l1_is u x w q s t r p n o).mo (fun k => by rw [impl_NextOnly.l1]) ?_
  exact is3_ @impl_IsSafe.f_is @impl_NextOnly.l0_is @impl_NextOnly.l1_is
theorem impl_NextOnly.fv_eq (p : List (S34)) (n : List (S34)) : impl_NextOnly.fv p n = if (p.length : Int) = (n.length : Int) then (impl_NextOnly.j0v p n (decide ((p.length : Int) < 2))) else (impl_NextOnly.j0v p n true) := by
  refine Is.lim (g := fun k => impl_NextOnly.f k p n) ?_
  · unfold impl_NextOnly.f
    exact is1_ @impl_NextOnly.j0_is
end Go.Proofs.Ytldcchjbaglppaa.Print

/- Written by a program of this session (limx.py): the equations of what the printed functions come to. No condition. -/
namespace Go.Proofs.Ytldcchjbaglppaa.Print
open Go.RowKit Go.Proofs.YtldcchjbaglppaaW.PrintWords Go.Proofs.YtldcchjbaglppaaW.PrintLast Go.Proofs.Ytldcchjbaglppaa.Base
set_option linter.unusedVariables false
set_option maxRecDepth 20000
section
variable (g : Int) (h i : List (S34)) (j l : Int)
noncomputable def spec_l30Three.l0v := Lim fun k => spec_l30Three.l0 k g h i j
noncomputable def spec_l30Three.fv := Lim fun k => spec_l30Three.f k l
theorem spec_l30Three.l0_is : Is (fun k => spec_l30Three.l0 k g h i j) (spec_l30Three.l0v g h i j) := ⟨fun k => (spec_l30Three.mono_l k) g h i j, rfl⟩
theorem spec_l30Three.f_is : Is (fun k => spec_l30Three.f k l) (spec_l30Three.fv l) := ⟨fun k => spec_l30Three.mono l k, rfl⟩
theorem spec_l30Three.l0v_eq : spec_l30Three.l0v g h i j = if j < 3 then ((some (([false, true] : List Bool) : List Bool)).bind fun c => (if ([] : List (S78)).length < 4398046511104 then ((some (([] : List (S78)) ++ [(⟨0, false, j, 1⟩ : S78)] : List (S78))).bind fun l => (if j > 0 then (if l.length < 4398046511104 then (if h.length < 2513169434916 then (if i.length < 2513169434916 then (spec_l30Three.l0v g (h ++ [(⟨2, c, (l ++ [(⟨0, false, wrap64 (j - 1), 1⟩ : S78)])⟩ : S34)]) (i ++ [(⟨2, (([false, true] : List Bool)), (([(⟨0, true, wrap64 (j + g), 1⟩ : S78)] : List (S78)))⟩ : S34)]) (wrap64 (j + 1))) else (none)) else (none)) else (none)) else (if h.length < 2513169434916 then (if i.length < 2513169434916 then (spec_l30Three.l0v g (h ++ [(⟨2, c, l⟩ : S34)]) (i ++ [(⟨2, (([false, true] : List Bool)), (([(⟨0, true, wrap64 (j + g), 1⟩ : S78)] : List (S78)))⟩ : S34)]) (wrap64 (j + 1))) else (none)) else (none)))) else (none))) else (some (h, i)) := by
  refine Is.step (spec_l30Three.l0_is g h i j).mo (fun k => by rw [spec_l30Three.l0]) ?_
  exact is1_ @spec_l30Three.l0_is
theorem spec_l30Three.fv_eq : spec_l30Three.fv l = spec_l30Three.l0v l (([] : List (S34))) (([] : List (S34))) 0 := by
  refine Is.lim (g := fun k => spec_l30Three.f k l) ?_
  · unfold spec_l30Three.f
    exact is1_ @spec_l30Three.l0_is
end
noncomputable def spec_DrawNextOnly.l0v (m : List (S34)) (n : List (S34)) (o : Int) (p : List Int) (q : Int) (r : Int) : Option ((List (S34)) × (List (S34))) := Lim fun k => spec_DrawNextOnly.l0 k m n o p q r
noncomputable def spec_DrawNextOnly.fv (r : List Int) : Option ((List (S34)) × (List (S34))) := Lim fun k => spec_DrawNextOnly.f k r
theorem spec_DrawNextOnly.l0_is (m : List (S34)) (n : List (S34)) (o : Int) (p : List Int) (q : Int) (r : Int) : Is (fun k => spec_DrawNextOnly.l0 k m n o p q r) (spec_DrawNextOnly.l0v m n o p q r) := ⟨fun k => (spec_DrawNextOnly.mono_l k) m n o p q r, rfl⟩
theorem spec_DrawNextOnly.f_is (r : List Int) : Is (fun k => spec_DrawNextOnly.f k r) (spec_DrawNextOnly.fv r) := ⟨fun k => spec_DrawNextOnly.mono r k, rfl⟩
theorem spec_DrawNextOnly.l0v_eq (m : List (S34)) (n : List (S34)) (o : Int) (p : List Int) (q : Int) (r : Int) : spec_DrawNextOnly.l0v m n o p q r = if o < (m.length : Int) then (if 0 ≤ o then ((spec_DualOf.fv ((rd_T34 m o).f0) ((rd_T34 m o).f1) ((rd_T34 m o).f2)).bind fun d => (if n.length < 2513169434916 then (spec_DrawNextOnly.l0v m (n ++ [(⟨d.1, d.2.1, d.2.2⟩ : S34)]) (wrap64 (o + 1)) p q r) else (none))) else (none)) else ((spec_l1Once.f p q r 3).bind fun e => (if e.1 = true then ((spec_l1Below.f p e.2.1 e.2.2 2).bind fun h => ((spec_l30Three.fv h.1).bind fun g => (some (g.1, g.2)))) else (some (m, n)))) := by
  refine Is.step (spec_DrawNextOnly.l0_is m n o p q r).mo (fun k => by rw [spec_DrawNextOnly.l0]) ?_
  exact is3_ @spec_DrawNextOnly.l0_is @spec_DualOf.f_is @spec_l30Three.f_is
theorem spec_DrawNextOnly.fv_eq (r : List Int) : spec_DrawNextOnly.fv r = (spec_l1New.fv r).bind fun p => ((spec_l30Line.fv p.1 p.2.1 p.2.2).bind fun q => (spec_DrawNextOnly.l0v q.1 (([] : List (S34))) 0 p.1 q.2.1 q.2.2)) := by
  refine Is.lim (g := fun k => spec_DrawNextOnly.f k r) ?_
  · unfold spec_DrawNextOnly.f
    exact is3_ @spec_DrawNextOnly.l0_is @spec_l1New.f_is @spec_l30Line.f_is
end Go.Proofs.Ytldcchjbaglppaa.Print

/- Written by a program of this session (limx.py): the equations of what the printed functions come to. No condition. -/
namespace Go.Proofs.Ytldcchjbaglppaa.Print
open Go.RowKit Go.Proofs.YtldcchjbaglppaaW.PrintWords Go.Proofs.YtldcchjbaglppaaW.PrintLast Go.Proofs.Ytldcchjbaglppaa.Base
set_option linter.unusedVariables false
set_option maxRecDepth 20000
noncomputable def laws_FnLines.j0v (h : List Int) (i : List (S34)) (j : List Int) (l : Bool) : Option (Bool) := Lim fun k => laws_FnLines.j0 k h i j l
noncomputable def laws_FnLines.j1v (h : List Int) : Option (Bool) := Lim fun k => laws_FnLines.j1 k h
noncomputable def laws_FnLines.j2v (i : List Int) (h : Bool) : Option (Bool) := Lim fun k => laws_FnLines.j2 k i h
noncomputable def laws_FnLines.fv (h : List Int) : Option (Bool) := Lim fun k => laws_FnLines.f k h
theorem laws_FnLines.j0_is (h : List Int) (i : List (S34)) (j : List Int) (l : Bool) : Is (fun k => laws_FnLines.j0 k h i j l) (laws_FnLines.j0v h i j l) := ⟨fun k => (laws_FnLines.mono_l k).1 h i j l, rfl⟩
theorem laws_FnLines.j1_is (h : List Int) : Is (fun k => laws_FnLines.j1 k h) (laws_FnLines.j1v h) := ⟨fun k => (laws_FnLines.mono_l k).2.1 h, rfl⟩
theorem laws_FnLines.j2_is (i : List Int) (h : Bool) : Is (fun k => laws_FnLines.j2 k i h) (laws_FnLines.j2v i h) := ⟨fun k => (laws_FnLines.mono_l k).2.2 i h, rfl⟩
theorem laws_FnLines.f_is (h : List Int) : Is (fun k => laws_FnLines.f k h) (laws_FnLines.fv h) := ⟨fun k => laws_FnLines.mono h k, rfl⟩
theorem laws_FnLines.j0v_eq (h : List Int) (i : List (S34)) (j : List Int) (l : Bool) : laws_FnLines.j0v h i j l = if l = true then (some false) else ((impl_ChainFollows.fv i).bind fun a => (if a = true then ((impl_BreaksAt.fv i).bind fun b => (if b = (-1) then (if (j.length : Int) > 0 then (if 0 < (j.length : Int) then (if (j.length : Int) = (wrap64 ((i.length : Int) - (rd j 0))) then (laws_FnLines.j1v h) else (some false)) else (none)) else (laws_FnLines.j1v h)) else (some false))) else (laws_FnLines.j1v h))) := by
  refine Is.step (laws_FnLines.j0_is h i j l).mo (fun k => by rw [laws_FnLines.j0]) ?_
  exact is3_ @impl_BreaksAt.f_is @impl_ChainFollows.f_is @laws_FnLines.j1_is
theorem laws_FnLines.j1v_eq (h : List Int) : laws_FnLines.j1v h = (spec_DrawFarFollows.fv h).bind fun a => ((impl_ChainFollows.fv a.1).bind fun j => (if j = true then ((impl_FarFollows.fv a.1 a.2.1 a.2.2).bind fun b => (if a.2.1 ≥ 0 then (if a.2.1 ≤ a.2.2 then (laws_FnLines.j2v h (b != (decide (a.2.2 < (a.1.length : Int))))) else (laws_FnLines.j2v h (b != false))) else (laws_FnLines.j2v h (b != false)))) else (laws_FnLines.j2v h false))) := by
  refine Is.step (laws_FnLines.j1_is h).mo (fun k => by rw [laws_FnLines.j1]) ?_
  exact is4_ @impl_ChainFollows.f_is @impl_FarFollows.f_is @laws_FnLines.j2_is @spec_DrawFarFollows.f_is
theorem laws_FnLines.j2v_eq (i : List Int) (h : Bool) : laws_FnLines.j2v i h = if h = true then (some false) else ((spec_DrawNextOnly.fv i).bind fun a => ((impl_NextOnly.fv a.1 a.2).bind fun b => (if b = true then ((impl_ChainFollows.fv a.1).bind fun j => (some (!j))) else (some true)))) := by
  refine Is.step (laws_FnLines.j2_is i h).mo (fun k => by rw [laws_FnLines.j2]) ?_
  exact is3_ @impl_ChainFollows.f_is @impl_NextOnly.f_is @spec_DrawNextOnly.f_is
theorem laws_FnLines.fv_eq (h : List Int) : laws_FnLines.fv h = (laws_big.f h).bind fun i => (if i = true then (some true) else ((spec_DrawWorksWith.fv h).bind fun a => ((impl_WorksWith.fv a.1 a.2.1 a.2.2.1 a.2.2.2).bind fun b => ((impl_LatestFor.fv a.1 a.2.1 a.2.2.1 a.2.2.2).bind fun j => (if j = (-1) then (if (b.length : Int) = 0 then (if j ≥ 0 then (if 0 ≤ (wrap64 ((b.length : Int) - 1)) then (if (wrap64 ((b.length : Int) - 1)) < (b.length : Int) then (laws_FnLines.j0v h a.1 b ((rd b (wrap64 ((b.length : Int) - 1))) != j)) else (none)) else (none)) else (laws_FnLines.j0v h a.1 b false)) else (laws_FnLines.j0v h a.1 b true)) else (if (b.length : Int) = 0 then (laws_FnLines.j0v h a.1 b true) else (if j ≥ 0 then (if 0 ≤ (wrap64 ((b.length : Int) - 1)) then (if (wrap64 ((b.length : Int) - 1)) < (b.length : Int) then (laws_FnLines.j0v h a.1 b ((rd b (wrap64 ((b.length : Int) - 1))) != j)) else (none)) else (none)) else (laws_FnLines.j0v h a.1 b false)))))))) := by
  refine Is.lim (g := fun k => laws_FnLines.f k h) ?_
  · unfold laws_FnLines.f
    exact is4_ @impl_LatestFor.f_is @impl_WorksWith.f_is @laws_FnLines.j0_is @spec_DrawWorksWith.f_is
end Go.Proofs.Ytldcchjbaglppaa.Print
