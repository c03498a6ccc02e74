-- Written by a program of this session (prune.py): the words that the kit's print laid for this seat, as far as its texts use them; Lean checks it.
import Derived.Test.YtldcchjbaglppaaProg
import Derived.Below
import Derived.Deep.Draws
import Derived.Deep.AppendLies
import Derived.Maps.AppendAt
import Derived.OwnWalk
import Derived.Laws.BytesArg
import Derived.Laws.MakeOwn
import Derived.Laws.OwnMore
import Derived.Deep.OwnRows
import Derived.Tactics
import Derived.Lib.ConvBytes
import Derived.Laws.Slices
import Derived.WalkKit
import Derived.KernelRfl
import Derived.RowKit3
import Derived.Deep.LoopGhost
import Derived.Deep.QuietTactic
import Derived.BigQuiet
import Derived.WideLaws
import Derived.Deep.DeepCutAuto
import Derived.Deep.CutBlock
import Derived.Deep.RegionHeld3
import Derived.Laws.Rows
import Derived.Lib.AppendStr
import Derived.ArgAppend
import Derived.Laws.IdiomCopy
import Derived.OrdersHeld
import Derived.Laws.BitsLemmas
import Derived.RowKit
import Derived.Lib.SliceRun
import Derived.Test.YtldcchjbaglppaaShort
import Derived.Test.YtldcchjbaglppaaBits
import Derived.Test.YtldcchjbaglppaaWWords
import Derived.Test.YtldcchjbaglppaaWLast
import Derived.Test.YtldcchjbaglppaaWTab
import Derived.Test.YtldcchjbaglppaaWQPut
import Derived.Test.YtldcchjbaglppaaWApart
import Derived.Test.YtldcchjbaglppaaWArr
import Derived.Test.YtldcchjbaglppaaWZeros
import Derived.Test.YtldcchjbaglppaaWFoot
import Derived.Test.YtldcchjbaglppaaWKept
import Derived.Test.YtldcchjbaglppaaWShare
import Derived.Test.YtldcchjbaglppaaWN
import Derived.Test.YtldcchjbaglppaaWRepsOne
import Derived.Test.YtldcchjbaglppaaWGuard
import Derived.Test.YtldcchjbaglppaaWNEv
import Derived.Test.YtldcchjbaglppaaWMore
namespace Go.Proofs.Ytldcchjbaglppaa.Print
open Go.RowKit Go.Proofs.YtldcchjbaglppaaW.PrintWords Go.Proofs.YtldcchjbaglppaaW.PrintLast Go.Proofs.YtldcchjbaglppaaW.PrintMore Go.Proofs.Ytldcchjbaglppaa.Short
attribute [local go_sem] max2_int min2_int max_two min_two max_three min_three max_four min_four   -- for this text's walks alone
set_option linter.unusedVariables false
set_option maxHeartbeats 8000000
set_option maxRecDepth 100000
set_option linter.unusedSimpArgs false
def errW : Option Int → Value
 | none => .nilIface
 | some c => .iface 0 (.int .i64 c)
theorem errW_none : errW none = .nilIface := rfl
theorem errW_some (c : Int) : errW (some c) = .iface 0 (.int .i64 c) := rfl
theorem info3 : (Try.prog.info? 3).map (fun i => (i.zero, i.size, i.bytes)) = some (some (.int .i64 0), 1, 8) := by kernel_rfl
theorem info4 : (Try.prog.info? 4).map (fun i => (i.zero, i.size, i.bytes)) = some (some (.bool false), 1, 1) := by kernel_rfl
theorem info34 : (Try.prog.info? 34).map (fun i => (i.zero, i.size, i.bytes)) = some (some (.agg #[(.int .i64 0), (.slice none 0 0), (.slice none 0 0)]), 3, 56) := by kernel_rfl
theorem info39 : (Try.prog.info? 39).map (fun i => (i.zero, i.size, i.bytes)) = some (some (.slice none 0 0), 1, 24) := by kernel_rfl
theorem info78 : (Try.prog.info? 78).map (fun i => (i.zero, i.size, i.bytes)) = some (some (.agg #[(.int .i64 0), (.bool false), (.int .i64 0), (.int .i64 0)]), 4, 32) := by kernel_rfl
structure S78 where
 f0 : Int
 f1 : Bool
 f2 : Int
 f3 : Int
def z78 : S78 := ⟨(0 : Int), false, (0 : Int), (0 : Int)⟩
def k78 : Kd S78 := Kd.iso (Kd.pair (Kd.int .i64) (Kd.pair Kd.bool (Kd.pair (Kd.int .i64) (Kd.int .i64)))) (fun x : S78 => (x.f0, x.f1, x.f2, x.f3))
theorem k78_open {w : World} {x : S78} {cs : List Value} (h : k78.K w x cs) : cs = [.int .i64 x.f0, .bool x.f1, .int .i64 x.f2, .int .i64 x.f3] := by
 obtain ⟨_, _, rfl, rfl, ⟨_, _, rfl, rfl, ⟨_, _, rfl, rfl, rfl⟩⟩⟩ := h
 exact rfl
theorem k78_openM {w : World} {base : Nat} {ok : Nat → Prop} {x : S78} {cs : List Value} (h : k78.M w base ok x cs) : cs = [.int .i64 x.f0, .bool x.f1, .int .i64 x.f2, .int .i64 x.f3] := by
 obtain ⟨_, _, rfl, rfl, ⟨_, _, rfl, rfl, ⟨_, _, rfl, rfl, rfl⟩⟩⟩ := h
 exact rfl
theorem k78_mkM (w : World) (base : Nat) (ok : Nat → Prop) (x : S78)  : k78.M w base ok x [.int .i64 x.f0, .bool x.f1, .int .i64 x.f2, .int .i64 x.f3] := ⟨[.int .i64 x.f0], [.bool x.f1, .int .i64 x.f2, .int .i64 x.f3], rfl, rfl, ⟨[.bool x.f1], [.int .i64 x.f2, .int .i64 x.f3], rfl, rfl, ⟨[.int .i64 x.f2], [.int .i64 x.f3], rfl, rfl, rfl⟩⟩⟩
def rd_T78 (xs : List S78) (i : Int) : S78 := xs.getD i.toNat z78
theorem at_T78 {w : World} {A : Option Addr} {n : Nat} {xs : List S78} (h : Kd.C k78 w A n xs) (i : Int) (h0 : 0 ≤ i) (h1 : i < n) : ∃ ad , A = some ad ∧ w.cell? (ad.add (i.toNat * 4)) = some (.int .i64 (rd_T78 xs i).f0) ∧ w.cell? ⟨(ad.add (i.toNat * 4)).block, (ad.add (i.toNat * 4)).off + 1, none⟩ = some (.bool (rd_T78 xs i).f1) ∧ w.cell? ⟨(ad.add (i.toNat * 4)).block, (ad.add (i.toNat * 4)).off + 2, none⟩ = some (.int .i64 (rd_T78 xs i).f2) ∧ w.cell? ⟨(ad.add (i.toNat * 4)).block, (ad.add (i.toNat * 4)).off + 3, none⟩ = some (.int .i64 (rd_T78 xs i).f3) := by
 obtain ⟨ad, c, e, _, hK, a⟩ := Kd.C_get h z78 i h0 h1
 have hc : ∀ j u, c[j]? = some u → w.cell? (ad.add (i.toNat * 4 + j)) = some u := a
 obtain rfl := k78_open hK
 exact ⟨ad, e, hc 0 _ rfl, by rw [← add_field _ _ 1 (by omega)]; exact hc 1 _ rfl, by rw [← add_field _ _ 2 (by omega)]; exact hc 2 _ rfl, by rw [← add_field _ _ 3 (by omega)]; exact hc 3 _ rfl⟩
def rd_L3 (xs : List (List Int)) (i : Int) : (List Int) := xs.getD i.toNat ([] : List Int)
theorem at_L3 {w : World} {A : Option Addr} {n : Nat} {xs : List (List Int)} (h : Kd.C (Kd.slice 3 (Kd.int .i64)) w A n xs) (i : Int) (h0 : 0 ≤ i) (h1 : i < n) : ∃ ad a b, A = some ad ∧ w.cell? (ad.add i.toNat) = some (.slice a (rd_L3 xs i).length b) ∧ (rd_L3 xs i).length ≤ b ∧ (Kd.int .i64).C w a (rd_L3 xs i).length (rd_L3 xs i) := by
 obtain ⟨ad, c, e, _, hK, d⟩ := Kd.C_get h ([] : List Int) i h0 h1
 have hc : ∀ j u, c[j]? = some u → w.cell? (ad.add (i.toNat * 1 + j)) = some u := d
 obtain ⟨a, b, rfl, f, g0⟩ := hK
 exact ⟨ad, a, b, e, by have hq := hc 0 _ rfl; rwa [Nat.mul_one, Nat.add_zero] at hq, f, g0⟩
structure S34 where
 f0 : Int
 f1 : (List Bool)
 f2 : (List S78)
def z34 : S34 := ⟨(0 : Int), ([] : List Bool), ([] : List S78)⟩
def k34 : Kd S34 := Kd.iso (Kd.pair (Kd.int .i64) (Kd.pair (Kd.slice 4 Kd.bool) (Kd.slice 78 k78))) (fun x : S34 => (x.f0, x.f1, x.f2))
theorem k34_open {w : World} {x : S34} {cs : List Value} (h : k34.K w x cs) : ∃ a c b d, cs = [.int .i64 x.f0, .slice a x.f1.length c, .slice b x.f2.length d] ∧ x.f1.length ≤ c ∧ Kd.bool.C w a x.f1.length x.f1 ∧ x.f2.length ≤ d ∧ k78.C w b x.f2.length x.f2 := by
 obtain ⟨_, _, rfl, rfl, ⟨_, _, rfl, ⟨a, c, rfl, e, g1⟩, ⟨b, d, rfl, f, g2⟩⟩⟩ := h
 exact ⟨a, c, b, d, rfl, e, g1, f, g2⟩
theorem k34_openM {w : World} {base : Nat} {ok : Nat → Prop} {x : S34} {cs : List Value} (h : k34.M w base ok x cs) : ∃ a b, cs = [.int .i64 x.f0, a, b] ∧ Kd.bool.R 4 w base ok a x.f1 ∧ k78.R 78 w base ok b x.f2 := by
 obtain ⟨_, _, rfl, rfl, ⟨_, _, rfl, ⟨a, rfl, g1⟩, ⟨b, rfl, g2⟩⟩⟩ := h
 exact ⟨a, b, rfl, g1, g2⟩
theorem k34_mkM (w : World) (base : Nat) (ok : Nat → Prop) (x : S34) {a : Value} (g1 : Kd.bool.R 4 w base ok a x.f1) {b : Value} (g2 : k78.R 78 w base ok b x.f2) : k34.M w base ok x [.int .i64 x.f0, a, b] := ⟨[.int .i64 x.f0], [a, b], rfl, rfl, ⟨[a], [b], rfl, ⟨a, rfl, g1⟩, ⟨b, rfl, g2⟩⟩⟩
def rd_T34 (xs : List S34) (i : Int) : S34 := xs.getD i.toNat z34
theorem at_T34 {w : World} {A : Option Addr} {n : Nat} {xs : List S34} (h : Kd.C k34 w A n xs) (i : Int) (h0 : 0 ≤ i) (h1 : i < n) : ∃ ad a d b f, A = some ad ∧ w.cell? (ad.add (i.toNat * 3)) = some (.int .i64 (rd_T34 xs i).f0) ∧ w.cell? ⟨(ad.add (i.toNat * 3)).block, (ad.add (i.toNat * 3)).off + 1, none⟩ = some (.slice a (rd_T34 xs i).f1.length d) ∧ w.cell? ⟨(ad.add (i.toNat * 3)).block, (ad.add (i.toNat * 3)).off + 2, none⟩ = some (.slice b (rd_T34 xs i).f2.length f) ∧ (rd_T34 xs i).f1.length ≤ d ∧ Kd.bool.C w a (rd_T34 xs i).f1.length (rd_T34 xs i).f1 ∧ (rd_T34 xs i).f2.length ≤ f ∧ k78.C w b (rd_T34 xs i).f2.length (rd_T34 xs i).f2 := by
 obtain ⟨ad, c, e, _, hK, g⟩ := Kd.C_get h z34 i h0 h1
 have hc : ∀ j u, c[j]? = some u → w.cell? (ad.add (i.toNat * 3 + j)) = some u := g
 obtain ⟨a, d, b, f, rfl, k, g1, l, g2⟩ := k34_open hK
 exact ⟨ad, a, d, b, f, e, hc 0 _ rfl, by rw [← add_field _ _ 1 (by omega)]; exact hc 1 _ rfl, by rw [← add_field _ _ 2 (by omega)]; exact hc 2 _ rfl, k, g1, l, g2⟩
theorem at_U34 {w : World} {A : Option Addr} {n : Nat} {xs : List S34} (h : Kd.C k34 w A n xs) (i : Int) (h0 : 0 ≤ i) (h1 : i < n) : ∃ ad a c b d, A = some ad ∧ w.cell? (ad.add (i.toNat * 3)) = some (.int .i64 (rd_T34 xs i).f0) ∧ w.cell? ⟨(ad.add (i.toNat * 3)).block, (ad.add (i.toNat * 3)).off + 1, none⟩ = some (.slice a (rd_T34 xs i).f1.length c) ∧ w.cell? ⟨(ad.add (i.toNat * 3)).block, (ad.add (i.toNat * 3)).off + 2, none⟩ = some (.slice b (rd_T34 xs i).f2.length d) ∧ Aside0 ((rd_T34 xs i).f1.length ≤ c) ∧ Aside0 (Kd.bool.C w a (rd_T34 xs i).f1.length (rd_T34 xs i).f1) ∧ Aside0 ((rd_T34 xs i).f2.length ≤ d) ∧ Aside0 (k78.C w b (rd_T34 xs i).f2.length (rd_T34 xs i).f2) := by
 obtain ⟨e0_, e1_, e2_, e3_, e4_, h0_, h1_, h2_, h3_, h4_, h5_, h6_, h7_⟩ := at_T34 h i h0 h1
 exact ⟨e0_, e1_, e2_, e3_, e4_, h0_, h1_, h2_, h3_, ⟨h4_⟩, ⟨h5_⟩, ⟨h6_⟩, ⟨h7_⟩⟩
theorem qs87_0_ {p q : Prop} (h : p) (e : p → q := by intro h_; repeat (first | (with_reducible first | exact h_ | apply IsS87.alloc | apply IsS87.drewN | apply IsS87.drew | apply IsS87.set_1 | apply IsS87.set_2) | exact h_)) : q := e h
theorem qs87_1_ {p q a : Prop} (h : p) (x0_ : a) (e : p → a → q := by intro h_ x0_; repeat (first | (with_reducible first | exact h_ | apply IsS87.alloc | apply IsS87.drewN | apply IsS87.drew | apply IsS87.set_1 | apply IsS87.set_2 | refine IsS87.far ?_ x0_ _) | exact h_)) : q := e h x0_
theorem qs87_2_ {p q a b : Prop} (h : p) (x0_ : a) (x1_ : b) (e : p → a → b → q := by intro h_ x0_ x1_; repeat (first | (with_reducible first | exact h_ | apply IsS87.alloc | apply IsS87.drewN | apply IsS87.drew | apply IsS87.set_1 | apply IsS87.set_2 | refine IsS87.far ?_ x0_ _ | refine IsS87.far ?_ x1_ _) | exact h_)) : q := e h x0_ x1_
theorem qs87_3_ {p q a b c : Prop} (h : p) (x0_ : a) (x1_ : b) (x2_ : c) (e : p → a → b → c → q := by intro h_ x0_ x1_ x2_; repeat (first | (with_reducible first | exact h_ | apply IsS87.alloc | apply IsS87.drewN | apply IsS87.drew | apply IsS87.set_1 | apply IsS87.set_2 | refine IsS87.far ?_ x0_ _ | refine IsS87.far ?_ x1_ _ | refine IsS87.far ?_ x2_ _) | exact h_)) : q := e h x0_ x1_ x2_
theorem qs87_4_ {p q a b c d : Prop} (h : p) (x0_ : a) (x1_ : b) (x2_ : c) (x3_ : d) (e : p → a → b → c → d → q := by intro h_ x0_ x1_ x2_ x3_; repeat (first | (with_reducible first | exact h_ | apply IsS87.alloc | apply IsS87.drewN | apply IsS87.drew | apply IsS87.set_1 | apply IsS87.set_2 | refine IsS87.far ?_ x0_ _ | refine IsS87.far ?_ x1_ _ | refine IsS87.far ?_ x2_ _ | refine IsS87.far ?_ x3_ _) | exact h_)) : q := e h x0_ x1_ x2_ x3_
theorem qs87_5_ {p q a b c d f : Prop} (h : p) (x0_ : a) (x1_ : b) (x2_ : c) (x3_ : d) (x4_ : f) (e : p → a → b → c → d → f → q := by intro h_ x0_ x1_ x2_ x3_ x4_; repeat (first | (with_reducible first | exact h_ | apply IsS87.alloc | apply IsS87.drewN | apply IsS87.drew | apply IsS87.set_1 | apply IsS87.set_2 | refine IsS87.far ?_ x0_ _ | refine IsS87.far ?_ x1_ _ | refine IsS87.far ?_ x2_ _ | refine IsS87.far ?_ x3_ _ | refine IsS87.far ?_ x4_ _) | exact h_)) : q := e h x0_ x1_ x2_ x3_ x4_
end Go.Proofs.Ytldcchjbaglppaa.Print
