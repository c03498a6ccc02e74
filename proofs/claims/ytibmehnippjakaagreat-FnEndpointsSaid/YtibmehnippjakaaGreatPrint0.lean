-- Written by a program of this session (prune.py): the words that the kit's print laid for this seat, as far as its texts use them; Lean checks it.
import Derived.Test.YtibmehnippjakaaGreatProg
import Derived.Below
import Derived.Deep.Draws
import Derived.Deep.AppendLies
import Derived.Maps.AppendAt
import Derived.OwnWalk
import Derived.Laws.BytesArg
import Derived.Laws.MakeOwn
import Derived.Laws.OwnMore
import Derived.Deep.OwnRows
import Derived.Tactics
import Derived.Lib.ConvBytes
import Derived.Laws.Slices
import Derived.WalkKit
import Derived.KernelRfl
import Derived.RowKit3
import Derived.Deep.LoopGhost
import Derived.Deep.QuietTactic
import Derived.BigQuiet
import Derived.WideLaws
import Derived.Deep.DeepCutAuto
import Derived.Deep.CutBlock
import Derived.Deep.RegionHeld3
import Derived.Laws.Rows
import Derived.Lib.AppendStr
import Derived.ArgAppend
import Derived.Laws.IdiomCopy
import Derived.OrdersHeld
import Derived.Laws.BitsLemmas
import Derived.RowKit
import Derived.Lib.SliceRun
import Derived.Test.YtibmehnippjakaaGreatShort
import Derived.Test.YtibmehnippjakaaGreatGreaseK
import Derived.Test.YtibmehnippjakaaGreatGrowK
import Derived.Test.YtibmehnippjakaaGreatWWords
import Derived.Test.YtibmehnippjakaaGreatWLast
import Derived.Test.YtibmehnippjakaaGreatWTab
import Derived.Test.YtibmehnippjakaaGreatWFour
import Derived.Test.YtibmehnippjakaaGreatWQPut
import Derived.Test.YtibmehnippjakaaGreatWApart
import Derived.Test.YtibmehnippjakaaGreatWArr
import Derived.Test.YtibmehnippjakaaGreatWZeros
import Derived.Test.YtibmehnippjakaaGreatWFoot
import Derived.Test.YtibmehnippjakaaGreatWKept
import Derived.Test.YtibmehnippjakaaGreatWShare
import Derived.Test.YtibmehnippjakaaGreatWN
import Derived.Test.YtibmehnippjakaaGreatWFootNe
import Derived.Test.YtibmehnippjakaaGreatWAt
import Derived.Test.YtibmehnippjakaaGreatWEqStruct
import Derived.Test.YtibmehnippjakaaGreatWRepsOne
import Derived.Test.YtibmehnippjakaaGreatWInv
import Derived.Test.YtibmehnippjakaaGreatWInvWords
import Derived.Test.YtibmehnippjakaaGreatWGuard
import Derived.Test.YtibmehnippjakaaGreatWNEv
import Derived.Test.YtibmehnippjakaaGreatWMore
namespace Go.Proofs.YtibmehnippjakaaGreat.Print
open Go.RowKit Go.Proofs.YtibmehnippjakaaGreatW.PrintWords Go.Proofs.YtibmehnippjakaaGreatW.PrintLast Go.Proofs.YtibmehnippjakaaGreatW.PrintMore Go.Proofs.YtibmehnippjakaaGreat.Short
attribute [local go_sem] F8 Fq G5 G6 FA FH F5 Fp
set_option linter.unusedVariables false
set_option maxHeartbeats 8000000
set_option maxRecDepth 100000
set_option linter.unusedSimpArgs false
def Y2 : Option Int → Value
 | none => .nilIface
 | some c => .iface 0 (.int .i64 c)
theorem Jh : Y2 none = .nilIface := rfl
theorem Jg (c : Int) : Y2 (some c) = .iface 0 (.int .i64 c) := rfl
theorem HI : (Tryz.prog.info? 3).map (fun i => (i.zero, i.size, i.bytes)) = some (some (.int .i64 0), 1, 8) := by kernel_rfl
theorem Vm : (Tryz.prog.info? 75).map (fun i => (i.zero, i.size, i.bytes)) = some (some (.agg #[(.int .i64 0), (.slice none 0 0), (.slice none 0 0), (.bool false)]), 4, 64) := by kernel_rfl
theorem Jv : (Tryz.prog.info? 81).map (fun i => (i.zero, i.size, i.bytes)) = some (some (.agg #[(.int .i64 0), (.slice none 0 0)]), 2, 32) := by kernel_rfl
def HU (xs : List (List Int)) (i : Int) : (List Int) := xs.getD i.toNat ([] : List Int)
theorem T9 {w : World} {A : Option Addr} {n : Nat} {xs : List (List Int)} (h : Kd.C (Kd.slice 3 (Kd.int .i64)) w A n xs) (i : Int) (h0 : 0 ≤ i) (h1 : i < n) : ∃ ad a b, A = some ad ∧ w.cell? (ad.add i.toNat) = some (.slice a (HU xs i).length b) ∧ (HU xs i).length ≤ b ∧ (Kd.int .i64).C w a (HU xs i).length (HU xs i) := by
 obtain ⟨ad, c, e, _, hK, d⟩ := Kd.Oo h ([] : List Int) i h0 h1
 have hc : ∀ j u, c[j]? = some u → w.cell? (ad.add (i.toNat * 1 + j)) = some u := d
 obtain ⟨a, b, rfl, f, g0⟩ := hK
 exact ⟨ad, a, b, e, by have hq := hc 0 _ rfl; rwa [Nat.mul_one, Nat.add_zero] at hq, f, g0⟩
structure S75 where
 f0 : Int
 f1 : (List Int)
 f2 : (List Int)
 f3 : Bool
def z75 : S75 := ⟨(0 : Int), ([] : List Int), ([] : List Int), false⟩
def k75 : Kd S75 := Kd.iso (Kd.pair (Kd.int .i64) (Kd.pair (Kd.slice 3 (Kd.int .i64)) (Kd.pair (Kd.slice 3 (Kd.int .i64)) Kd.bool))) (fun x : S75 => (x.f0, x.f1, x.f2, x.f3))
theorem VD {w : World} {x : S75} {cs : List Value} (h : k75.K w x cs) : ∃ a c b d, cs = [.int .i64 x.f0, .slice a x.f1.length c, .slice b x.f2.length d, .bool x.f3] ∧ x.f1.length ≤ c ∧ (Kd.int .i64).C w a x.f1.length x.f1 ∧ x.f2.length ≤ d ∧ (Kd.int .i64).C w b x.f2.length x.f2 := by
 obtain ⟨_, _, rfl, rfl, ⟨_, _, rfl, ⟨a, c, rfl, e, g1⟩, ⟨_, _, rfl, ⟨b, d, rfl, f, g2⟩, rfl⟩⟩⟩ := h
 exact ⟨a, c, b, d, rfl, e, g1, f, g2⟩
theorem Xp (w : World) (x : S75) {c : Option Addr} {d : Nat} (e : x.f1.length ≤ d) (g1 : (Kd.int .i64).C w c x.f1.length x.f1) {a : Option Addr} {b : Nat} (f : x.f2.length ≤ b) (g2 : (Kd.int .i64).C w a x.f2.length x.f2) : k75.K w x [.int .i64 x.f0, .slice c x.f1.length d, .slice a x.f2.length b, .bool x.f3] := ⟨[.int .i64 x.f0], [.slice c x.f1.length d, .slice a x.f2.length b, .bool x.f3], rfl, rfl, ⟨[.slice c x.f1.length d], [.slice a x.f2.length b, .bool x.f3], rfl, ⟨c, d, rfl, e, g1⟩, ⟨[.slice a x.f2.length b], [.bool x.f3], rfl, ⟨a, b, rfl, f, g2⟩, rfl⟩⟩⟩
theorem XI (w : World) (base : Nat) (ok : Nat → Prop) (x : S75) {v1 : Value} (g1 : (Kd.int .i64).R 3 w base ok v1 x.f1) {a : Value} (g2 : (Kd.int .i64).R 3 w base ok a x.f2) : k75.M w base ok x [.int .i64 x.f0, v1, a, .bool x.f3] := ⟨[.int .i64 x.f0], [v1, a, .bool x.f3], rfl, rfl, ⟨[v1], [a, .bool x.f3], rfl, ⟨v1, rfl, g1⟩, ⟨[a], [.bool x.f3], rfl, ⟨a, rfl, g2⟩, rfl⟩⟩⟩
theorem UB (W : World) (ok : Nat → Prop) (x : S75) {a : Option Addr} {c : Nat} (e : x.f1.length ≤ c) (g1 : Kd.F (Kd.int .i64) W ok a x.f1.length x.f1) {b : Option Addr} {d : Nat} (f : x.f2.length ≤ d) (g2 : Kd.F (Kd.int .i64) W ok b x.f2.length x.f2) : Kd.FK k75 W ok x [.int .i64 x.f0, .slice a x.f1.length c, .slice b x.f2.length d, .bool x.f3] := fun W2 hW => Xp W2 x e (g1 W2 hW) f (g2 W2 hW)
def EM (xs : List S75) (i : Int) : S75 := xs.getD i.toNat z75
theorem Xq {w : World} {A : Option Addr} {n : Nat} {xs : List S75} (h : Kd.C k75 w A n xs) (i : Int) (h0 : 0 ≤ i) (h1 : i < n) : ∃ ad a d b f, A = some ad ∧ w.cell? (ad.add (i.toNat * 4)) = some (.int .i64 (EM xs i).f0) ∧ w.cell? ⟨(ad.add (i.toNat * 4)).block, (ad.add (i.toNat * 4)).off + 1, none⟩ = some (.slice a (EM xs i).f1.length d) ∧ w.cell? ⟨(ad.add (i.toNat * 4)).block, (ad.add (i.toNat * 4)).off + 2, none⟩ = some (.slice b (EM xs i).f2.length f) ∧ w.cell? ⟨(ad.add (i.toNat * 4)).block, (ad.add (i.toNat * 4)).off + 3, none⟩ = some (.bool (EM xs i).f3) ∧ (EM xs i).f1.length ≤ d ∧ (Kd.int .i64).C w a (EM xs i).f1.length (EM xs i).f1 ∧ (EM xs i).f2.length ≤ f ∧ (Kd.int .i64).C w b (EM xs i).f2.length (EM xs i).f2 := by
 obtain ⟨ad, c, e, _, hK, g⟩ := Kd.Oo h z75 i h0 h1
 have hc : ∀ j u, c[j]? = some u → w.cell? (ad.add (i.toNat * 4 + j)) = some u := g
 obtain ⟨a, d, b, f, rfl, k, g1, l, g2⟩ := VD hK
 exact ⟨ad, a, d, b, f, e, hc 0 _ rfl, by rw [← Jf _ _ 1 (by omega)]; exact hc 1 _ rfl, by rw [← Jf _ _ 2 (by omega)]; exact hc 2 _ rfl, by rw [← Jf _ _ 3 (by omega)]; exact hc 3 _ rfl, k, g1, l, g2⟩
theorem S4 {w : World} {A : Option Addr} {n : Nat} {xs : List S75} (h : Kd.C k75 w A n xs) (i : Int) (h0 : 0 ≤ i) (h1 : i < n) : ∃ ad a c b d, A = some ad ∧ w.cell? (ad.add (i.toNat * 4)) = some (.int .i64 (EM xs i).f0) ∧ w.cell? ⟨(ad.add (i.toNat * 4)).block, (ad.add (i.toNat * 4)).off + 1, none⟩ = some (.slice a (EM xs i).f1.length c) ∧ w.cell? ⟨(ad.add (i.toNat * 4)).block, (ad.add (i.toNat * 4)).off + 2, none⟩ = some (.slice b (EM xs i).f2.length d) ∧ w.cell? ⟨(ad.add (i.toNat * 4)).block, (ad.add (i.toNat * 4)).off + 3, none⟩ = some (.bool (EM xs i).f3) ∧ Aside0 ((EM xs i).f1.length ≤ c) ∧ Aside0 ((Kd.int .i64).C w a (EM xs i).f1.length (EM xs i).f1) ∧ Aside0 ((EM xs i).f2.length ≤ d) ∧ Aside0 ((Kd.int .i64).C w b (EM xs i).f2.length (EM xs i).f2) := by
 obtain ⟨e0_, e1_, e2_, e3_, e4_, h0_, h1_, h2_, h3_, h4_, h5_, h6_, h7_, h8_⟩ := Xq h i h0 h1
 exact ⟨e0_, e1_, e2_, e3_, e4_, h0_, h1_, h2_, h3_, h4_, ⟨h5_⟩, ⟨h6_⟩, ⟨h7_⟩, ⟨h8_⟩⟩
structure S81 where
 f0 : Int
 f1 : (List Int)
def z81 : S81 := ⟨(0 : Int), ([] : List Int)⟩
def k81 : Kd S81 := Kd.iso (Kd.pair (Kd.int .i64) (Kd.slice 3 (Kd.int .i64))) (fun x : S81 => (x.f0, x.f1))
theorem Va : Kd.Heap k81 := Kd.VJ _ (Kd.Uu (Kd.LH .i64) (Kd.TC 3 (Kd.LH .i64)))
theorem Nb {w : World} {x : S81} {cs : List Value} (h : k81.K w x cs) : ∃ a b, cs = [.int .i64 x.f0, .slice a x.f1.length b] ∧ x.f1.length ≤ b ∧ (Kd.int .i64).C w a x.f1.length x.f1 := by
 obtain ⟨_, _, rfl, rfl, ⟨a, b, rfl, c, g1⟩⟩ := h
 exact ⟨a, b, rfl, c, g1⟩
theorem X1 (w : World) (x : S81) {a : Option Addr} {b : Nat} (c : x.f1.length ≤ b) (g1 : (Kd.int .i64).C w a x.f1.length x.f1) : k81.K w x [.int .i64 x.f0, .slice a x.f1.length b] := ⟨[.int .i64 x.f0], [.slice a x.f1.length b], rfl, rfl, ⟨a, b, rfl, c, g1⟩⟩
theorem Jq (w : World) (base : Nat) (ok : Nat → Prop) (x : S81) {v1 : Value} (g1 : (Kd.int .i64).R 3 w base ok v1 x.f1) : k81.M w base ok x [.int .i64 x.f0, v1] := ⟨[.int .i64 x.f0], [v1], rfl, rfl, ⟨v1, rfl, g1⟩⟩
theorem UI {W : World} {ok : Nat → Prop} {x : S81} {cs : List Value} (h : Kd.FK k81 W ok x cs) : ∃ a b, cs = [.int .i64 x.f0, .slice a x.f1.length b] ∧ x.f1.length ≤ b ∧ Kd.F (Kd.int .i64) W ok a x.f1.length x.f1 := by
 obtain ⟨a, b, rfl, c, _⟩ := Nb (Kd.J7 h)
 exact ⟨a, b, rfl, c, (fun W' hW => by obtain ⟨A1_, c1_, he, l1_, g1_⟩ := Nb (h W' hW); injection (Option.some.inj (show some (Value.slice a x.f1.length b) = some (Value.slice A1_ x.f1.length c1_) from congrArg (fun l => l[1]?) he)) with ha_ _ _; rw [ha_]; exact g1_)⟩
theorem XC (W : World) (ok : Nat → Prop) (x : S81) {a : Option Addr} {b : Nat} (c : x.f1.length ≤ b) (g1 : Kd.F (Kd.int .i64) W ok a x.f1.length x.f1) : Kd.FK k81 W ok x [.int .i64 x.f0, .slice a x.f1.length b] := fun W2 hW => X1 W2 x c (g1 W2 hW)
def AX (xs : List S81) (i : Int) : S81 := xs.getD i.toNat z81
theorem X6 {w : World} {A : Option Addr} {n : Nat} {xs : List S81} (h : Kd.C k81 w A n xs) (i : Int) (h0 : 0 ≤ i) (h1 : i < n) : ∃ ad a b, A = some ad ∧ w.cell? (ad.add (i.toNat * 2)) = some (.int .i64 (AX xs i).f0) ∧ w.cell? ⟨(ad.add (i.toNat * 2)).block, (ad.add (i.toNat * 2)).off + 1, none⟩ = some (.slice a (AX xs i).f1.length b) ∧ (AX xs i).f1.length ≤ b ∧ (Kd.int .i64).C w a (AX xs i).f1.length (AX xs i).f1 := by
 obtain ⟨ad, c, e, _, hK, d⟩ := Kd.Oo h z81 i h0 h1
 have hc : ∀ j u, c[j]? = some u → w.cell? (ad.add (i.toNat * 2 + j)) = some u := d
 obtain ⟨a, b, rfl, f, g1⟩ := Nb hK
 exact ⟨ad, a, b, e, hc 0 _ rfl, by rw [← Jf _ _ 1 (by omega)]; exact hc 1 _ rfl, f, g1⟩
theorem Ip {w : World} {A : Option Addr} {n : Nat} {xs : List S81} (h : Kd.C k81 w A n xs) (i : Int) (h0 : 0 ≤ i) (h1 : i < n) : ∃ ad a b, A = some ad ∧ w.cell? (ad.add (i.toNat * 2)) = some (.int .i64 (AX xs i).f0) ∧ w.cell? ⟨(ad.add (i.toNat * 2)).block, (ad.add (i.toNat * 2)).off + 1, none⟩ = some (.slice a (AX xs i).f1.length b) ∧ Aside0 ((AX xs i).f1.length ≤ b) ∧ Aside0 ((Kd.int .i64).C w a (AX xs i).f1.length (AX xs i).f1) := by
 obtain ⟨e0_, e1_, e2_, h0_, h1_, h2_, h3_, h4_⟩ := X6 h i h0 h1
 exact ⟨e0_, e1_, e2_, h0_, h1_, h2_, ⟨h3_⟩, ⟨h4_⟩⟩
structure K9 where
 f0 : Int
 f1 : Int
def Zg : Kd K9 := Kd.iso (Kd.pair (Kd.int .i64) (Kd.int .i64)) (fun x : K9 => (x.f0, x.f1))
theorem D3 {p q : Prop} (h : p) (e : p → q := by intro h_; repeat (first | (with_reducible first | exact h_ | apply Ae.alloc | apply Ae.drewN | apply Ae.drew | apply Ae.set_1 | apply Ae.set_2) | exact h_)) : q := e h
theorem HQ {p q a : Prop} (h : p) (x0_ : a) (e : p → a → q := by intro h_ x0_; repeat (first | (with_reducible first | exact h_ | apply Ae.alloc | apply Ae.drewN | apply Ae.drew | apply Ae.set_1 | apply Ae.set_2 | refine Ae.far ?_ x0_ _) | exact h_)) : q := e h x0_
theorem Bz {p q a b : Prop} (h : p) (x0_ : a) (x1_ : b) (e : p → a → b → q := by intro h_ x0_ x1_; repeat (first | (with_reducible first | exact h_ | apply Ae.alloc | apply Ae.drewN | apply Ae.drew | apply Ae.set_1 | apply Ae.set_2 | refine Ae.far ?_ x0_ _ | refine Ae.far ?_ x1_ _) | exact h_)) : q := e h x0_ x1_
end Go.Proofs.YtibmehnippjakaaGreat.Print
