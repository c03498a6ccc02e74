-- Written by a program of this session (printx.py) out of the translation; Lean checks it.
import Derived.Test.YtibmehnippjakaaProg
import Derived.Below
import Derived.Deep.Draws
import Derived.Deep.AppendLies
import Derived.Maps.AppendAt
import Derived.OwnWalk
import Derived.Laws.BytesArg
import Derived.Laws.MakeOwn
import Derived.Laws.OwnMore
import Derived.Deep.OwnRows
import Derived.Tactics
import Derived.Lib.ConvBytes
import Derived.Laws.Slices
import Derived.WalkKit
import Derived.KernelRfl
import Derived.RowKit3
import Derived.Deep.LoopGhost
import Derived.Deep.QuietTactic
import Derived.BigQuiet
import Derived.WideLaws
import Derived.Deep.DeepCutAuto
import Derived.Deep.CutBlock
import Derived.Deep.RegionHeld3
import Derived.Laws.Rows
import Derived.Lib.AppendStr
import Derived.ArgAppend
import Derived.Laws.IdiomCopy
import Derived.OrdersHeld
import Derived.Laws.BitsLemmas
import Derived.RowKit
import Derived.Lib.SliceRun
import Derived.Test.YtibmehnippjakaaShort
import Derived.Test.YtibmehnippjakaaShapes
import Derived.Test.YtibmehnippjakaaGreaseK
import Derived.Test.YtibmehnippjakaaWWords
import Derived.Test.YtibmehnippjakaaWLast
import Derived.Test.YtibmehnippjakaaWTab
import Derived.Test.YtibmehnippjakaaWQPut
import Derived.Test.YtibmehnippjakaaWApart
import Derived.Test.YtibmehnippjakaaWArr
import Derived.Test.YtibmehnippjakaaWZeros
import Derived.Test.YtibmehnippjakaaWFoot
import Derived.Test.YtibmehnippjakaaWKept
import Derived.Test.YtibmehnippjakaaWShare
import Derived.Test.YtibmehnippjakaaWN
import Derived.Test.YtibmehnippjakaaWRepsOne
import Derived.Test.YtibmehnippjakaaWGuard
import Derived.Test.YtibmehnippjakaaWNEv
import Derived.Test.YtibmehnippjakaaWMore
namespace Go.Proofs.Ytibmehnippjakaa.Print
open Go.RowKit Go.Proofs.YtibmehnippjakaaW.PrintWords Go.Proofs.YtibmehnippjakaaW.PrintLast Go.Proofs.YtibmehnippjakaaW.PrintMore Go.Proofs.Ytibmehnippjakaa.Short
attribute [local go_sem] max2_int min2_int max_two min_two max_three min_three max_four min_four   -- for this text's walks alone
set_option linter.unusedVariables false
set_option maxHeartbeats 8000000
set_option maxRecDepth 100000
set_option linter.unusedSimpArgs false



def errW : Option Int → Value
 | none => .nilIface
 | some c => .iface 0 (.int .i64 c)
theorem errW_none : errW none = .nilIface := rfl
theorem errW_some (c : Int) : errW (some c) = .iface 0 (.int .i64 c) := rfl

theorem info3 : (Try.prog.info? 3).map (fun i => (i.zero, i.size, i.bytes)) = some (some (.int .i64 0), 1, 8) := by kernel_rfl
theorem info44 : (Try.prog.info? 44).map (fun i => (i.zero, i.size, i.bytes)) = some (some (.agg #[(.int .i64 0), (.slice none 0 0)]), 2, 32) := by kernel_rfl
theorem info59 : (Try.prog.info? 59).map (fun i => (i.zero, i.size, i.bytes)) = some (some (.agg #[(.int .i64 0), (.slice none 0 0), (.slice none 0 0), (.bool false)]), 4, 64) := by kernel_rfl
-- the values' own types
def rd_L1 (xs : List (List Int)) (i : Int) : (List Int) := xs.getD i.toNat ([] : List Int)
theorem at_L1 {w : World} {A : Option Addr} {n : Nat} {xs : List (List Int)} (h : Kd.C (Kd.slice 3 (Kd.int .i64)) w A n xs) (i : Int) (h0 : 0 ≤ i) (h1 : i < n) : ∃ ad a b, A = some ad ∧ w.cell? (ad.add i.toNat) = some (.slice a (rd_L1 xs i).length b) ∧ (rd_L1 xs i).length ≤ b ∧ (Kd.int .i64).C w a (rd_L1 xs i).length (rd_L1 xs i) := by
 obtain ⟨ad, c, e, _, hK, d⟩ := Kd.C_get h ([] : List Int) i h0 h1
 have hc : ∀ j u, c[j]? = some u → w.cell? (ad.add (i.toNat * 1 + j)) = some u := d
 obtain ⟨a, b, rfl, f, g0⟩ := hK
 exact ⟨ad, a, b, e, by have hq := hc 0 _ rfl; rwa [Nat.mul_one, Nat.add_zero] at hq, f, g0⟩

/-! #### struct type 55 -/
structure S55 where
 f0 : Int
 f1 : (List Int)
 f2 : (List Int)
 f3 : Bool
def z55 : S55 := ⟨(0 : Int), ([] : List Int), ([] : List Int), false⟩
def k55 : Kd S55 := Kd.iso (Kd.pair (Kd.int .i64) (Kd.pair (Kd.slice 3 (Kd.int .i64)) (Kd.pair (Kd.slice 3 (Kd.int .i64)) Kd.bool))) (fun x : S55 => (x.f0, x.f1, x.f2, x.f3))
theorem k55_open {w : World} {x : S55} {cs : List Value} (h : k55.K w x cs) : ∃ a c b d, cs = [.int .i64 x.f0, .slice a x.f1.length c, .slice b x.f2.length d, .bool x.f3] ∧ x.f1.length ≤ c ∧ (Kd.int .i64).C w a x.f1.length x.f1 ∧ x.f2.length ≤ d ∧ (Kd.int .i64).C w b x.f2.length x.f2 := by
 obtain ⟨_, _, rfl, rfl, ⟨_, _, rfl, ⟨a, c, rfl, e, g1⟩, ⟨_, _, rfl, ⟨b, d, rfl, f, g2⟩, rfl⟩⟩⟩ := h
 exact ⟨a, c, b, d, rfl, e, g1, f, g2⟩
theorem k55_openM {w : World} {base : Nat} {ok : Nat → Prop} {x : S55} {cs : List Value} (h : k55.M w base ok x cs) : ∃ a b, cs = [.int .i64 x.f0, a, b, .bool x.f3] ∧ (Kd.int .i64).R 3 w base ok a x.f1 ∧ (Kd.int .i64).R 3 w base ok b x.f2 := by
 obtain ⟨_, _, rfl, rfl, ⟨_, _, rfl, ⟨a, rfl, g1⟩, ⟨_, _, rfl, ⟨b, rfl, g2⟩, rfl⟩⟩⟩ := h
 exact ⟨a, b, rfl, g1, g2⟩
theorem k55_mk (w : World) (x : S55) {c : Option Addr} {d : Nat} (e : x.f1.length ≤ d) (g1 : (Kd.int .i64).C w c x.f1.length x.f1) {a : Option Addr} {b : Nat} (f : x.f2.length ≤ b) (g2 : (Kd.int .i64).C w a x.f2.length x.f2) : k55.K w x [.int .i64 x.f0, .slice c x.f1.length d, .slice a x.f2.length b, .bool x.f3] := ⟨[.int .i64 x.f0], [.slice c x.f1.length d, .slice a x.f2.length b, .bool x.f3], rfl, rfl, ⟨[.slice c x.f1.length d], [.slice a x.f2.length b, .bool x.f3], rfl, ⟨c, d, rfl, e, g1⟩, ⟨[.slice a x.f2.length b], [.bool x.f3], rfl, ⟨a, b, rfl, f, g2⟩, rfl⟩⟩⟩
theorem k55_mkM (w : World) (base : Nat) (ok : Nat → Prop) (x : S55) {b : Value} (g1 : (Kd.int .i64).R 3 w base ok b x.f1) {a : Value} (g2 : (Kd.int .i64).R 3 w base ok a x.f2) : k55.M w base ok x [.int .i64 x.f0, b, a, .bool x.f3] := ⟨[.int .i64 x.f0], [b, a, .bool x.f3], rfl, rfl, ⟨[b], [a, .bool x.f3], rfl, ⟨b, rfl, g1⟩, ⟨[a], [.bool x.f3], rfl, ⟨a, rfl, g2⟩, rfl⟩⟩⟩
theorem k55_openF {W : World} {ok : Nat → Prop} {x : S55} {cs : List Value} (h : Kd.FK k55 W ok x cs) : ∃ a c b d, cs = [.int .i64 x.f0, .slice a x.f1.length c, .slice b x.f2.length d, .bool x.f3] ∧ x.f1.length ≤ c ∧ Kd.F (Kd.int .i64) W ok a x.f1.length x.f1 ∧ x.f2.length ≤ d ∧ Kd.F (Kd.int .i64) W ok b x.f2.length x.f2 := by
 obtain ⟨a, c, b, d, rfl, e, _, f, _⟩ := k55_open (Kd.FK_now h)
 exact ⟨a, c, b, d, rfl, e, (fun W' hW => by obtain ⟨A1_, c1_, A2_, c2_, he, l1_, g1_, l2_, g2_⟩ := k55_open (h W' hW); injection (Option.some.inj (show some (Value.slice a x.f1.length c) = some (Value.slice A1_ x.f1.length c1_) from congrArg (fun l => l[1]?) he)) with ha_ _ _; rw [ha_]; exact g1_), f, (fun W' hW => by obtain ⟨A1_, c1_, A2_, c2_, he, l1_, g1_, l2_, g2_⟩ := k55_open (h W' hW); injection (Option.some.inj (show some (Value.slice b x.f2.length d) = some (Value.slice A2_ x.f2.length c2_) from congrArg (fun l => l[2]?) he)) with ha_ _ _; rw [ha_]; exact g2_)⟩
theorem k55_mkF (W : World) (ok : Nat → Prop) (x : S55) {a : Option Addr} {c : Nat} (e : x.f1.length ≤ c) (g1 : Kd.F (Kd.int .i64) W ok a x.f1.length x.f1) {b : Option Addr} {d : Nat} (f : x.f2.length ≤ d) (g2 : Kd.F (Kd.int .i64) W ok b x.f2.length x.f2) : Kd.FK k55 W ok x [.int .i64 x.f0, .slice a x.f1.length c, .slice b x.f2.length d, .bool x.f3] := fun W2 hW => k55_mk W2 x e (g1 W2 hW) f (g2 W2 hW)
def rd_T55 (xs : List S55) (i : Int) : S55 := xs.getD i.toNat z55
theorem at_T55 {w : World} {A : Option Addr} {n : Nat} {xs : List S55} (h : Kd.C k55 w A n xs) (i : Int) (h0 : 0 ≤ i) (h1 : i < n) : ∃ ad a d b f, A = some ad ∧ w.cell? (ad.add (i.toNat * 4)) = some (.int .i64 (rd_T55 xs i).f0) ∧ w.cell? ⟨(ad.add (i.toNat * 4)).block, (ad.add (i.toNat * 4)).off + 1, none⟩ = some (.slice a (rd_T55 xs i).f1.length d) ∧ w.cell? ⟨(ad.add (i.toNat * 4)).block, (ad.add (i.toNat * 4)).off + 2, none⟩ = some (.slice b (rd_T55 xs i).f2.length f) ∧ w.cell? ⟨(ad.add (i.toNat * 4)).block, (ad.add (i.toNat * 4)).off + 3, none⟩ = some (.bool (rd_T55 xs i).f3) ∧ (rd_T55 xs i).f1.length ≤ d ∧ (Kd.int .i64).C w a (rd_T55 xs i).f1.length (rd_T55 xs i).f1 ∧ (rd_T55 xs i).f2.length ≤ f ∧ (Kd.int .i64).C w b (rd_T55 xs i).f2.length (rd_T55 xs i).f2 := by
 obtain ⟨ad, c, e, _, hK, g⟩ := Kd.C_get h z55 i h0 h1
 have hc : ∀ j u, c[j]? = some u → w.cell? (ad.add (i.toNat * 4 + j)) = some u := g
 obtain ⟨a, d, b, f, rfl, k, g1, l, g2⟩ := k55_open hK
 exact ⟨ad, a, d, b, f, e, hc 0 _ rfl, by rw [← add_field _ _ 1 (by omega)]; exact hc 1 _ rfl, by rw [← add_field _ _ 2 (by omega)]; exact hc 2 _ rfl, by rw [← add_field _ _ 3 (by omega)]; exact hc 3 _ rfl, k, g1, l, g2⟩
theorem at_U55 {w : World} {A : Option Addr} {n : Nat} {xs : List S55} (h : Kd.C k55 w A n xs) (i : Int) (h0 : 0 ≤ i) (h1 : i < n) : ∃ ad a c b d, A = some ad ∧ w.cell? (ad.add (i.toNat * 4)) = some (.int .i64 (rd_T55 xs i).f0) ∧ w.cell? ⟨(ad.add (i.toNat * 4)).block, (ad.add (i.toNat * 4)).off + 1, none⟩ = some (.slice a (rd_T55 xs i).f1.length c) ∧ w.cell? ⟨(ad.add (i.toNat * 4)).block, (ad.add (i.toNat * 4)).off + 2, none⟩ = some (.slice b (rd_T55 xs i).f2.length d) ∧ w.cell? ⟨(ad.add (i.toNat * 4)).block, (ad.add (i.toNat * 4)).off + 3, none⟩ = some (.bool (rd_T55 xs i).f3) ∧ Aside0 ((rd_T55 xs i).f1.length ≤ c) ∧ Aside0 ((Kd.int .i64).C w a (rd_T55 xs i).f1.length (rd_T55 xs i).f1) ∧ Aside0 ((rd_T55 xs i).f2.length ≤ d) ∧ Aside0 ((Kd.int .i64).C w b (rd_T55 xs i).f2.length (rd_T55 xs i).f2) := by
 obtain ⟨e0_, e1_, e2_, e3_, e4_, h0_, h1_, h2_, h3_, h4_, h5_, h6_, h7_, h8_⟩ := at_T55 h i h0 h1
 exact ⟨e0_, e1_, e2_, e3_, e4_, h0_, h1_, h2_, h3_, h4_, ⟨h5_⟩, ⟨h6_⟩, ⟨h7_⟩, ⟨h8_⟩⟩

/-! #### struct type 59 -/
structure S59 where
 f0 : Int
 f1 : (List Int)
 f2 : (List Int)
 f3 : Bool
def z59 : S59 := ⟨(0 : Int), ([] : List Int), ([] : List Int), false⟩
def k59 : Kd S59 := Kd.iso (Kd.pair (Kd.int .i64) (Kd.pair (Kd.slice 3 (Kd.int .i64)) (Kd.pair (Kd.slice 3 (Kd.int .i64)) Kd.bool))) (fun x : S59 => (x.f0, x.f1, x.f2, x.f3))
theorem k59_open {w : World} {x : S59} {cs : List Value} (h : k59.K w x cs) : ∃ a c b d, cs = [.int .i64 x.f0, .slice a x.f1.length c, .slice b x.f2.length d, .bool x.f3] ∧ x.f1.length ≤ c ∧ (Kd.int .i64).C w a x.f1.length x.f1 ∧ x.f2.length ≤ d ∧ (Kd.int .i64).C w b x.f2.length x.f2 := by
 obtain ⟨_, _, rfl, rfl, ⟨_, _, rfl, ⟨a, c, rfl, e, g1⟩, ⟨_, _, rfl, ⟨b, d, rfl, f, g2⟩, rfl⟩⟩⟩ := h
 exact ⟨a, c, b, d, rfl, e, g1, f, g2⟩
theorem k59_openM {w : World} {base : Nat} {ok : Nat → Prop} {x : S59} {cs : List Value} (h : k59.M w base ok x cs) : ∃ a b, cs = [.int .i64 x.f0, a, b, .bool x.f3] ∧ (Kd.int .i64).R 3 w base ok a x.f1 ∧ (Kd.int .i64).R 3 w base ok b x.f2 := by
 obtain ⟨_, _, rfl, rfl, ⟨_, _, rfl, ⟨a, rfl, g1⟩, ⟨_, _, rfl, ⟨b, rfl, g2⟩, rfl⟩⟩⟩ := h
 exact ⟨a, b, rfl, g1, g2⟩
theorem k59_mk (w : World) (x : S59) {c : Option Addr} {d : Nat} (e : x.f1.length ≤ d) (g1 : (Kd.int .i64).C w c x.f1.length x.f1) {a : Option Addr} {b : Nat} (f : x.f2.length ≤ b) (g2 : (Kd.int .i64).C w a x.f2.length x.f2) : k59.K w x [.int .i64 x.f0, .slice c x.f1.length d, .slice a x.f2.length b, .bool x.f3] := ⟨[.int .i64 x.f0], [.slice c x.f1.length d, .slice a x.f2.length b, .bool x.f3], rfl, rfl, ⟨[.slice c x.f1.length d], [.slice a x.f2.length b, .bool x.f3], rfl, ⟨c, d, rfl, e, g1⟩, ⟨[.slice a x.f2.length b], [.bool x.f3], rfl, ⟨a, b, rfl, f, g2⟩, rfl⟩⟩⟩
theorem k59_mkM (w : World) (base : Nat) (ok : Nat → Prop) (x : S59) {b : Value} (g1 : (Kd.int .i64).R 3 w base ok b x.f1) {a : Value} (g2 : (Kd.int .i64).R 3 w base ok a x.f2) : k59.M w base ok x [.int .i64 x.f0, b, a, .bool x.f3] := ⟨[.int .i64 x.f0], [b, a, .bool x.f3], rfl, rfl, ⟨[b], [a, .bool x.f3], rfl, ⟨b, rfl, g1⟩, ⟨[a], [.bool x.f3], rfl, ⟨a, rfl, g2⟩, rfl⟩⟩⟩
theorem k59_openF {W : World} {ok : Nat → Prop} {x : S59} {cs : List Value} (h : Kd.FK k59 W ok x cs) : ∃ a c b d, cs = [.int .i64 x.f0, .slice a x.f1.length c, .slice b x.f2.length d, .bool x.f3] ∧ x.f1.length ≤ c ∧ Kd.F (Kd.int .i64) W ok a x.f1.length x.f1 ∧ x.f2.length ≤ d ∧ Kd.F (Kd.int .i64) W ok b x.f2.length x.f2 := by
 obtain ⟨a, c, b, d, rfl, e, _, f, _⟩ := k59_open (Kd.FK_now h)
 exact ⟨a, c, b, d, rfl, e, (fun W' hW => by obtain ⟨A1_, c1_, A2_, c2_, he, l1_, g1_, l2_, g2_⟩ := k59_open (h W' hW); injection (Option.some.inj (show some (Value.slice a x.f1.length c) = some (Value.slice A1_ x.f1.length c1_) from congrArg (fun l => l[1]?) he)) with ha_ _ _; rw [ha_]; exact g1_), f, (fun W' hW => by obtain ⟨A1_, c1_, A2_, c2_, he, l1_, g1_, l2_, g2_⟩ := k59_open (h W' hW); injection (Option.some.inj (show some (Value.slice b x.f2.length d) = some (Value.slice A2_ x.f2.length c2_) from congrArg (fun l => l[2]?) he)) with ha_ _ _; rw [ha_]; exact g2_)⟩
theorem k59_mkF (W : World) (ok : Nat → Prop) (x : S59) {a : Option Addr} {c : Nat} (e : x.f1.length ≤ c) (g1 : Kd.F (Kd.int .i64) W ok a x.f1.length x.f1) {b : Option Addr} {d : Nat} (f : x.f2.length ≤ d) (g2 : Kd.F (Kd.int .i64) W ok b x.f2.length x.f2) : Kd.FK k59 W ok x [.int .i64 x.f0, .slice a x.f1.length c, .slice b x.f2.length d, .bool x.f3] := fun W2 hW => k59_mk W2 x e (g1 W2 hW) f (g2 W2 hW)
def rd_T59 (xs : List S59) (i : Int) : S59 := xs.getD i.toNat z59
theorem at_T59 {w : World} {A : Option Addr} {n : Nat} {xs : List S59} (h : Kd.C k59 w A n xs) (i : Int) (h0 : 0 ≤ i) (h1 : i < n) : ∃ ad a d b f, A = some ad ∧ w.cell? (ad.add (i.toNat * 4)) = some (.int .i64 (rd_T59 xs i).f0) ∧ w.cell? ⟨(ad.add (i.toNat * 4)).block, (ad.add (i.toNat * 4)).off + 1, none⟩ = some (.slice a (rd_T59 xs i).f1.length d) ∧ w.cell? ⟨(ad.add (i.toNat * 4)).block, (ad.add (i.toNat * 4)).off + 2, none⟩ = some (.slice b (rd_T59 xs i).f2.length f) ∧ w.cell? ⟨(ad.add (i.toNat * 4)).block, (ad.add (i.toNat * 4)).off + 3, none⟩ = some (.bool (rd_T59 xs i).f3) ∧ (rd_T59 xs i).f1.length ≤ d ∧ (Kd.int .i64).C w a (rd_T59 xs i).f1.length (rd_T59 xs i).f1 ∧ (rd_T59 xs i).f2.length ≤ f ∧ (Kd.int .i64).C w b (rd_T59 xs i).f2.length (rd_T59 xs i).f2 := by
 obtain ⟨ad, c, e, _, hK, g⟩ := Kd.C_get h z59 i h0 h1
 have hc : ∀ j u, c[j]? = some u → w.cell? (ad.add (i.toNat * 4 + j)) = some u := g
 obtain ⟨a, d, b, f, rfl, k, g1, l, g2⟩ := k59_open hK
 exact ⟨ad, a, d, b, f, e, hc 0 _ rfl, by rw [← add_field _ _ 1 (by omega)]; exact hc 1 _ rfl, by rw [← add_field _ _ 2 (by omega)]; exact hc 2 _ rfl, by rw [← add_field _ _ 3 (by omega)]; exact hc 3 _ rfl, k, g1, l, g2⟩
theorem at_U59 {w : World} {A : Option Addr} {n : Nat} {xs : List S59} (h : Kd.C k59 w A n xs) (i : Int) (h0 : 0 ≤ i) (h1 : i < n) : ∃ ad a c b d, A = some ad ∧ w.cell? (ad.add (i.toNat * 4)) = some (.int .i64 (rd_T59 xs i).f0) ∧ w.cell? ⟨(ad.add (i.toNat * 4)).block, (ad.add (i.toNat * 4)).off + 1, none⟩ = some (.slice a (rd_T59 xs i).f1.length c) ∧ w.cell? ⟨(ad.add (i.toNat * 4)).block, (ad.add (i.toNat * 4)).off + 2, none⟩ = some (.slice b (rd_T59 xs i).f2.length d) ∧ w.cell? ⟨(ad.add (i.toNat * 4)).block, (ad.add (i.toNat * 4)).off + 3, none⟩ = some (.bool (rd_T59 xs i).f3) ∧ Aside0 ((rd_T59 xs i).f1.length ≤ c) ∧ Aside0 ((Kd.int .i64).C w a (rd_T59 xs i).f1.length (rd_T59 xs i).f1) ∧ Aside0 ((rd_T59 xs i).f2.length ≤ d) ∧ Aside0 ((Kd.int .i64).C w b (rd_T59 xs i).f2.length (rd_T59 xs i).f2) := by
 obtain ⟨e0_, e1_, e2_, e3_, e4_, h0_, h1_, h2_, h3_, h4_, h5_, h6_, h7_, h8_⟩ := at_T59 h i h0 h1
 exact ⟨e0_, e1_, e2_, e3_, e4_, h0_, h1_, h2_, h3_, h4_, ⟨h5_⟩, ⟨h6_⟩, ⟨h7_⟩, ⟨h8_⟩⟩

/-! #### struct type 44 -/
structure S44 where
 f0 : Int
 f1 : (List Int)
def z44 : S44 := ⟨(0 : Int), ([] : List Int)⟩
def k44 : Kd S44 := Kd.iso (Kd.pair (Kd.int .i64) (Kd.slice 3 (Kd.int .i64))) (fun x : S44 => (x.f0, x.f1))
theorem k44_open {w : World} {x : S44} {cs : List Value} (h : k44.K w x cs) : ∃ a b, cs = [.int .i64 x.f0, .slice a x.f1.length b] ∧ x.f1.length ≤ b ∧ (Kd.int .i64).C w a x.f1.length x.f1 := by
 obtain ⟨_, _, rfl, rfl, ⟨a, b, rfl, c, g1⟩⟩ := h
 exact ⟨a, b, rfl, c, g1⟩
theorem k44_openM {w : World} {base : Nat} {ok : Nat → Prop} {x : S44} {cs : List Value} (h : k44.M w base ok x cs) : ∃ a, cs = [.int .i64 x.f0, a] ∧ (Kd.int .i64).R 3 w base ok a x.f1 := by
 obtain ⟨_, _, rfl, rfl, ⟨a, rfl, g1⟩⟩ := h
 exact ⟨a, rfl, g1⟩
theorem k44_mk (w : World) (x : S44) {a : Option Addr} {b : Nat} (c : x.f1.length ≤ b) (g1 : (Kd.int .i64).C w a x.f1.length x.f1) : k44.K w x [.int .i64 x.f0, .slice a x.f1.length b] := ⟨[.int .i64 x.f0], [.slice a x.f1.length b], rfl, rfl, ⟨a, b, rfl, c, g1⟩⟩
theorem k44_mkM (w : World) (base : Nat) (ok : Nat → Prop) (x : S44) {a : Value} (g1 : (Kd.int .i64).R 3 w base ok a x.f1) : k44.M w base ok x [.int .i64 x.f0, a] := ⟨[.int .i64 x.f0], [a], rfl, rfl, ⟨a, rfl, g1⟩⟩
theorem k44_openF {W : World} {ok : Nat → Prop} {x : S44} {cs : List Value} (h : Kd.FK k44 W ok x cs) : ∃ a b, cs = [.int .i64 x.f0, .slice a x.f1.length b] ∧ x.f1.length ≤ b ∧ Kd.F (Kd.int .i64) W ok a x.f1.length x.f1 := by
 obtain ⟨a, b, rfl, c, _⟩ := k44_open (Kd.FK_now h)
 exact ⟨a, b, rfl, c, (fun W' hW => by obtain ⟨A1_, c1_, he, l1_, g1_⟩ := k44_open (h W' hW); injection (Option.some.inj (show some (Value.slice a x.f1.length b) = some (Value.slice A1_ x.f1.length c1_) from congrArg (fun l => l[1]?) he)) with ha_ _ _; rw [ha_]; exact g1_)⟩
theorem k44_mkF (W : World) (ok : Nat → Prop) (x : S44) {a : Option Addr} {b : Nat} (c : x.f1.length ≤ b) (g1 : Kd.F (Kd.int .i64) W ok a x.f1.length x.f1) : Kd.FK k44 W ok x [.int .i64 x.f0, .slice a x.f1.length b] := fun W2 hW => k44_mk W2 x c (g1 W2 hW)
def rd_T44 (xs : List S44) (i : Int) : S44 := xs.getD i.toNat z44
theorem at_T44 {w : World} {A : Option Addr} {n : Nat} {xs : List S44} (h : Kd.C k44 w A n xs) (i : Int) (h0 : 0 ≤ i) (h1 : i < n) : ∃ ad a b, A = some ad ∧ w.cell? (ad.add (i.toNat * 2)) = some (.int .i64 (rd_T44 xs i).f0) ∧ w.cell? ⟨(ad.add (i.toNat * 2)).block, (ad.add (i.toNat * 2)).off + 1, none⟩ = some (.slice a (rd_T44 xs i).f1.length b) ∧ (rd_T44 xs i).f1.length ≤ b ∧ (Kd.int .i64).C w a (rd_T44 xs i).f1.length (rd_T44 xs i).f1 := by
 obtain ⟨ad, c, e, _, hK, d⟩ := Kd.C_get h z44 i h0 h1
 have hc : ∀ j u, c[j]? = some u → w.cell? (ad.add (i.toNat * 2 + j)) = some u := d
 obtain ⟨a, b, rfl, f, g1⟩ := k44_open hK
 exact ⟨ad, a, b, e, hc 0 _ rfl, by rw [← add_field _ _ 1 (by omega)]; exact hc 1 _ rfl, f, g1⟩
theorem at_U44 {w : World} {A : Option Addr} {n : Nat} {xs : List S44} (h : Kd.C k44 w A n xs) (i : Int) (h0 : 0 ≤ i) (h1 : i < n) : ∃ ad a b, A = some ad ∧ w.cell? (ad.add (i.toNat * 2)) = some (.int .i64 (rd_T44 xs i).f0) ∧ w.cell? ⟨(ad.add (i.toNat * 2)).block, (ad.add (i.toNat * 2)).off + 1, none⟩ = some (.slice a (rd_T44 xs i).f1.length b) ∧ Aside0 ((rd_T44 xs i).f1.length ≤ b) ∧ Aside0 ((Kd.int .i64).C w a (rd_T44 xs i).f1.length (rd_T44 xs i).f1) := by
 obtain ⟨e0_, e1_, e2_, h0_, h1_, h2_, h3_, h4_⟩ := at_T44 h i h0 h1
 exact ⟨e0_, e1_, e2_, h0_, h1_, h2_, ⟨h3_⟩, ⟨h4_⟩⟩

def rd_L6 (xs : List (List S55)) (i : Int) : (List S55) := xs.getD i.toNat ([] : List S55)
theorem at_L6 {w : World} {A : Option Addr} {n : Nat} {xs : List (List S55)} (h : Kd.C (Kd.slice 55 k55) w A n xs) (i : Int) (h0 : 0 ≤ i) (h1 : i < n) : ∃ ad a b, A = some ad ∧ w.cell? (ad.add i.toNat) = some (.slice a (rd_L6 xs i).length b) ∧ (rd_L6 xs i).length ≤ b ∧ k55.C w a (rd_L6 xs i).length (rd_L6 xs i) := by
 obtain ⟨ad, c, e, _, hK, d⟩ := Kd.C_get h ([] : List S55) i h0 h1
 have hc : ∀ j u, c[j]? = some u → w.cell? (ad.add (i.toNat * 1 + j)) = some u := d
 obtain ⟨a, b, rfl, f, g0⟩ := hK
 exact ⟨ad, a, b, e, by have hq := hc 0 _ rfl; rwa [Nat.mul_one, Nat.add_zero] at hq, f, g0⟩

/-! #### struct type 25 -/
structure S25 where
 f0 : (List Int)
 f1 : (List Int)
 f2 : (List S55)
 f3 : Int
def z25 : S25 := ⟨([] : List Int), ([] : List Int), ([] : List S55), (0 : Int)⟩
def k25 : Kd S25 := Kd.iso (Kd.pair (Kd.slice 3 (Kd.int .i64)) (Kd.pair (Kd.slice 3 (Kd.int .i64)) (Kd.pair (Kd.slice 55 k55) (Kd.int .i64)))) (fun x : S25 => (x.f0, x.f1, x.f2, x.f3))
theorem k25_open {w : World} {x : S25} {cs : List Value} (h : k25.K w x cs) : ∃ a d b e c f, cs = [.slice a x.f0.length d, .slice b x.f1.length e, .slice c x.f2.length f, .int .i64 x.f3] ∧ x.f0.length ≤ d ∧ (Kd.int .i64).C w a x.f0.length x.f0 ∧ x.f1.length ≤ e ∧ (Kd.int .i64).C w b x.f1.length x.f1 ∧ x.f2.length ≤ f ∧ k55.C w c x.f2.length x.f2 := by
 obtain ⟨_, _, rfl, ⟨a, d, rfl, g, g0⟩, ⟨_, _, rfl, ⟨b, e, rfl, i, g1⟩, ⟨_, _, rfl, ⟨c, f, rfl, j, g2⟩, rfl⟩⟩⟩ := h
 exact ⟨a, d, b, e, c, f, rfl, g, g0, i, g1, j, g2⟩
theorem k25_openM {w : World} {base : Nat} {ok : Nat → Prop} {x : S25} {cs : List Value} (h : k25.M w base ok x cs) : ∃ a b c, cs = [a, b, c, .int .i64 x.f3] ∧ (Kd.int .i64).R 3 w base ok a x.f0 ∧ (Kd.int .i64).R 3 w base ok b x.f1 ∧ k55.R 55 w base ok c x.f2 := by
 obtain ⟨_, _, rfl, ⟨a, rfl, g0⟩, ⟨_, _, rfl, ⟨b, rfl, g1⟩, ⟨_, _, rfl, ⟨c, rfl, g2⟩, rfl⟩⟩⟩ := h
 exact ⟨a, b, c, rfl, g0, g1, g2⟩
theorem k25_mk (w : World) (x : S25) {e : Option Addr} {f : Nat} (g : x.f0.length ≤ f) (g0 : (Kd.int .i64).C w e x.f0.length x.f0) {c : Option Addr} {d : Nat} (h : x.f1.length ≤ d) (g1 : (Kd.int .i64).C w c x.f1.length x.f1) {a : Option Addr} {b : Nat} (i : x.f2.length ≤ b) (g2 : k55.C w a x.f2.length x.f2) : k25.K w x [.slice e x.f0.length f, .slice c x.f1.length d, .slice a x.f2.length b, .int .i64 x.f3] := ⟨[.slice e x.f0.length f], [.slice c x.f1.length d, .slice a x.f2.length b, .int .i64 x.f3], rfl, ⟨e, f, rfl, g, g0⟩, ⟨[.slice c x.f1.length d], [.slice a x.f2.length b, .int .i64 x.f3], rfl, ⟨c, d, rfl, h, g1⟩, ⟨[.slice a x.f2.length b], [.int .i64 x.f3], rfl, ⟨a, b, rfl, i, g2⟩, rfl⟩⟩⟩
theorem k25_mkM (w : World) (base : Nat) (ok : Nat → Prop) (x : S25) {c : Value} (g0 : (Kd.int .i64).R 3 w base ok c x.f0) {b : Value} (g1 : (Kd.int .i64).R 3 w base ok b x.f1) {a : Value} (g2 : k55.R 55 w base ok a x.f2) : k25.M w base ok x [c, b, a, .int .i64 x.f3] := ⟨[c], [b, a, .int .i64 x.f3], rfl, ⟨c, rfl, g0⟩, ⟨[b], [a, .int .i64 x.f3], rfl, ⟨b, rfl, g1⟩, ⟨[a], [.int .i64 x.f3], rfl, ⟨a, rfl, g2⟩, rfl⟩⟩⟩
theorem k25_openF {W : World} {ok : Nat → Prop} {x : S25} {cs : List Value} (h : Kd.FK k25 W ok x cs) : ∃ a d b e c f, cs = [.slice a x.f0.length d, .slice b x.f1.length e, .slice c x.f2.length f, .int .i64 x.f3] ∧ x.f0.length ≤ d ∧ Kd.F (Kd.int .i64) W ok a x.f0.length x.f0 ∧ x.f1.length ≤ e ∧ Kd.F (Kd.int .i64) W ok b x.f1.length x.f1 ∧ x.f2.length ≤ f ∧ Kd.F k55 W ok c x.f2.length x.f2 := by
 obtain ⟨a, d, b, e, c, f, rfl, g, _, i, _, j, _⟩ := k25_open (Kd.FK_now h)
 exact ⟨a, d, b, e, c, f, rfl, g, (fun W' hW => by obtain ⟨A0_, c0_, A1_, c1_, A2_, c2_, he, l0_, g0_, l1_, g1_, l2_, g2_⟩ := k25_open (h W' hW); injection (Option.some.inj (show some (Value.slice a x.f0.length d) = some (Value.slice A0_ x.f0.length c0_) from congrArg (fun l => l[0]?) he)) with ha_ _ _; rw [ha_]; exact g0_), i, (fun W' hW => by obtain ⟨A0_, c0_, A1_, c1_, A2_, c2_, he, l0_, g0_, l1_, g1_, l2_, g2_⟩ := k25_open (h W' hW); injection (Option.some.inj (show some (Value.slice b x.f1.length e) = some (Value.slice A1_ x.f1.length c1_) from congrArg (fun l => l[1]?) he)) with ha_ _ _; rw [ha_]; exact g1_), j, (fun W' hW => by obtain ⟨A0_, c0_, A1_, c1_, A2_, c2_, he, l0_, g0_, l1_, g1_, l2_, g2_⟩ := k25_open (h W' hW); injection (Option.some.inj (show some (Value.slice c x.f2.length f) = some (Value.slice A2_ x.f2.length c2_) from congrArg (fun l => l[2]?) he)) with ha_ _ _; rw [ha_]; exact g2_)⟩
theorem k25_mkF (W : World) (ok : Nat → Prop) (x : S25) {a : Option Addr} {d : Nat} (g : x.f0.length ≤ d) (g0 : Kd.F (Kd.int .i64) W ok a x.f0.length x.f0) {b : Option Addr} {e : Nat} (h : x.f1.length ≤ e) (g1 : Kd.F (Kd.int .i64) W ok b x.f1.length x.f1) {c : Option Addr} {f : Nat} (i : x.f2.length ≤ f) (g2 : Kd.F k55 W ok c x.f2.length x.f2) : Kd.FK k25 W ok x [.slice a x.f0.length d, .slice b x.f1.length e, .slice c x.f2.length f, .int .i64 x.f3] := fun W2 hW => k25_mk W2 x g (g0 W2 hW) h (g1 W2 hW) i (g2 W2 hW)
def rd_T25 (xs : List S25) (i : Int) : S25 := xs.getD i.toNat z25
theorem at_T25 {w : World} {A : Option Addr} {n : Nat} {xs : List S25} (h : Kd.C k25 w A n xs) (i : Int) (h0 : 0 ≤ i) (h1 : i < n) : ∃ ad a f b g d k, A = some ad ∧ w.cell? (ad.add (i.toNat * 4)) = some (.slice a (rd_T25 xs i).f0.length f) ∧ w.cell? ⟨(ad.add (i.toNat * 4)).block, (ad.add (i.toNat * 4)).off + 1, none⟩ = some (.slice b (rd_T25 xs i).f1.length g) ∧ w.cell? ⟨(ad.add (i.toNat * 4)).block, (ad.add (i.toNat * 4)).off + 2, none⟩ = some (.slice d (rd_T25 xs i).f2.length k) ∧ w.cell? ⟨(ad.add (i.toNat * 4)).block, (ad.add (i.toNat * 4)).off + 3, none⟩ = some (.int .i64 (rd_T25 xs i).f3) ∧ (rd_T25 xs i).f0.length ≤ f ∧ (Kd.int .i64).C w a (rd_T25 xs i).f0.length (rd_T25 xs i).f0 ∧ (rd_T25 xs i).f1.length ≤ g ∧ (Kd.int .i64).C w b (rd_T25 xs i).f1.length (rd_T25 xs i).f1 ∧ (rd_T25 xs i).f2.length ≤ k ∧ k55.C w d (rd_T25 xs i).f2.length (rd_T25 xs i).f2 := by
 obtain ⟨ad, c, e, _, hK, l⟩ := Kd.C_get h z25 i h0 h1
 have hc : ∀ j u, c[j]? = some u → w.cell? (ad.add (i.toNat * 4 + j)) = some u := l
 obtain ⟨a, f, b, g, d, k, rfl, m, g0, o, g1, p, g2⟩ := k25_open hK
 exact ⟨ad, a, f, b, g, d, k, e, hc 0 _ rfl, by rw [← add_field _ _ 1 (by omega)]; exact hc 1 _ rfl, by rw [← add_field _ _ 2 (by omega)]; exact hc 2 _ rfl, by rw [← add_field _ _ 3 (by omega)]; exact hc 3 _ rfl, m, g0, o, g1, p, g2⟩

def Q55 (x : S55) : Prop := (Lit.int .i64 x.f0).wf = true ∧ (x.f1.length * 8 ≤ 140737488351232 ∧ ∀ y ∈ x.f1, (Lit.int .i64 y).wf = true) ∧ (x.f2.length * 8 ≤ 140737488351232 ∧ ∀ y ∈ x.f2, (Lit.int .i64 y).wf = true) ∧ True
def Q25 (x : S25) : Prop := (x.f0.length * 8 ≤ 140737488351232 ∧ ∀ y ∈ x.f0, (Lit.int .i64 y).wf = true) ∧ (x.f1.length * 8 ≤ 140737488351232 ∧ ∀ y ∈ x.f1, (Lit.int .i64 y).wf = true) ∧ (x.f2.length * 64 ≤ 140737488351232 ∧ ∀ y ∈ x.f2, Q55 y) ∧ (Lit.int .i64 x.f3).wf = true
end Go.Proofs.Ytibmehnippjakaa.Print
