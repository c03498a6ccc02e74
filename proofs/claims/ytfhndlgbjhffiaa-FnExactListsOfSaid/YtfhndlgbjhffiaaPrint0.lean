-- Written by a program of this session (prune.py): the words that the kit's print laid for this seat, as far as its texts use them; Lean checks it.
import Derived.Test.YtfhndlgbjhffiaaProg
import Derived.Below
import Derived.Deep.Draws
import Derived.Deep.AppendLies
import Derived.Maps.AppendAt
import Derived.OwnWalk
import Derived.Laws.BytesArg
import Derived.Laws.MakeOwn
import Derived.Laws.OwnMore
import Derived.Deep.OwnRows
import Derived.Tactics
import Derived.Lib.ConvBytes
import Derived.Laws.Slices
import Derived.WalkKit
import Derived.KernelRfl
import Derived.RowKit3
import Derived.Deep.LoopGhost
import Derived.Deep.QuietTactic
import Derived.BigQuiet
import Derived.WideLaws
import Derived.Deep.DeepCutAuto
import Derived.Deep.CutBlock
import Derived.Deep.RegionHeld3
import Derived.Laws.Rows
import Derived.Lib.AppendStr
import Derived.ArgAppend
import Derived.Laws.IdiomCopy
import Derived.OrdersHeld
import Derived.Laws.BitsLemmas
import Derived.RowKit
import Derived.Lib.SliceRun
import Derived.Test.YtfhndlgbjhffiaaShort
import Derived.Test.YtfhndlgbjhffiaaShapes
import Derived.Test.YtfhndlgbjhffiaaWWords
import Derived.Test.YtfhndlgbjhffiaaWLast
import Derived.Test.YtfhndlgbjhffiaaWTab
import Derived.Test.YtfhndlgbjhffiaaWQPut
import Derived.Test.YtfhndlgbjhffiaaWApart
import Derived.Test.YtfhndlgbjhffiaaWArr
import Derived.Test.YtfhndlgbjhffiaaWZeros
import Derived.Test.YtfhndlgbjhffiaaWFoot
import Derived.Test.YtfhndlgbjhffiaaWKept
import Derived.Test.YtfhndlgbjhffiaaWShare
import Derived.Test.YtfhndlgbjhffiaaWN
import Derived.Test.YtfhndlgbjhffiaaWRepsOne
import Derived.Test.YtfhndlgbjhffiaaWGuard
import Derived.Test.YtfhndlgbjhffiaaWNEv
import Derived.Test.YtfhndlgbjhffiaaWMore
namespace Go.Proofs.Ytfhndlgbjhffiaa.Print
open Go.RowKit Go.Proofs.YtfhndlgbjhffiaaW.PrintWords Go.Proofs.YtfhndlgbjhffiaaW.PrintLast Go.Proofs.YtfhndlgbjhffiaaW.PrintMore Go.Proofs.Ytfhndlgbjhffiaa.Short
attribute [local go_sem] max2_int min2_int max_two min_two max_three min_three max_four min_four   -- for this text's walks alone
set_option linter.unusedVariables false
set_option maxHeartbeats 8000000
set_option maxRecDepth 100000
set_option linter.unusedSimpArgs false
def errW : Option Int → Value
 | none => .nilIface
 | some c => .iface 0 (.int .i64 c)
theorem errW_none : errW none = .nilIface := rfl
theorem errW_some (c : Int) : errW (some c) = .iface 0 (.int .i64 c) := rfl
theorem info3 : (Try.prog.info? 3).map (fun i => (i.zero, i.size, i.bytes)) = some (some (.int .i64 0), 1, 8) := by kernel_rfl
theorem info22 : (Try.prog.info? 22).map (fun i => (i.zero, i.size, i.bytes)) = some (some (.slice none 0 0), 1, 24) := by kernel_rfl
theorem info56 : (Try.prog.info? 56).map (fun i => (i.zero, i.size, i.bytes)) = some (some (.agg #[(.slice none 0 0), (.slice none 0 0), (.slice none 0 0), (.int .i64 0)]), 4, 80) := by kernel_rfl
theorem info86 : (Try.prog.info? 86).map (fun i => (i.zero, i.size, i.bytes)) = some (some (.agg #[(.bool false), (.int .i64 0), (.slice none 0 0), (.int .i64 0), (.slice none 0 0)]), 5, 72) := by kernel_rfl
theorem info89 : (Try.prog.info? 89).map (fun i => (i.zero, i.size, i.bytes)) = some (some (.agg #[(.int .i64 0), (.int .i64 0), (.bool false), (.bool false), (.int .i64 0), (.slice none 0 0), (.int .i64 0), (.slice none 0 0)]), 8, 96) := by kernel_rfl
theorem info102 : (Try.prog.info? 102).map (fun i => (i.zero, i.size, i.bytes)) = some (some (.agg #[(.int .i64 0), (.slice none 0 0), (.slice none 0 0), (.bool false)]), 4, 64) := by kernel_rfl
def rd_L1 (xs : List (List Int)) (i : Int) : (List Int) := xs.getD i.toNat ([] : List Int)
theorem at_L1 {w : World} {A : Option Addr} {n : Nat} {xs : List (List Int)} (h : Kd.C (Kd.slice 3 (Kd.int .i64)) w A n xs) (i : Int) (h0 : 0 ≤ i) (h1 : i < n) : ∃ ad a b, A = some ad ∧ w.cell? (ad.add i.toNat) = some (.slice a (rd_L1 xs i).length b) ∧ (rd_L1 xs i).length ≤ b ∧ (Kd.int .i64).C w a (rd_L1 xs i).length (rd_L1 xs i) := by
 obtain ⟨ad, c, e, _, hK, d⟩ := Kd.C_get h ([] : List Int) i h0 h1
 have hc : ∀ j u, c[j]? = some u → w.cell? (ad.add (i.toNat * 1 + j)) = some u := d
 obtain ⟨a, b, rfl, f, g0⟩ := hK
 exact ⟨ad, a, b, e, by have hq := hc 0 _ rfl; rwa [Nat.mul_one, Nat.add_zero] at hq, f, g0⟩
structure S104 where
 f0 : Int
 f1 : (List Int)
 f2 : (List Int)
 f3 : Bool
def z104 : S104 := ⟨(0 : Int), ([] : List Int), ([] : List Int), false⟩
def k104 : Kd S104 := Kd.iso (Kd.pair (Kd.int .i64) (Kd.pair (Kd.slice 3 (Kd.int .i64)) (Kd.pair (Kd.slice 3 (Kd.int .i64)) Kd.bool))) (fun x : S104 => (x.f0, x.f1, x.f2, x.f3))
theorem k104_open {w : World} {x : S104} {cs : List Value} (h : k104.K w x cs) : ∃ a c b d, cs = [.int .i64 x.f0, .slice a x.f1.length c, .slice b x.f2.length d, .bool x.f3] ∧ x.f1.length ≤ c ∧ (Kd.int .i64).C w a x.f1.length x.f1 ∧ x.f2.length ≤ d ∧ (Kd.int .i64).C w b x.f2.length x.f2 := by
 obtain ⟨_, _, rfl, rfl, ⟨_, _, rfl, ⟨a, c, rfl, e, g1⟩, ⟨_, _, rfl, ⟨b, d, rfl, f, g2⟩, rfl⟩⟩⟩ := h
 exact ⟨a, c, b, d, rfl, e, g1, f, g2⟩
def rd_T104 (xs : List S104) (i : Int) : S104 := xs.getD i.toNat z104
theorem at_T104 {w : World} {A : Option Addr} {n : Nat} {xs : List S104} (h : Kd.C k104 w A n xs) (i : Int) (h0 : 0 ≤ i) (h1 : i < n) : ∃ ad a d b f, A = some ad ∧ w.cell? (ad.add (i.toNat * 4)) = some (.int .i64 (rd_T104 xs i).f0) ∧ w.cell? ⟨(ad.add (i.toNat * 4)).block, (ad.add (i.toNat * 4)).off + 1, none⟩ = some (.slice a (rd_T104 xs i).f1.length d) ∧ w.cell? ⟨(ad.add (i.toNat * 4)).block, (ad.add (i.toNat * 4)).off + 2, none⟩ = some (.slice b (rd_T104 xs i).f2.length f) ∧ w.cell? ⟨(ad.add (i.toNat * 4)).block, (ad.add (i.toNat * 4)).off + 3, none⟩ = some (.bool (rd_T104 xs i).f3) ∧ (rd_T104 xs i).f1.length ≤ d ∧ (Kd.int .i64).C w a (rd_T104 xs i).f1.length (rd_T104 xs i).f1 ∧ (rd_T104 xs i).f2.length ≤ f ∧ (Kd.int .i64).C w b (rd_T104 xs i).f2.length (rd_T104 xs i).f2 := by
 obtain ⟨ad, c, e, _, hK, g⟩ := Kd.C_get h z104 i h0 h1
 have hc : ∀ j u, c[j]? = some u → w.cell? (ad.add (i.toNat * 4 + j)) = some u := g
 obtain ⟨a, d, b, f, rfl, k, g1, l, g2⟩ := k104_open hK
 exact ⟨ad, a, d, b, f, e, hc 0 _ rfl, by rw [← add_field _ _ 1 (by omega)]; exact hc 1 _ rfl, by rw [← add_field _ _ 2 (by omega)]; exact hc 2 _ rfl, by rw [← add_field _ _ 3 (by omega)]; exact hc 3 _ rfl, k, g1, l, g2⟩
theorem at_U104 {w : World} {A : Option Addr} {n : Nat} {xs : List S104} (h : Kd.C k104 w A n xs) (i : Int) (h0 : 0 ≤ i) (h1 : i < n) : ∃ ad a c b d, A = some ad ∧ w.cell? (ad.add (i.toNat * 4)) = some (.int .i64 (rd_T104 xs i).f0) ∧ w.cell? ⟨(ad.add (i.toNat * 4)).block, (ad.add (i.toNat * 4)).off + 1, none⟩ = some (.slice a (rd_T104 xs i).f1.length c) ∧ w.cell? ⟨(ad.add (i.toNat * 4)).block, (ad.add (i.toNat * 4)).off + 2, none⟩ = some (.slice b (rd_T104 xs i).f2.length d) ∧ w.cell? ⟨(ad.add (i.toNat * 4)).block, (ad.add (i.toNat * 4)).off + 3, none⟩ = some (.bool (rd_T104 xs i).f3) ∧ Aside0 ((rd_T104 xs i).f1.length ≤ c) ∧ Aside0 ((Kd.int .i64).C w a (rd_T104 xs i).f1.length (rd_T104 xs i).f1) ∧ Aside0 ((rd_T104 xs i).f2.length ≤ d) ∧ Aside0 ((Kd.int .i64).C w b (rd_T104 xs i).f2.length (rd_T104 xs i).f2) := by
 obtain ⟨e0_, e1_, e2_, e3_, e4_, h0_, h1_, h2_, h3_, h4_, h5_, h6_, h7_, h8_⟩ := at_T104 h i h0 h1
 exact ⟨e0_, e1_, e2_, e3_, e4_, h0_, h1_, h2_, h3_, h4_, ⟨h5_⟩, ⟨h6_⟩, ⟨h7_⟩, ⟨h8_⟩⟩
structure S74 where
 f0 : (List Int)
 f1 : (List Int)
 f2 : (List S104)
 f3 : Int
def z74 : S74 := ⟨([] : List Int), ([] : List Int), ([] : List S104), (0 : Int)⟩
def k74 : Kd S74 := Kd.iso (Kd.pair (Kd.slice 3 (Kd.int .i64)) (Kd.pair (Kd.slice 3 (Kd.int .i64)) (Kd.pair (Kd.slice 104 k104) (Kd.int .i64)))) (fun x : S74 => (x.f0, x.f1, x.f2, x.f3))
theorem k74_open {w : World} {x : S74} {cs : List Value} (h : k74.K w x cs) : ∃ a d b e c f, cs = [.slice a x.f0.length d, .slice b x.f1.length e, .slice c x.f2.length f, .int .i64 x.f3] ∧ x.f0.length ≤ d ∧ (Kd.int .i64).C w a x.f0.length x.f0 ∧ x.f1.length ≤ e ∧ (Kd.int .i64).C w b x.f1.length x.f1 ∧ x.f2.length ≤ f ∧ k104.C w c x.f2.length x.f2 := by
 obtain ⟨_, _, rfl, ⟨a, d, rfl, g, g0⟩, ⟨_, _, rfl, ⟨b, e, rfl, i, g1⟩, ⟨_, _, rfl, ⟨c, f, rfl, j, g2⟩, rfl⟩⟩⟩ := h
 exact ⟨a, d, b, e, c, f, rfl, g, g0, i, g1, j, g2⟩
def rd_T74 (xs : List S74) (i : Int) : S74 := xs.getD i.toNat z74
theorem at_T74 {w : World} {A : Option Addr} {n : Nat} {xs : List S74} (h : Kd.C k74 w A n xs) (i : Int) (h0 : 0 ≤ i) (h1 : i < n) : ∃ ad a f b g d k, A = some ad ∧ w.cell? (ad.add (i.toNat * 4)) = some (.slice a (rd_T74 xs i).f0.length f) ∧ w.cell? ⟨(ad.add (i.toNat * 4)).block, (ad.add (i.toNat * 4)).off + 1, none⟩ = some (.slice b (rd_T74 xs i).f1.length g) ∧ w.cell? ⟨(ad.add (i.toNat * 4)).block, (ad.add (i.toNat * 4)).off + 2, none⟩ = some (.slice d (rd_T74 xs i).f2.length k) ∧ w.cell? ⟨(ad.add (i.toNat * 4)).block, (ad.add (i.toNat * 4)).off + 3, none⟩ = some (.int .i64 (rd_T74 xs i).f3) ∧ (rd_T74 xs i).f0.length ≤ f ∧ (Kd.int .i64).C w a (rd_T74 xs i).f0.length (rd_T74 xs i).f0 ∧ (rd_T74 xs i).f1.length ≤ g ∧ (Kd.int .i64).C w b (rd_T74 xs i).f1.length (rd_T74 xs i).f1 ∧ (rd_T74 xs i).f2.length ≤ k ∧ k104.C w d (rd_T74 xs i).f2.length (rd_T74 xs i).f2 := by
 obtain ⟨ad, c, e, _, hK, l⟩ := Kd.C_get h z74 i h0 h1
 have hc : ∀ j u, c[j]? = some u → w.cell? (ad.add (i.toNat * 4 + j)) = some u := l
 obtain ⟨a, f, b, g, d, k, rfl, m, g0, o, g1, p, g2⟩ := k74_open hK
 exact ⟨ad, a, f, b, g, d, k, e, hc 0 _ rfl, by rw [← add_field _ _ 1 (by omega)]; exact hc 1 _ rfl, by rw [← add_field _ _ 2 (by omega)]; exact hc 2 _ rfl, by rw [← add_field _ _ 3 (by omega)]; exact hc 3 _ rfl, m, g0, o, g1, p, g2⟩
theorem at_U74 {w : World} {A : Option Addr} {n : Nat} {xs : List S74} (h : Kd.C k74 w A n xs) (i : Int) (h0 : 0 ≤ i) (h1 : i < n) : ∃ ad a d b e c f, A = some ad ∧ w.cell? (ad.add (i.toNat * 4)) = some (.slice a (rd_T74 xs i).f0.length d) ∧ w.cell? ⟨(ad.add (i.toNat * 4)).block, (ad.add (i.toNat * 4)).off + 1, none⟩ = some (.slice b (rd_T74 xs i).f1.length e) ∧ w.cell? ⟨(ad.add (i.toNat * 4)).block, (ad.add (i.toNat * 4)).off + 2, none⟩ = some (.slice c (rd_T74 xs i).f2.length f) ∧ w.cell? ⟨(ad.add (i.toNat * 4)).block, (ad.add (i.toNat * 4)).off + 3, none⟩ = some (.int .i64 (rd_T74 xs i).f3) ∧ Aside0 ((rd_T74 xs i).f0.length ≤ d) ∧ Aside0 ((Kd.int .i64).C w a (rd_T74 xs i).f0.length (rd_T74 xs i).f0) ∧ Aside0 ((rd_T74 xs i).f1.length ≤ e) ∧ Aside0 ((Kd.int .i64).C w b (rd_T74 xs i).f1.length (rd_T74 xs i).f1) ∧ Aside0 ((rd_T74 xs i).f2.length ≤ f) ∧ Aside0 (k104.C w c (rd_T74 xs i).f2.length (rd_T74 xs i).f2) := by
 obtain ⟨e0_, e1_, e2_, e3_, e4_, e5_, e6_, h0_, h1_, h2_, h3_, h4_, h5_, h6_, h7_, h8_, h9_, h10_⟩ := at_T74 h i h0 h1
 exact ⟨e0_, e1_, e2_, e3_, e4_, e5_, e6_, h0_, h1_, h2_, h3_, h4_, ⟨h5_⟩, ⟨h6_⟩, ⟨h7_⟩, ⟨h8_⟩, ⟨h9_⟩, ⟨h10_⟩⟩
structure S77 where
 f0 : Bool
 f1 : Int
 f2 : (List Int)
def z77 : S77 := ⟨false, (0 : Int), ([] : List Int)⟩
def k77 : Kd S77 := Kd.iso (Kd.pair Kd.bool (Kd.pair (Kd.int .i64) (Kd.slice 3 (Kd.int .i64)))) (fun x : S77 => (x.f0, x.f1, x.f2))
theorem k77_open {w : World} {x : S77} {cs : List Value} (h : k77.K w x cs) : ∃ a b, cs = [.bool x.f0, .int .i64 x.f1, .slice a x.f2.length b] ∧ x.f2.length ≤ b ∧ (Kd.int .i64).C w a x.f2.length x.f2 := by
 obtain ⟨_, _, rfl, rfl, ⟨_, _, rfl, rfl, ⟨a, b, rfl, c, g2⟩⟩⟩ := h
 exact ⟨a, b, rfl, c, g2⟩
structure S79 where
 f0 : S77
 f1 : Int
 f2 : (List Int)
def z79 : S79 := ⟨z77, (0 : Int), ([] : List Int)⟩
def k79 : Kd S79 := Kd.iso (Kd.pair k77 (Kd.pair (Kd.int .i64) (Kd.slice 3 (Kd.int .i64)))) (fun x : S79 => (x.f0, x.f1, x.f2))
theorem k79_open {w : World} {x : S79} {cs : List Value} (h : k79.K w x cs) : ∃ a c b d, cs = [.bool x.f0.f0, .int .i64 x.f0.f1, .slice a x.f0.f2.length c, .int .i64 x.f1, .slice b x.f2.length d] ∧ x.f0.f2.length ≤ c ∧ (Kd.int .i64).C w a x.f0.f2.length x.f0.f2 ∧ x.f2.length ≤ d ∧ (Kd.int .i64).C w b x.f2.length x.f2 := by
 obtain ⟨_, _, rfl, g, ⟨_, _, rfl, rfl, ⟨b, d, rfl, f, g4⟩⟩⟩ := h
 obtain ⟨a, c, rfl, e, g2⟩ := k77_open g
 exact ⟨a, c, b, d, rfl, e, g2, f, g4⟩
def rd_T79 (xs : List S79) (i : Int) : S79 := xs.getD i.toNat z79
theorem at_T79 {w : World} {A : Option Addr} {n : Nat} {xs : List S79} (h : Kd.C k79 w A n xs) (i : Int) (h0 : 0 ≤ i) (h1 : i < n) : ∃ ad a d b f, A = some ad ∧ w.cell? (ad.add (i.toNat * 5)) = some (.bool (rd_T79 xs i).f0.f0) ∧ w.cell? ⟨(ad.add (i.toNat * 5)).block, (ad.add (i.toNat * 5)).off + 1, none⟩ = some (.int .i64 (rd_T79 xs i).f0.f1) ∧ w.cell? ⟨(ad.add (i.toNat * 5)).block, (ad.add (i.toNat * 5)).off + 2, none⟩ = some (.slice a (rd_T79 xs i).f0.f2.length d) ∧ w.cell? ⟨(ad.add (i.toNat * 5)).block, (ad.add (i.toNat * 5)).off + 3, none⟩ = some (.int .i64 (rd_T79 xs i).f1) ∧ w.cell? ⟨(ad.add (i.toNat * 5)).block, (ad.add (i.toNat * 5)).off + 4, none⟩ = some (.slice b (rd_T79 xs i).f2.length f) ∧ (rd_T79 xs i).f0.f2.length ≤ d ∧ (Kd.int .i64).C w a (rd_T79 xs i).f0.f2.length (rd_T79 xs i).f0.f2 ∧ (rd_T79 xs i).f2.length ≤ f ∧ (Kd.int .i64).C w b (rd_T79 xs i).f2.length (rd_T79 xs i).f2 := by
 obtain ⟨ad, c, e, _, hK, g⟩ := Kd.C_get h z79 i h0 h1
 have hc : ∀ j u, c[j]? = some u → w.cell? (ad.add (i.toNat * 5 + j)) = some u := g
 obtain ⟨a, d, b, f, rfl, k, g2, l, g4⟩ := k79_open hK
 exact ⟨ad, a, d, b, f, e, hc 0 _ rfl, by rw [← add_field _ _ 1 (by omega)]; exact hc 1 _ rfl, by rw [← add_field _ _ 2 (by omega)]; exact hc 2 _ rfl, by rw [← add_field _ _ 3 (by omega)]; exact hc 3 _ rfl, by rw [← add_field _ _ 4 (by omega)]; exact hc 4 _ rfl, k, g2, l, g4⟩
theorem at_U79 {w : World} {A : Option Addr} {n : Nat} {xs : List S79} (h : Kd.C k79 w A n xs) (i : Int) (h0 : 0 ≤ i) (h1 : i < n) : ∃ ad a c b d, A = some ad ∧ w.cell? (ad.add (i.toNat * 5)) = some (.bool (rd_T79 xs i).f0.f0) ∧ w.cell? ⟨(ad.add (i.toNat * 5)).block, (ad.add (i.toNat * 5)).off + 1, none⟩ = some (.int .i64 (rd_T79 xs i).f0.f1) ∧ w.cell? ⟨(ad.add (i.toNat * 5)).block, (ad.add (i.toNat * 5)).off + 2, none⟩ = some (.slice a (rd_T79 xs i).f0.f2.length c) ∧ w.cell? ⟨(ad.add (i.toNat * 5)).block, (ad.add (i.toNat * 5)).off + 3, none⟩ = some (.int .i64 (rd_T79 xs i).f1) ∧ w.cell? ⟨(ad.add (i.toNat * 5)).block, (ad.add (i.toNat * 5)).off + 4, none⟩ = some (.slice b (rd_T79 xs i).f2.length d) ∧ Aside0 ((rd_T79 xs i).f0.f2.length ≤ c) ∧ Aside0 ((Kd.int .i64).C w a (rd_T79 xs i).f0.f2.length (rd_T79 xs i).f0.f2) ∧ Aside0 ((rd_T79 xs i).f2.length ≤ d) ∧ Aside0 ((Kd.int .i64).C w b (rd_T79 xs i).f2.length (rd_T79 xs i).f2) := by
 obtain ⟨e0_, e1_, e2_, e3_, e4_, h0_, h1_, h2_, h3_, h4_, h5_, h6_, h7_, h8_, h9_⟩ := at_T79 h i h0 h1
 exact ⟨e0_, e1_, e2_, e3_, e4_, h0_, h1_, h2_, h3_, h4_, h5_, ⟨h6_⟩, ⟨h7_⟩, ⟨h8_⟩, ⟨h9_⟩⟩
structure S82 where
 f0 : Int
 f1 : Int
 f2 : Bool
 f3 : S79
def z82 : S82 := ⟨(0 : Int), (0 : Int), false, z79⟩
def k82 : Kd S82 := Kd.iso (Kd.pair (Kd.int .i64) (Kd.pair (Kd.int .i64) (Kd.pair Kd.bool k79))) (fun x : S82 => (x.f0, x.f1, x.f2, x.f3))
theorem k82_open {w : World} {x : S82} {cs : List Value} (h : k82.K w x cs) : ∃ a c b d, cs = [.int .i64 x.f0, .int .i64 x.f1, .bool x.f2, .bool x.f3.f0.f0, .int .i64 x.f3.f0.f1, .slice a x.f3.f0.f2.length c, .int .i64 x.f3.f1, .slice b x.f3.f2.length d] ∧ x.f3.f0.f2.length ≤ c ∧ (Kd.int .i64).C w a x.f3.f0.f2.length x.f3.f0.f2 ∧ x.f3.f2.length ≤ d ∧ (Kd.int .i64).C w b x.f3.f2.length x.f3.f2 := by
 obtain ⟨_, _, rfl, rfl, ⟨_, _, rfl, rfl, ⟨_, _, rfl, rfl, g⟩⟩⟩ := h
 obtain ⟨a, c, b, d, rfl, e, g5, f, g7⟩ := k79_open g
 exact ⟨a, c, b, d, rfl, e, g5, f, g7⟩
def rd_T82 (xs : List S82) (i : Int) : S82 := xs.getD i.toNat z82
theorem at_T82 {w : World} {A : Option Addr} {n : Nat} {xs : List S82} (h : Kd.C k82 w A n xs) (i : Int) (h0 : 0 ≤ i) (h1 : i < n) : ∃ ad a d b f, A = some ad ∧ w.cell? (ad.add (i.toNat * 8)) = some (.int .i64 (rd_T82 xs i).f0) ∧ w.cell? ⟨(ad.add (i.toNat * 8)).block, (ad.add (i.toNat * 8)).off + 1, none⟩ = some (.int .i64 (rd_T82 xs i).f1) ∧ w.cell? ⟨(ad.add (i.toNat * 8)).block, (ad.add (i.toNat * 8)).off + 2, none⟩ = some (.bool (rd_T82 xs i).f2) ∧ w.cell? ⟨(ad.add (i.toNat * 8)).block, (ad.add (i.toNat * 8)).off + 3, none⟩ = some (.bool (rd_T82 xs i).f3.f0.f0) ∧ w.cell? ⟨(ad.add (i.toNat * 8)).block, (ad.add (i.toNat * 8)).off + 4, none⟩ = some (.int .i64 (rd_T82 xs i).f3.f0.f1) ∧ w.cell? ⟨(ad.add (i.toNat * 8)).block, (ad.add (i.toNat * 8)).off + 5, none⟩ = some (.slice a (rd_T82 xs i).f3.f0.f2.length d) ∧ w.cell? ⟨(ad.add (i.toNat * 8)).block, (ad.add (i.toNat * 8)).off + 6, none⟩ = some (.int .i64 (rd_T82 xs i).f3.f1) ∧ w.cell? ⟨(ad.add (i.toNat * 8)).block, (ad.add (i.toNat * 8)).off + 7, none⟩ = some (.slice b (rd_T82 xs i).f3.f2.length f) ∧ (rd_T82 xs i).f3.f0.f2.length ≤ d ∧ (Kd.int .i64).C w a (rd_T82 xs i).f3.f0.f2.length (rd_T82 xs i).f3.f0.f2 ∧ (rd_T82 xs i).f3.f2.length ≤ f ∧ (Kd.int .i64).C w b (rd_T82 xs i).f3.f2.length (rd_T82 xs i).f3.f2 := by
 obtain ⟨ad, c, e, _, hK, g⟩ := Kd.C_get h z82 i h0 h1
 have hc : ∀ j u, c[j]? = some u → w.cell? (ad.add (i.toNat * 8 + j)) = some u := g
 obtain ⟨a, d, b, f, rfl, k, g5, l, g7⟩ := k82_open hK
 exact ⟨ad, a, d, b, f, e, hc 0 _ rfl, by rw [← add_field _ _ 1 (by omega)]; exact hc 1 _ rfl, by rw [← add_field _ _ 2 (by omega)]; exact hc 2 _ rfl, by rw [← add_field _ _ 3 (by omega)]; exact hc 3 _ rfl, by rw [← add_field _ _ 4 (by omega)]; exact hc 4 _ rfl, by rw [← add_field _ _ 5 (by omega)]; exact hc 5 _ rfl, by rw [← add_field _ _ 6 (by omega)]; exact hc 6 _ rfl, by rw [← add_field _ _ 7 (by omega)]; exact hc 7 _ rfl, k, g5, l, g7⟩
theorem at_U82 {w : World} {A : Option Addr} {n : Nat} {xs : List S82} (h : Kd.C k82 w A n xs) (i : Int) (h0 : 0 ≤ i) (h1 : i < n) : ∃ ad a c b d, A = some ad ∧ w.cell? (ad.add (i.toNat * 8)) = some (.int .i64 (rd_T82 xs i).f0) ∧ w.cell? ⟨(ad.add (i.toNat * 8)).block, (ad.add (i.toNat * 8)).off + 1, none⟩ = some (.int .i64 (rd_T82 xs i).f1) ∧ w.cell? ⟨(ad.add (i.toNat * 8)).block, (ad.add (i.toNat * 8)).off + 2, none⟩ = some (.bool (rd_T82 xs i).f2) ∧ w.cell? ⟨(ad.add (i.toNat * 8)).block, (ad.add (i.toNat * 8)).off + 3, none⟩ = some (.bool (rd_T82 xs i).f3.f0.f0) ∧ w.cell? ⟨(ad.add (i.toNat * 8)).block, (ad.add (i.toNat * 8)).off + 4, none⟩ = some (.int .i64 (rd_T82 xs i).f3.f0.f1) ∧ w.cell? ⟨(ad.add (i.toNat * 8)).block, (ad.add (i.toNat * 8)).off + 5, none⟩ = some (.slice a (rd_T82 xs i).f3.f0.f2.length c) ∧ w.cell? ⟨(ad.add (i.toNat * 8)).block, (ad.add (i.toNat * 8)).off + 6, none⟩ = some (.int .i64 (rd_T82 xs i).f3.f1) ∧ w.cell? ⟨(ad.add (i.toNat * 8)).block, (ad.add (i.toNat * 8)).off + 7, none⟩ = some (.slice b (rd_T82 xs i).f3.f2.length d) ∧ Aside0 ((rd_T82 xs i).f3.f0.f2.length ≤ c) ∧ Aside0 ((Kd.int .i64).C w a (rd_T82 xs i).f3.f0.f2.length (rd_T82 xs i).f3.f0.f2) ∧ Aside0 ((rd_T82 xs i).f3.f2.length ≤ d) ∧ Aside0 ((Kd.int .i64).C w b (rd_T82 xs i).f3.f2.length (rd_T82 xs i).f3.f2) := by
 obtain ⟨e0_, e1_, e2_, e3_, e4_, h0_, h1_, h2_, h3_, h4_, h5_, h6_, h7_, h8_, h9_, h10_, h11_, h12_⟩ := at_T82 h i h0 h1
 exact ⟨e0_, e1_, e2_, e3_, e4_, h0_, h1_, h2_, h3_, h4_, h5_, h6_, h7_, h8_, ⟨h9_⟩, ⟨h10_⟩, ⟨h11_⟩, ⟨h12_⟩⟩
structure S102 where
 f0 : Int
 f1 : (List Int)
 f2 : (List Int)
 f3 : Bool
def z102 : S102 := ⟨(0 : Int), ([] : List Int), ([] : List Int), false⟩
def k102 : Kd S102 := Kd.iso (Kd.pair (Kd.int .i64) (Kd.pair (Kd.slice 3 (Kd.int .i64)) (Kd.pair (Kd.slice 3 (Kd.int .i64)) Kd.bool))) (fun x : S102 => (x.f0, x.f1, x.f2, x.f3))
theorem k102_open {w : World} {x : S102} {cs : List Value} (h : k102.K w x cs) : ∃ a c b d, cs = [.int .i64 x.f0, .slice a x.f1.length c, .slice b x.f2.length d, .bool x.f3] ∧ x.f1.length ≤ c ∧ (Kd.int .i64).C w a x.f1.length x.f1 ∧ x.f2.length ≤ d ∧ (Kd.int .i64).C w b x.f2.length x.f2 := by
 obtain ⟨_, _, rfl, rfl, ⟨_, _, rfl, ⟨a, c, rfl, e, g1⟩, ⟨_, _, rfl, ⟨b, d, rfl, f, g2⟩, rfl⟩⟩⟩ := h
 exact ⟨a, c, b, d, rfl, e, g1, f, g2⟩
theorem k102_openM {w : World} {base : Nat} {ok : Nat → Prop} {x : S102} {cs : List Value} (h : k102.M w base ok x cs) : ∃ a b, cs = [.int .i64 x.f0, a, b, .bool x.f3] ∧ (Kd.int .i64).R 3 w base ok a x.f1 ∧ (Kd.int .i64).R 3 w base ok b x.f2 := by
 obtain ⟨_, _, rfl, rfl, ⟨_, _, rfl, ⟨a, rfl, g1⟩, ⟨_, _, rfl, ⟨b, rfl, g2⟩, rfl⟩⟩⟩ := h
 exact ⟨a, b, rfl, g1, g2⟩
theorem k102_mkM (w : World) (base : Nat) (ok : Nat → Prop) (x : S102) {b : Value} (g1 : (Kd.int .i64).R 3 w base ok b x.f1) {a : Value} (g2 : (Kd.int .i64).R 3 w base ok a x.f2) : k102.M w base ok x [.int .i64 x.f0, b, a, .bool x.f3] := ⟨[.int .i64 x.f0], [b, a, .bool x.f3], rfl, rfl, ⟨[b], [a, .bool x.f3], rfl, ⟨b, rfl, g1⟩, ⟨[a], [.bool x.f3], rfl, ⟨a, rfl, g2⟩, rfl⟩⟩⟩
def rd_T102 (xs : List S102) (i : Int) : S102 := xs.getD i.toNat z102
theorem at_T102 {w : World} {A : Option Addr} {n : Nat} {xs : List S102} (h : Kd.C k102 w A n xs) (i : Int) (h0 : 0 ≤ i) (h1 : i < n) : ∃ ad a d b f, A = some ad ∧ w.cell? (ad.add (i.toNat * 4)) = some (.int .i64 (rd_T102 xs i).f0) ∧ w.cell? ⟨(ad.add (i.toNat * 4)).block, (ad.add (i.toNat * 4)).off + 1, none⟩ = some (.slice a (rd_T102 xs i).f1.length d) ∧ w.cell? ⟨(ad.add (i.toNat * 4)).block, (ad.add (i.toNat * 4)).off + 2, none⟩ = some (.slice b (rd_T102 xs i).f2.length f) ∧ w.cell? ⟨(ad.add (i.toNat * 4)).block, (ad.add (i.toNat * 4)).off + 3, none⟩ = some (.bool (rd_T102 xs i).f3) ∧ (rd_T102 xs i).f1.length ≤ d ∧ (Kd.int .i64).C w a (rd_T102 xs i).f1.length (rd_T102 xs i).f1 ∧ (rd_T102 xs i).f2.length ≤ f ∧ (Kd.int .i64).C w b (rd_T102 xs i).f2.length (rd_T102 xs i).f2 := by
 obtain ⟨ad, c, e, _, hK, g⟩ := Kd.C_get h z102 i h0 h1
 have hc : ∀ j u, c[j]? = some u → w.cell? (ad.add (i.toNat * 4 + j)) = some u := g
 obtain ⟨a, d, b, f, rfl, k, g1, l, g2⟩ := k102_open hK
 exact ⟨ad, a, d, b, f, e, hc 0 _ rfl, by rw [← add_field _ _ 1 (by omega)]; exact hc 1 _ rfl, by rw [← add_field _ _ 2 (by omega)]; exact hc 2 _ rfl, by rw [← add_field _ _ 3 (by omega)]; exact hc 3 _ rfl, k, g1, l, g2⟩
theorem at_U102 {w : World} {A : Option Addr} {n : Nat} {xs : List S102} (h : Kd.C k102 w A n xs) (i : Int) (h0 : 0 ≤ i) (h1 : i < n) : ∃ ad a c b d, A = some ad ∧ w.cell? (ad.add (i.toNat * 4)) = some (.int .i64 (rd_T102 xs i).f0) ∧ w.cell? ⟨(ad.add (i.toNat * 4)).block, (ad.add (i.toNat * 4)).off + 1, none⟩ = some (.slice a (rd_T102 xs i).f1.length c) ∧ w.cell? ⟨(ad.add (i.toNat * 4)).block, (ad.add (i.toNat * 4)).off + 2, none⟩ = some (.slice b (rd_T102 xs i).f2.length d) ∧ w.cell? ⟨(ad.add (i.toNat * 4)).block, (ad.add (i.toNat * 4)).off + 3, none⟩ = some (.bool (rd_T102 xs i).f3) ∧ Aside0 ((rd_T102 xs i).f1.length ≤ c) ∧ Aside0 ((Kd.int .i64).C w a (rd_T102 xs i).f1.length (rd_T102 xs i).f1) ∧ Aside0 ((rd_T102 xs i).f2.length ≤ d) ∧ Aside0 ((Kd.int .i64).C w b (rd_T102 xs i).f2.length (rd_T102 xs i).f2) := by
 obtain ⟨e0_, e1_, e2_, e3_, e4_, h0_, h1_, h2_, h3_, h4_, h5_, h6_, h7_, h8_⟩ := at_T102 h i h0 h1
 exact ⟨e0_, e1_, e2_, e3_, e4_, h0_, h1_, h2_, h3_, h4_, ⟨h5_⟩, ⟨h6_⟩, ⟨h7_⟩, ⟨h8_⟩⟩
structure S56 where
 f0 : (List Int)
 f1 : (List Int)
 f2 : (List S102)
 f3 : Int
def z56 : S56 := ⟨([] : List Int), ([] : List Int), ([] : List S102), (0 : Int)⟩
def k56 : Kd S56 := Kd.iso (Kd.pair (Kd.slice 3 (Kd.int .i64)) (Kd.pair (Kd.slice 3 (Kd.int .i64)) (Kd.pair (Kd.slice 102 k102) (Kd.int .i64)))) (fun x : S56 => (x.f0, x.f1, x.f2, x.f3))
theorem k56_open {w : World} {x : S56} {cs : List Value} (h : k56.K w x cs) : ∃ a d b e c f, cs = [.slice a x.f0.length d, .slice b x.f1.length e, .slice c x.f2.length f, .int .i64 x.f3] ∧ x.f0.length ≤ d ∧ (Kd.int .i64).C w a x.f0.length x.f0 ∧ x.f1.length ≤ e ∧ (Kd.int .i64).C w b x.f1.length x.f1 ∧ x.f2.length ≤ f ∧ k102.C w c x.f2.length x.f2 := by
 obtain ⟨_, _, rfl, ⟨a, d, rfl, g, g0⟩, ⟨_, _, rfl, ⟨b, e, rfl, i, g1⟩, ⟨_, _, rfl, ⟨c, f, rfl, j, g2⟩, rfl⟩⟩⟩ := h
 exact ⟨a, d, b, e, c, f, rfl, g, g0, i, g1, j, g2⟩
theorem k56_openM {w : World} {base : Nat} {ok : Nat → Prop} {x : S56} {cs : List Value} (h : k56.M w base ok x cs) : ∃ a b c, cs = [a, b, c, .int .i64 x.f3] ∧ (Kd.int .i64).R 3 w base ok a x.f0 ∧ (Kd.int .i64).R 3 w base ok b x.f1 ∧ k102.R 102 w base ok c x.f2 := by
 obtain ⟨_, _, rfl, ⟨a, rfl, g0⟩, ⟨_, _, rfl, ⟨b, rfl, g1⟩, ⟨_, _, rfl, ⟨c, rfl, g2⟩, rfl⟩⟩⟩ := h
 exact ⟨a, b, c, rfl, g0, g1, g2⟩
theorem k56_mkM (w : World) (base : Nat) (ok : Nat → Prop) (x : S56) {c : Value} (g0 : (Kd.int .i64).R 3 w base ok c x.f0) {b : Value} (g1 : (Kd.int .i64).R 3 w base ok b x.f1) {a : Value} (g2 : k102.R 102 w base ok a x.f2) : k56.M w base ok x [c, b, a, .int .i64 x.f3] := ⟨[c], [b, a, .int .i64 x.f3], rfl, ⟨c, rfl, g0⟩, ⟨[b], [a, .int .i64 x.f3], rfl, ⟨b, rfl, g1⟩, ⟨[a], [.int .i64 x.f3], rfl, ⟨a, rfl, g2⟩, rfl⟩⟩⟩
def rd_T56 (xs : List S56) (i : Int) : S56 := xs.getD i.toNat z56
theorem at_T56 {w : World} {A : Option Addr} {n : Nat} {xs : List S56} (h : Kd.C k56 w A n xs) (i : Int) (h0 : 0 ≤ i) (h1 : i < n) : ∃ ad a f b g d k, A = some ad ∧ w.cell? (ad.add (i.toNat * 4)) = some (.slice a (rd_T56 xs i).f0.length f) ∧ w.cell? ⟨(ad.add (i.toNat * 4)).block, (ad.add (i.toNat * 4)).off + 1, none⟩ = some (.slice b (rd_T56 xs i).f1.length g) ∧ w.cell? ⟨(ad.add (i.toNat * 4)).block, (ad.add (i.toNat * 4)).off + 2, none⟩ = some (.slice d (rd_T56 xs i).f2.length k) ∧ w.cell? ⟨(ad.add (i.toNat * 4)).block, (ad.add (i.toNat * 4)).off + 3, none⟩ = some (.int .i64 (rd_T56 xs i).f3) ∧ (rd_T56 xs i).f0.length ≤ f ∧ (Kd.int .i64).C w a (rd_T56 xs i).f0.length (rd_T56 xs i).f0 ∧ (rd_T56 xs i).f1.length ≤ g ∧ (Kd.int .i64).C w b (rd_T56 xs i).f1.length (rd_T56 xs i).f1 ∧ (rd_T56 xs i).f2.length ≤ k ∧ k102.C w d (rd_T56 xs i).f2.length (rd_T56 xs i).f2 := by
 obtain ⟨ad, c, e, _, hK, l⟩ := Kd.C_get h z56 i h0 h1
 have hc : ∀ j u, c[j]? = some u → w.cell? (ad.add (i.toNat * 4 + j)) = some u := l
 obtain ⟨a, f, b, g, d, k, rfl, m, g0, o, g1, p, g2⟩ := k56_open hK
 exact ⟨ad, a, f, b, g, d, k, e, hc 0 _ rfl, by rw [← add_field _ _ 1 (by omega)]; exact hc 1 _ rfl, by rw [← add_field _ _ 2 (by omega)]; exact hc 2 _ rfl, by rw [← add_field _ _ 3 (by omega)]; exact hc 3 _ rfl, m, g0, o, g1, p, g2⟩
theorem at_U56 {w : World} {A : Option Addr} {n : Nat} {xs : List S56} (h : Kd.C k56 w A n xs) (i : Int) (h0 : 0 ≤ i) (h1 : i < n) : ∃ ad a d b e c f, A = some ad ∧ w.cell? (ad.add (i.toNat * 4)) = some (.slice a (rd_T56 xs i).f0.length d) ∧ w.cell? ⟨(ad.add (i.toNat * 4)).block, (ad.add (i.toNat * 4)).off + 1, none⟩ = some (.slice b (rd_T56 xs i).f1.length e) ∧ w.cell? ⟨(ad.add (i.toNat * 4)).block, (ad.add (i.toNat * 4)).off + 2, none⟩ = some (.slice c (rd_T56 xs i).f2.length f) ∧ w.cell? ⟨(ad.add (i.toNat * 4)).block, (ad.add (i.toNat * 4)).off + 3, none⟩ = some (.int .i64 (rd_T56 xs i).f3) ∧ Aside0 ((rd_T56 xs i).f0.length ≤ d) ∧ Aside0 ((Kd.int .i64).C w a (rd_T56 xs i).f0.length (rd_T56 xs i).f0) ∧ Aside0 ((rd_T56 xs i).f1.length ≤ e) ∧ Aside0 ((Kd.int .i64).C w b (rd_T56 xs i).f1.length (rd_T56 xs i).f1) ∧ Aside0 ((rd_T56 xs i).f2.length ≤ f) ∧ Aside0 (k102.C w c (rd_T56 xs i).f2.length (rd_T56 xs i).f2) := by
 obtain ⟨e0_, e1_, e2_, e3_, e4_, e5_, e6_, h0_, h1_, h2_, h3_, h4_, h5_, h6_, h7_, h8_, h9_, h10_⟩ := at_T56 h i h0 h1
 exact ⟨e0_, e1_, e2_, e3_, e4_, e5_, e6_, h0_, h1_, h2_, h3_, h4_, ⟨h5_⟩, ⟨h6_⟩, ⟨h7_⟩, ⟨h8_⟩, ⟨h9_⟩, ⟨h10_⟩⟩
structure S84 where
 f0 : Bool
 f1 : Int
 f2 : (List Int)
def z84 : S84 := ⟨false, (0 : Int), ([] : List Int)⟩
def k84 : Kd S84 := Kd.iso (Kd.pair Kd.bool (Kd.pair (Kd.int .i64) (Kd.slice 3 (Kd.int .i64)))) (fun x : S84 => (x.f0, x.f1, x.f2))
theorem k84_open {w : World} {x : S84} {cs : List Value} (h : k84.K w x cs) : ∃ a b, cs = [.bool x.f0, .int .i64 x.f1, .slice a x.f2.length b] ∧ x.f2.length ≤ b ∧ (Kd.int .i64).C w a x.f2.length x.f2 := by
 obtain ⟨_, _, rfl, rfl, ⟨_, _, rfl, rfl, ⟨a, b, rfl, c, g2⟩⟩⟩ := h
 exact ⟨a, b, rfl, c, g2⟩
theorem k84_openM {w : World} {base : Nat} {ok : Nat → Prop} {x : S84} {cs : List Value} (h : k84.M w base ok x cs) : ∃ a, cs = [.bool x.f0, .int .i64 x.f1, a] ∧ (Kd.int .i64).R 3 w base ok a x.f2 := by
 obtain ⟨_, _, rfl, rfl, ⟨_, _, rfl, rfl, ⟨a, rfl, g2⟩⟩⟩ := h
 exact ⟨a, rfl, g2⟩
theorem k84_mkM (w : World) (base : Nat) (ok : Nat → Prop) (x : S84) {a : Value} (g2 : (Kd.int .i64).R 3 w base ok a x.f2) : k84.M w base ok x [.bool x.f0, .int .i64 x.f1, a] := ⟨[.bool x.f0], [.int .i64 x.f1, a], rfl, rfl, ⟨[.int .i64 x.f1], [a], rfl, rfl, ⟨a, rfl, g2⟩⟩⟩
structure S86 where
 f0 : S84
 f1 : Int
 f2 : (List Int)
def z86 : S86 := ⟨z84, (0 : Int), ([] : List Int)⟩
def k86 : Kd S86 := Kd.iso (Kd.pair k84 (Kd.pair (Kd.int .i64) (Kd.slice 3 (Kd.int .i64)))) (fun x : S86 => (x.f0, x.f1, x.f2))
theorem k86_open {w : World} {x : S86} {cs : List Value} (h : k86.K w x cs) : ∃ a c b d, cs = [.bool x.f0.f0, .int .i64 x.f0.f1, .slice a x.f0.f2.length c, .int .i64 x.f1, .slice b x.f2.length d] ∧ x.f0.f2.length ≤ c ∧ (Kd.int .i64).C w a x.f0.f2.length x.f0.f2 ∧ x.f2.length ≤ d ∧ (Kd.int .i64).C w b x.f2.length x.f2 := by
 obtain ⟨_, _, rfl, g, ⟨_, _, rfl, rfl, ⟨b, d, rfl, f, g4⟩⟩⟩ := h
 obtain ⟨a, c, rfl, e, g2⟩ := k84_open g
 exact ⟨a, c, b, d, rfl, e, g2, f, g4⟩
theorem k86_openM {w : World} {base : Nat} {ok : Nat → Prop} {x : S86} {cs : List Value} (h : k86.M w base ok x cs) : ∃ a b, cs = [.bool x.f0.f0, .int .i64 x.f0.f1, a, .int .i64 x.f1, b] ∧ (Kd.int .i64).R 3 w base ok a x.f0.f2 ∧ (Kd.int .i64).R 3 w base ok b x.f2 := by
 obtain ⟨_, _, rfl, c, ⟨_, _, rfl, rfl, ⟨b, rfl, g4⟩⟩⟩ := h
 obtain ⟨a, rfl, g2⟩ := k84_openM c
 exact ⟨a, b, rfl, g2, g4⟩
theorem k86_mkM (w : World) (base : Nat) (ok : Nat → Prop) (x : S86) {b : Value} (g2 : (Kd.int .i64).R 3 w base ok b x.f0.f2) {a : Value} (g4 : (Kd.int .i64).R 3 w base ok a x.f2) : k86.M w base ok x [.bool x.f0.f0, .int .i64 x.f0.f1, b, .int .i64 x.f1, a] := ⟨[.bool x.f0.f0, .int .i64 x.f0.f1, b], [.int .i64 x.f1, a], rfl, (k84_mkM w base ok x.f0 g2), ⟨[.int .i64 x.f1], [a], rfl, rfl, ⟨a, rfl, g4⟩⟩⟩
def rd_T86 (xs : List S86) (i : Int) : S86 := xs.getD i.toNat z86
theorem at_T86 {w : World} {A : Option Addr} {n : Nat} {xs : List S86} (h : Kd.C k86 w A n xs) (i : Int) (h0 : 0 ≤ i) (h1 : i < n) : ∃ ad a d b f, A = some ad ∧ w.cell? (ad.add (i.toNat * 5)) = some (.bool (rd_T86 xs i).f0.f0) ∧ w.cell? ⟨(ad.add (i.toNat * 5)).block, (ad.add (i.toNat * 5)).off + 1, none⟩ = some (.int .i64 (rd_T86 xs i).f0.f1) ∧ w.cell? ⟨(ad.add (i.toNat * 5)).block, (ad.add (i.toNat * 5)).off + 2, none⟩ = some (.slice a (rd_T86 xs i).f0.f2.length d) ∧ w.cell? ⟨(ad.add (i.toNat * 5)).block, (ad.add (i.toNat * 5)).off + 3, none⟩ = some (.int .i64 (rd_T86 xs i).f1) ∧ w.cell? ⟨(ad.add (i.toNat * 5)).block, (ad.add (i.toNat * 5)).off + 4, none⟩ = some (.slice b (rd_T86 xs i).f2.length f) ∧ (rd_T86 xs i).f0.f2.length ≤ d ∧ (Kd.int .i64).C w a (rd_T86 xs i).f0.f2.length (rd_T86 xs i).f0.f2 ∧ (rd_T86 xs i).f2.length ≤ f ∧ (Kd.int .i64).C w b (rd_T86 xs i).f2.length (rd_T86 xs i).f2 := by
 obtain ⟨ad, c, e, _, hK, g⟩ := Kd.C_get h z86 i h0 h1
 have hc : ∀ j u, c[j]? = some u → w.cell? (ad.add (i.toNat * 5 + j)) = some u := g
 obtain ⟨a, d, b, f, rfl, k, g2, l, g4⟩ := k86_open hK
 exact ⟨ad, a, d, b, f, e, hc 0 _ rfl, by rw [← add_field _ _ 1 (by omega)]; exact hc 1 _ rfl, by rw [← add_field _ _ 2 (by omega)]; exact hc 2 _ rfl, by rw [← add_field _ _ 3 (by omega)]; exact hc 3 _ rfl, by rw [← add_field _ _ 4 (by omega)]; exact hc 4 _ rfl, k, g2, l, g4⟩
theorem at_U86 {w : World} {A : Option Addr} {n : Nat} {xs : List S86} (h : Kd.C k86 w A n xs) (i : Int) (h0 : 0 ≤ i) (h1 : i < n) : ∃ ad a c b d, A = some ad ∧ w.cell? (ad.add (i.toNat * 5)) = some (.bool (rd_T86 xs i).f0.f0) ∧ w.cell? ⟨(ad.add (i.toNat * 5)).block, (ad.add (i.toNat * 5)).off + 1, none⟩ = some (.int .i64 (rd_T86 xs i).f0.f1) ∧ w.cell? ⟨(ad.add (i.toNat * 5)).block, (ad.add (i.toNat * 5)).off + 2, none⟩ = some (.slice a (rd_T86 xs i).f0.f2.length c) ∧ w.cell? ⟨(ad.add (i.toNat * 5)).block, (ad.add (i.toNat * 5)).off + 3, none⟩ = some (.int .i64 (rd_T86 xs i).f1) ∧ w.cell? ⟨(ad.add (i.toNat * 5)).block, (ad.add (i.toNat * 5)).off + 4, none⟩ = some (.slice b (rd_T86 xs i).f2.length d) ∧ Aside0 ((rd_T86 xs i).f0.f2.length ≤ c) ∧ Aside0 ((Kd.int .i64).C w a (rd_T86 xs i).f0.f2.length (rd_T86 xs i).f0.f2) ∧ Aside0 ((rd_T86 xs i).f2.length ≤ d) ∧ Aside0 ((Kd.int .i64).C w b (rd_T86 xs i).f2.length (rd_T86 xs i).f2) := by
 obtain ⟨e0_, e1_, e2_, e3_, e4_, h0_, h1_, h2_, h3_, h4_, h5_, h6_, h7_, h8_, h9_⟩ := at_T86 h i h0 h1
 exact ⟨e0_, e1_, e2_, e3_, e4_, h0_, h1_, h2_, h3_, h4_, h5_, ⟨h6_⟩, ⟨h7_⟩, ⟨h8_⟩, ⟨h9_⟩⟩
structure S89 where
 f0 : Int
 f1 : Int
 f2 : Bool
 f3 : S86
def z89 : S89 := ⟨(0 : Int), (0 : Int), false, z86⟩
def k89 : Kd S89 := Kd.iso (Kd.pair (Kd.int .i64) (Kd.pair (Kd.int .i64) (Kd.pair Kd.bool k86))) (fun x : S89 => (x.f0, x.f1, x.f2, x.f3))
theorem k89_open {w : World} {x : S89} {cs : List Value} (h : k89.K w x cs) : ∃ a c b d, cs = [.int .i64 x.f0, .int .i64 x.f1, .bool x.f2, .bool x.f3.f0.f0, .int .i64 x.f3.f0.f1, .slice a x.f3.f0.f2.length c, .int .i64 x.f3.f1, .slice b x.f3.f2.length d] ∧ x.f3.f0.f2.length ≤ c ∧ (Kd.int .i64).C w a x.f3.f0.f2.length x.f3.f0.f2 ∧ x.f3.f2.length ≤ d ∧ (Kd.int .i64).C w b x.f3.f2.length x.f3.f2 := by
 obtain ⟨_, _, rfl, rfl, ⟨_, _, rfl, rfl, ⟨_, _, rfl, rfl, g⟩⟩⟩ := h
 obtain ⟨a, c, b, d, rfl, e, g5, f, g7⟩ := k86_open g
 exact ⟨a, c, b, d, rfl, e, g5, f, g7⟩
theorem k89_openM {w : World} {base : Nat} {ok : Nat → Prop} {x : S89} {cs : List Value} (h : k89.M w base ok x cs) : ∃ a b, cs = [.int .i64 x.f0, .int .i64 x.f1, .bool x.f2, .bool x.f3.f0.f0, .int .i64 x.f3.f0.f1, a, .int .i64 x.f3.f1, b] ∧ (Kd.int .i64).R 3 w base ok a x.f3.f0.f2 ∧ (Kd.int .i64).R 3 w base ok b x.f3.f2 := by
 obtain ⟨_, _, rfl, rfl, ⟨_, _, rfl, rfl, ⟨_, _, rfl, rfl, c⟩⟩⟩ := h
 obtain ⟨a, b, rfl, g5, g7⟩ := k86_openM c
 exact ⟨a, b, rfl, g5, g7⟩
theorem k89_mkM (w : World) (base : Nat) (ok : Nat → Prop) (x : S89) {a : Value} (g5 : (Kd.int .i64).R 3 w base ok a x.f3.f0.f2) {b : Value} (g7 : (Kd.int .i64).R 3 w base ok b x.f3.f2) : k89.M w base ok x [.int .i64 x.f0, .int .i64 x.f1, .bool x.f2, .bool x.f3.f0.f0, .int .i64 x.f3.f0.f1, a, .int .i64 x.f3.f1, b] := ⟨[.int .i64 x.f0], [.int .i64 x.f1, .bool x.f2, .bool x.f3.f0.f0, .int .i64 x.f3.f0.f1, a, .int .i64 x.f3.f1, b], rfl, rfl, ⟨[.int .i64 x.f1], [.bool x.f2, .bool x.f3.f0.f0, .int .i64 x.f3.f0.f1, a, .int .i64 x.f3.f1, b], rfl, rfl, ⟨[.bool x.f2], [.bool x.f3.f0.f0, .int .i64 x.f3.f0.f1, a, .int .i64 x.f3.f1, b], rfl, rfl, (k86_mkM w base ok x.f3 g5 g7)⟩⟩⟩
def rd_T89 (xs : List S89) (i : Int) : S89 := xs.getD i.toNat z89
theorem at_T89 {w : World} {A : Option Addr} {n : Nat} {xs : List S89} (h : Kd.C k89 w A n xs) (i : Int) (h0 : 0 ≤ i) (h1 : i < n) : ∃ ad a d b f, A = some ad ∧ w.cell? (ad.add (i.toNat * 8)) = some (.int .i64 (rd_T89 xs i).f0) ∧ w.cell? ⟨(ad.add (i.toNat * 8)).block, (ad.add (i.toNat * 8)).off + 1, none⟩ = some (.int .i64 (rd_T89 xs i).f1) ∧ w.cell? ⟨(ad.add (i.toNat * 8)).block, (ad.add (i.toNat * 8)).off + 2, none⟩ = some (.bool (rd_T89 xs i).f2) ∧ w.cell? ⟨(ad.add (i.toNat * 8)).block, (ad.add (i.toNat * 8)).off + 3, none⟩ = some (.bool (rd_T89 xs i).f3.f0.f0) ∧ w.cell? ⟨(ad.add (i.toNat * 8)).block, (ad.add (i.toNat * 8)).off + 4, none⟩ = some (.int .i64 (rd_T89 xs i).f3.f0.f1) ∧ w.cell? ⟨(ad.add (i.toNat * 8)).block, (ad.add (i.toNat * 8)).off + 5, none⟩ = some (.slice a (rd_T89 xs i).f3.f0.f2.length d) ∧ w.cell? ⟨(ad.add (i.toNat * 8)).block, (ad.add (i.toNat * 8)).off + 6, none⟩ = some (.int .i64 (rd_T89 xs i).f3.f1) ∧ w.cell? ⟨(ad.add (i.toNat * 8)).block, (ad.add (i.toNat * 8)).off + 7, none⟩ = some (.slice b (rd_T89 xs i).f3.f2.length f) ∧ (rd_T89 xs i).f3.f0.f2.length ≤ d ∧ (Kd.int .i64).C w a (rd_T89 xs i).f3.f0.f2.length (rd_T89 xs i).f3.f0.f2 ∧ (rd_T89 xs i).f3.f2.length ≤ f ∧ (Kd.int .i64).C w b (rd_T89 xs i).f3.f2.length (rd_T89 xs i).f3.f2 := by
 obtain ⟨ad, c, e, _, hK, g⟩ := Kd.C_get h z89 i h0 h1
 have hc : ∀ j u, c[j]? = some u → w.cell? (ad.add (i.toNat * 8 + j)) = some u := g
 obtain ⟨a, d, b, f, rfl, k, g5, l, g7⟩ := k89_open hK
 exact ⟨ad, a, d, b, f, e, hc 0 _ rfl, by rw [← add_field _ _ 1 (by omega)]; exact hc 1 _ rfl, by rw [← add_field _ _ 2 (by omega)]; exact hc 2 _ rfl, by rw [← add_field _ _ 3 (by omega)]; exact hc 3 _ rfl, by rw [← add_field _ _ 4 (by omega)]; exact hc 4 _ rfl, by rw [← add_field _ _ 5 (by omega)]; exact hc 5 _ rfl, by rw [← add_field _ _ 6 (by omega)]; exact hc 6 _ rfl, by rw [← add_field _ _ 7 (by omega)]; exact hc 7 _ rfl, k, g5, l, g7⟩
theorem at_U89 {w : World} {A : Option Addr} {n : Nat} {xs : List S89} (h : Kd.C k89 w A n xs) (i : Int) (h0 : 0 ≤ i) (h1 : i < n) : ∃ ad a c b d, A = some ad ∧ w.cell? (ad.add (i.toNat * 8)) = some (.int .i64 (rd_T89 xs i).f0) ∧ w.cell? ⟨(ad.add (i.toNat * 8)).block, (ad.add (i.toNat * 8)).off + 1, none⟩ = some (.int .i64 (rd_T89 xs i).f1) ∧ w.cell? ⟨(ad.add (i.toNat * 8)).block, (ad.add (i.toNat * 8)).off + 2, none⟩ = some (.bool (rd_T89 xs i).f2) ∧ w.cell? ⟨(ad.add (i.toNat * 8)).block, (ad.add (i.toNat * 8)).off + 3, none⟩ = some (.bool (rd_T89 xs i).f3.f0.f0) ∧ w.cell? ⟨(ad.add (i.toNat * 8)).block, (ad.add (i.toNat * 8)).off + 4, none⟩ = some (.int .i64 (rd_T89 xs i).f3.f0.f1) ∧ w.cell? ⟨(ad.add (i.toNat * 8)).block, (ad.add (i.toNat * 8)).off + 5, none⟩ = some (.slice a (rd_T89 xs i).f3.f0.f2.length c) ∧ w.cell? ⟨(ad.add (i.toNat * 8)).block, (ad.add (i.toNat * 8)).off + 6, none⟩ = some (.int .i64 (rd_T89 xs i).f3.f1) ∧ w.cell? ⟨(ad.add (i.toNat * 8)).block, (ad.add (i.toNat * 8)).off + 7, none⟩ = some (.slice b (rd_T89 xs i).f3.f2.length d) ∧ Aside0 ((rd_T89 xs i).f3.f0.f2.length ≤ c) ∧ Aside0 ((Kd.int .i64).C w a (rd_T89 xs i).f3.f0.f2.length (rd_T89 xs i).f3.f0.f2) ∧ Aside0 ((rd_T89 xs i).f3.f2.length ≤ d) ∧ Aside0 ((Kd.int .i64).C w b (rd_T89 xs i).f3.f2.length (rd_T89 xs i).f3.f2) := by
 obtain ⟨e0_, e1_, e2_, e3_, e4_, h0_, h1_, h2_, h3_, h4_, h5_, h6_, h7_, h8_, h9_, h10_, h11_, h12_⟩ := at_T89 h i h0 h1
 exact ⟨e0_, e1_, e2_, e3_, e4_, h0_, h1_, h2_, h3_, h4_, h5_, h6_, h7_, h8_, ⟨h9_⟩, ⟨h10_⟩, ⟨h11_⟩, ⟨h12_⟩⟩
structure S25 where
 f0 : Int
 f1 : (List Int)
 f2 : Int
 f3 : Bool
def k25 : Kd S25 := Kd.iso (Kd.pair (Kd.int .i64) (Kd.pair (Kd.slice 3 (Kd.int .i64)) (Kd.pair (Kd.int .i64) Kd.bool))) (fun x : S25 => (x.f0, x.f1, x.f2, x.f3))
theorem k25_open {w : World} {x : S25} {cs : List Value} (h : k25.K w x cs) : ∃ a b, cs = [.int .i64 x.f0, .slice a x.f1.length b, .int .i64 x.f2, .bool x.f3] ∧ x.f1.length ≤ b ∧ (Kd.int .i64).C w a x.f1.length x.f1 := by
 obtain ⟨_, _, rfl, rfl, ⟨_, _, rfl, ⟨a, b, rfl, c, g1⟩, ⟨_, _, rfl, rfl, rfl⟩⟩⟩ := h
 exact ⟨a, b, rfl, c, g1⟩
structure S29 where
 f0 : (List Int)
 f1 : (List Int)
 f2 : Int
 f3 : (List S74)
 f4 : S25
 f5 : Int
 f6 : Int
 f7 : (List S79)
 f8 : (List S82)
 f9 : Int
 f10 : Int
 f11 : Int
def k29 : Kd S29 := Kd.iso (Kd.pair (Kd.slice 3 (Kd.int .i64)) (Kd.pair (Kd.slice 3 (Kd.int .i64)) (Kd.pair (Kd.int .i64) (Kd.pair (Kd.slice 74 k74) (Kd.pair k25 (Kd.pair (Kd.int .i64) (Kd.pair (Kd.int .i64) (Kd.pair (Kd.slice 79 k79) (Kd.pair (Kd.slice 82 k82) (Kd.pair (Kd.int .i64) (Kd.pair (Kd.int .i64) (Kd.int .i64)))))))))))) (fun x : S29 => (x.f0, x.f1, x.f2, x.f3, x.f4, x.f5, x.f6, x.f7, x.f8, x.f9, x.f10, x.f11))
theorem k29_open {w : World} {x : S29} {cs : List Value} (h : k29.K w x cs) : ∃ e j f k g l i m a c b d, cs = [.slice e x.f0.length j, .slice f x.f1.length k, .int .i64 x.f2, .slice g x.f3.length l, .int .i64 x.f4.f0, .slice i x.f4.f1.length m, .int .i64 x.f4.f2, .bool x.f4.f3, .int .i64 x.f5, .int .i64 x.f6, .slice a x.f7.length c, .slice b x.f8.length d, .int .i64 x.f9, .int .i64 x.f10, .int .i64 x.f11] ∧ x.f0.length ≤ j ∧ (Kd.int .i64).C w e x.f0.length x.f0 ∧ x.f1.length ≤ k ∧ (Kd.int .i64).C w f x.f1.length x.f1 ∧ x.f3.length ≤ l ∧ k74.C w g x.f3.length x.f3 ∧ x.f4.f1.length ≤ m ∧ (Kd.int .i64).C w i x.f4.f1.length x.f4.f1 ∧ x.f7.length ≤ c ∧ k79.C w a x.f7.length x.f7 ∧ x.f8.length ≤ d ∧ k82.C w b x.f8.length x.f8 := by
 obtain ⟨_, _, rfl, ⟨e, j, rfl, p, g0⟩, ⟨_, _, rfl, ⟨f, k, rfl, q, g1⟩, ⟨_, _, rfl, rfl, ⟨_, _, rfl, ⟨g, l, rfl, r, g3⟩, ⟨_, _, rfl, t, ⟨_, _, rfl, rfl, ⟨_, _, rfl, rfl, ⟨_, _, rfl, ⟨a, c, rfl, n, g10⟩, ⟨_, _, rfl, ⟨b, d, rfl, o, g11⟩, ⟨_, _, rfl, rfl, ⟨_, _, rfl, rfl, rfl⟩⟩⟩⟩⟩⟩⟩⟩⟩⟩⟩ := h
 obtain ⟨i, m, rfl, s, g5⟩ := k25_open t
 exact ⟨e, j, f, k, g, l, i, m, a, c, b, d, rfl, p, g0, q, g1, r, g3, s, g5, n, g10, o, g11⟩
def Q104 (x : S104) : Prop := (Lit.int .i64 x.f0).wf = true ∧ (x.f1.length * 8 ≤ 140737488351232 ∧ ∀ y ∈ x.f1, (Lit.int .i64 y).wf = true) ∧ (x.f2.length * 8 ≤ 140737488351232 ∧ ∀ y ∈ x.f2, (Lit.int .i64 y).wf = true) ∧ True
def Q74 (x : S74) : Prop := (x.f0.length * 8 ≤ 140737488351232 ∧ ∀ y ∈ x.f0, (Lit.int .i64 y).wf = true) ∧ (x.f1.length * 8 ≤ 140737488351232 ∧ ∀ y ∈ x.f1, (Lit.int .i64 y).wf = true) ∧ (x.f2.length * 64 ≤ 140737488351232 ∧ ∀ y ∈ x.f2, Q104 y) ∧ (Lit.int .i64 x.f3).wf = true
def Q25 (x : S25) : Prop := (Lit.int .i64 x.f0).wf = true ∧ (x.f1.length * 8 ≤ 140737488351232 ∧ ∀ y ∈ x.f1, (Lit.int .i64 y).wf = true) ∧ (Lit.int .i64 x.f2).wf = true ∧ True
def Q77 (x : S77) : Prop := True ∧ (Lit.int .i64 x.f1).wf = true ∧ (x.f2.length * 8 ≤ 140737488351232 ∧ ∀ y ∈ x.f2, (Lit.int .i64 y).wf = true)
def Q79 (x : S79) : Prop := Q77 x.f0 ∧ (Lit.int .i64 x.f1).wf = true ∧ (x.f2.length * 8 ≤ 140737488351232 ∧ ∀ y ∈ x.f2, (Lit.int .i64 y).wf = true)
def Q82 (x : S82) : Prop := (Lit.int .i64 x.f0).wf = true ∧ (Lit.int .i64 x.f1).wf = true ∧ True ∧ Q79 x.f3
def Q29 (x : S29) : Prop := (x.f0.length * 8 ≤ 140737488351232 ∧ ∀ y ∈ x.f0, (Lit.int .i64 y).wf = true) ∧ (x.f1.length * 8 ≤ 140737488351232 ∧ ∀ y ∈ x.f1, (Lit.int .i64 y).wf = true) ∧ (Lit.int .i64 x.f2).wf = true ∧ (x.f3.length * 80 ≤ 140737488351232 ∧ ∀ y ∈ x.f3, Q74 y) ∧ Q25 x.f4 ∧ (Lit.int .i64 x.f5).wf = true ∧ (Lit.int .i64 x.f6).wf = true ∧ (x.f7.length * 72 ≤ 140737488351232 ∧ ∀ y ∈ x.f7, Q79 y) ∧ (x.f8.length * 96 ≤ 140737488351232 ∧ ∀ y ∈ x.f8, Q82 y) ∧ (Lit.int .i64 x.f9).wf = true ∧ (Lit.int .i64 x.f10).wf = true ∧ (Lit.int .i64 x.f11).wf = true
end Go.Proofs.Ytfhndlgbjhffiaa.Print
