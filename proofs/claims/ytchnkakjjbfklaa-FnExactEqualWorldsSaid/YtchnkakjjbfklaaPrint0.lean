-- Written by a program of this session (prune.py): the words that the kit's print laid for this seat, as far as its texts use them; Lean checks it.
import Derived.Test.YtchnkakjjbfklaaProg
import Derived.Below
import Derived.Deep.Draws
import Derived.Deep.AppendLies
import Derived.Maps.AppendAt
import Derived.OwnWalk
import Derived.Laws.BytesArg
import Derived.Laws.MakeOwn
import Derived.Laws.OwnMore
import Derived.Deep.OwnRows
import Derived.Tactics
import Derived.Lib.ConvBytes
import Derived.Laws.Slices
import Derived.WalkKit
import Derived.KernelRfl
import Derived.RowKit3
import Derived.Deep.LoopGhost
import Derived.Deep.QuietTactic
import Derived.BigQuiet
import Derived.WideLaws
import Derived.Deep.DeepCutAuto
import Derived.Deep.CutBlock
import Derived.Deep.RegionHeld3
import Derived.Laws.Rows
import Derived.Lib.AppendStr
import Derived.ArgAppend
import Derived.Laws.IdiomCopy
import Derived.OrdersHeld
import Derived.Laws.BitsLemmas
import Derived.RowKit
import Derived.Lib.SliceRun
import Derived.Test.YtchnkakjjbfklaaShort
import Derived.Test.YtchnkakjjbfklaaWWords
import Derived.Test.YtchnkakjjbfklaaWLast
import Derived.Test.YtchnkakjjbfklaaWTab
import Derived.Test.YtchnkakjjbfklaaWQPut
import Derived.Test.YtchnkakjjbfklaaWApart
import Derived.Test.YtchnkakjjbfklaaWArr
import Derived.Test.YtchnkakjjbfklaaWZeros
import Derived.Test.YtchnkakjjbfklaaWFoot
import Derived.Test.YtchnkakjjbfklaaWKept
import Derived.Test.YtchnkakjjbfklaaWShare
import Derived.Test.YtchnkakjjbfklaaWN
import Derived.Test.YtchnkakjjbfklaaWRepsOne
import Derived.Test.YtchnkakjjbfklaaWGuard
import Derived.Test.YtchnkakjjbfklaaWNEv
import Derived.Test.YtchnkakjjbfklaaWMore
namespace Go.Proofs.Ytchnkakjjbfklaa.Print
open Go.RowKit Go.Proofs.YtchnkakjjbfklaaW.PrintWords Go.Proofs.YtchnkakjjbfklaaW.PrintLast Go.Proofs.YtchnkakjjbfklaaW.PrintMore Go.Proofs.Ytchnkakjjbfklaa.Short
attribute [local go_sem] max2_int min2_int max_two min_two max_three min_three max_four min_four   -- for this text's walks alone
set_option linter.unusedVariables false
set_option maxHeartbeats 8000000
set_option maxRecDepth 100000
set_option linter.unusedSimpArgs false
def errW : Option Int → Value
 | none => .nilIface
 | some c => .iface 0 (.int .i64 c)
theorem errW_none : errW none = .nilIface := rfl
theorem errW_some (c : Int) : errW (some c) = .iface 0 (.int .i64 c) := rfl
theorem info3 : (Try.prog.info? 3).map (fun i => (i.zero, i.size, i.bytes)) = some (some (.int .i64 0), 1, 8) := by kernel_rfl
theorem info50 : (Try.prog.info? 50).map (fun i => (i.zero, i.size, i.bytes)) = some (some (.agg #[(.slice none 0 0), (.slice none 0 0), (.slice none 0 0), (.int .i64 0)]), 4, 80) := by kernel_rfl
theorem info55 : (Try.prog.info? 55).map (fun i => (i.zero, i.size, i.bytes)) = some (some (.agg #[(.bool false), (.int .i64 0), (.slice none 0 0), (.int .i64 0), (.slice none 0 0)]), 5, 72) := by kernel_rfl
theorem info57 : (Try.prog.info? 57).map (fun i => (i.zero, i.size, i.bytes)) = some (some (.agg #[(.int .i64 0), (.int .i64 0), (.bool false), (.bool false), (.int .i64 0), (.slice none 0 0), (.int .i64 0), (.slice none 0 0)]), 8, 96) := by kernel_rfl
theorem info95 : (Try.prog.info? 95).map (fun i => (i.zero, i.size, i.bytes)) = some (some (.agg #[(.int .i64 0), (.slice none 0 0), (.slice none 0 0), (.bool false)]), 4, 64) := by kernel_rfl
def rd_L1 (xs : List (List Int)) (i : Int) : (List Int) := xs.getD i.toNat ([] : List Int)
structure S117 where
 f0 : Int
 f1 : (List Int)
 f2 : (List Int)
 f3 : Bool
def z117 : S117 := ⟨(0 : Int), ([] : List Int), ([] : List Int), false⟩
def k117 : Kd S117 := Kd.iso (Kd.pair (Kd.int .i64) (Kd.pair (Kd.slice 3 (Kd.int .i64)) (Kd.pair (Kd.slice 3 (Kd.int .i64)) Kd.bool))) (fun x : S117 => (x.f0, x.f1, x.f2, x.f3))
theorem k117_open {w : World} {x : S117} {cs : List Value} (h : k117.K w x cs) : ∃ a c b d, cs = [.int .i64 x.f0, .slice a x.f1.length c, .slice b x.f2.length d, .bool x.f3] ∧ x.f1.length ≤ c ∧ (Kd.int .i64).C w a x.f1.length x.f1 ∧ x.f2.length ≤ d ∧ (Kd.int .i64).C w b x.f2.length x.f2 := by
 obtain ⟨_, _, rfl, rfl, ⟨_, _, rfl, ⟨a, c, rfl, e, g1⟩, ⟨_, _, rfl, ⟨b, d, rfl, f, g2⟩, rfl⟩⟩⟩ := h
 exact ⟨a, c, b, d, rfl, e, g1, f, g2⟩
def rd_T117 (xs : List S117) (i : Int) : S117 := xs.getD i.toNat z117
theorem at_T117 {w : World} {A : Option Addr} {n : Nat} {xs : List S117} (h : Kd.C k117 w A n xs) (i : Int) (h0 : 0 ≤ i) (h1 : i < n) : ∃ ad a d b f, A = some ad ∧ w.cell? (ad.add (i.toNat * 4)) = some (.int .i64 (rd_T117 xs i).f0) ∧ w.cell? ⟨(ad.add (i.toNat * 4)).block, (ad.add (i.toNat * 4)).off + 1, none⟩ = some (.slice a (rd_T117 xs i).f1.length d) ∧ w.cell? ⟨(ad.add (i.toNat * 4)).block, (ad.add (i.toNat * 4)).off + 2, none⟩ = some (.slice b (rd_T117 xs i).f2.length f) ∧ w.cell? ⟨(ad.add (i.toNat * 4)).block, (ad.add (i.toNat * 4)).off + 3, none⟩ = some (.bool (rd_T117 xs i).f3) ∧ (rd_T117 xs i).f1.length ≤ d ∧ (Kd.int .i64).C w a (rd_T117 xs i).f1.length (rd_T117 xs i).f1 ∧ (rd_T117 xs i).f2.length ≤ f ∧ (Kd.int .i64).C w b (rd_T117 xs i).f2.length (rd_T117 xs i).f2 := by
 obtain ⟨ad, c, e, _, hK, g⟩ := Kd.C_get h z117 i h0 h1
 have hc : ∀ j u, c[j]? = some u → w.cell? (ad.add (i.toNat * 4 + j)) = some u := g
 obtain ⟨a, d, b, f, rfl, k, g1, l, g2⟩ := k117_open hK
 exact ⟨ad, a, d, b, f, e, hc 0 _ rfl, by rw [← add_field _ _ 1 (by omega)]; exact hc 1 _ rfl, by rw [← add_field _ _ 2 (by omega)]; exact hc 2 _ rfl, by rw [← add_field _ _ 3 (by omega)]; exact hc 3 _ rfl, k, g1, l, g2⟩
theorem at_U117 {w : World} {A : Option Addr} {n : Nat} {xs : List S117} (h : Kd.C k117 w A n xs) (i : Int) (h0 : 0 ≤ i) (h1 : i < n) : ∃ ad a c b d, A = some ad ∧ w.cell? (ad.add (i.toNat * 4)) = some (.int .i64 (rd_T117 xs i).f0) ∧ w.cell? ⟨(ad.add (i.toNat * 4)).block, (ad.add (i.toNat * 4)).off + 1, none⟩ = some (.slice a (rd_T117 xs i).f1.length c) ∧ w.cell? ⟨(ad.add (i.toNat * 4)).block, (ad.add (i.toNat * 4)).off + 2, none⟩ = some (.slice b (rd_T117 xs i).f2.length d) ∧ w.cell? ⟨(ad.add (i.toNat * 4)).block, (ad.add (i.toNat * 4)).off + 3, none⟩ = some (.bool (rd_T117 xs i).f3) ∧ Aside0 ((rd_T117 xs i).f1.length ≤ c) ∧ Aside0 ((Kd.int .i64).C w a (rd_T117 xs i).f1.length (rd_T117 xs i).f1) ∧ Aside0 ((rd_T117 xs i).f2.length ≤ d) ∧ Aside0 ((Kd.int .i64).C w b (rd_T117 xs i).f2.length (rd_T117 xs i).f2) := by
 obtain ⟨e0_, e1_, e2_, e3_, e4_, h0_, h1_, h2_, h3_, h4_, h5_, h6_, h7_, h8_⟩ := at_T117 h i h0 h1
 exact ⟨e0_, e1_, e2_, e3_, e4_, h0_, h1_, h2_, h3_, h4_, ⟨h5_⟩, ⟨h6_⟩, ⟨h7_⟩, ⟨h8_⟩⟩
structure S85 where
 f0 : (List Int)
 f1 : (List Int)
 f2 : (List S117)
 f3 : Int
def z85 : S85 := ⟨([] : List Int), ([] : List Int), ([] : List S117), (0 : Int)⟩
def k85 : Kd S85 := Kd.iso (Kd.pair (Kd.slice 3 (Kd.int .i64)) (Kd.pair (Kd.slice 3 (Kd.int .i64)) (Kd.pair (Kd.slice 117 k117) (Kd.int .i64)))) (fun x : S85 => (x.f0, x.f1, x.f2, x.f3))
theorem k85_open {w : World} {x : S85} {cs : List Value} (h : k85.K w x cs) : ∃ a d b e c f, cs = [.slice a x.f0.length d, .slice b x.f1.length e, .slice c x.f2.length f, .int .i64 x.f3] ∧ x.f0.length ≤ d ∧ (Kd.int .i64).C w a x.f0.length x.f0 ∧ x.f1.length ≤ e ∧ (Kd.int .i64).C w b x.f1.length x.f1 ∧ x.f2.length ≤ f ∧ k117.C w c x.f2.length x.f2 := by
 obtain ⟨_, _, rfl, ⟨a, d, rfl, g, g0⟩, ⟨_, _, rfl, ⟨b, e, rfl, i, g1⟩, ⟨_, _, rfl, ⟨c, f, rfl, j, g2⟩, rfl⟩⟩⟩ := h
 exact ⟨a, d, b, e, c, f, rfl, g, g0, i, g1, j, g2⟩
def rd_T85 (xs : List S85) (i : Int) : S85 := xs.getD i.toNat z85
theorem at_T85 {w : World} {A : Option Addr} {n : Nat} {xs : List S85} (h : Kd.C k85 w A n xs) (i : Int) (h0 : 0 ≤ i) (h1 : i < n) : ∃ ad a f b g d k, A = some ad ∧ w.cell? (ad.add (i.toNat * 4)) = some (.slice a (rd_T85 xs i).f0.length f) ∧ w.cell? ⟨(ad.add (i.toNat * 4)).block, (ad.add (i.toNat * 4)).off + 1, none⟩ = some (.slice b (rd_T85 xs i).f1.length g) ∧ w.cell? ⟨(ad.add (i.toNat * 4)).block, (ad.add (i.toNat * 4)).off + 2, none⟩ = some (.slice d (rd_T85 xs i).f2.length k) ∧ w.cell? ⟨(ad.add (i.toNat * 4)).block, (ad.add (i.toNat * 4)).off + 3, none⟩ = some (.int .i64 (rd_T85 xs i).f3) ∧ (rd_T85 xs i).f0.length ≤ f ∧ (Kd.int .i64).C w a (rd_T85 xs i).f0.length (rd_T85 xs i).f0 ∧ (rd_T85 xs i).f1.length ≤ g ∧ (Kd.int .i64).C w b (rd_T85 xs i).f1.length (rd_T85 xs i).f1 ∧ (rd_T85 xs i).f2.length ≤ k ∧ k117.C w d (rd_T85 xs i).f2.length (rd_T85 xs i).f2 := by
 obtain ⟨ad, c, e, _, hK, l⟩ := Kd.C_get h z85 i h0 h1
 have hc : ∀ j u, c[j]? = some u → w.cell? (ad.add (i.toNat * 4 + j)) = some u := l
 obtain ⟨a, f, b, g, d, k, rfl, m, g0, o, g1, p, g2⟩ := k85_open hK
 exact ⟨ad, a, f, b, g, d, k, e, hc 0 _ rfl, by rw [← add_field _ _ 1 (by omega)]; exact hc 1 _ rfl, by rw [← add_field _ _ 2 (by omega)]; exact hc 2 _ rfl, by rw [← add_field _ _ 3 (by omega)]; exact hc 3 _ rfl, m, g0, o, g1, p, g2⟩
theorem at_U85 {w : World} {A : Option Addr} {n : Nat} {xs : List S85} (h : Kd.C k85 w A n xs) (i : Int) (h0 : 0 ≤ i) (h1 : i < n) : ∃ ad a d b e c f, A = some ad ∧ w.cell? (ad.add (i.toNat * 4)) = some (.slice a (rd_T85 xs i).f0.length d) ∧ w.cell? ⟨(ad.add (i.toNat * 4)).block, (ad.add (i.toNat * 4)).off + 1, none⟩ = some (.slice b (rd_T85 xs i).f1.length e) ∧ w.cell? ⟨(ad.add (i.toNat * 4)).block, (ad.add (i.toNat * 4)).off + 2, none⟩ = some (.slice c (rd_T85 xs i).f2.length f) ∧ w.cell? ⟨(ad.add (i.toNat * 4)).block, (ad.add (i.toNat * 4)).off + 3, none⟩ = some (.int .i64 (rd_T85 xs i).f3) ∧ Aside0 ((rd_T85 xs i).f0.length ≤ d) ∧ Aside0 ((Kd.int .i64).C w a (rd_T85 xs i).f0.length (rd_T85 xs i).f0) ∧ Aside0 ((rd_T85 xs i).f1.length ≤ e) ∧ Aside0 ((Kd.int .i64).C w b (rd_T85 xs i).f1.length (rd_T85 xs i).f1) ∧ Aside0 ((rd_T85 xs i).f2.length ≤ f) ∧ Aside0 (k117.C w c (rd_T85 xs i).f2.length (rd_T85 xs i).f2) := by
 obtain ⟨e0_, e1_, e2_, e3_, e4_, e5_, e6_, h0_, h1_, h2_, h3_, h4_, h5_, h6_, h7_, h8_, h9_, h10_⟩ := at_T85 h i h0 h1
 exact ⟨e0_, e1_, e2_, e3_, e4_, e5_, e6_, h0_, h1_, h2_, h3_, h4_, ⟨h5_⟩, ⟨h6_⟩, ⟨h7_⟩, ⟨h8_⟩, ⟨h9_⟩, ⟨h10_⟩⟩
structure S87 where
 f0 : Bool
 f1 : Int
 f2 : (List Int)
def z87 : S87 := ⟨false, (0 : Int), ([] : List Int)⟩
def k87 : Kd S87 := Kd.iso (Kd.pair Kd.bool (Kd.pair (Kd.int .i64) (Kd.slice 3 (Kd.int .i64)))) (fun x : S87 => (x.f0, x.f1, x.f2))
theorem k87_open {w : World} {x : S87} {cs : List Value} (h : k87.K w x cs) : ∃ a b, cs = [.bool x.f0, .int .i64 x.f1, .slice a x.f2.length b] ∧ x.f2.length ≤ b ∧ (Kd.int .i64).C w a x.f2.length x.f2 := by
 obtain ⟨_, _, rfl, rfl, ⟨_, _, rfl, rfl, ⟨a, b, rfl, c, g2⟩⟩⟩ := h
 exact ⟨a, b, rfl, c, g2⟩
structure S89 where
 f0 : S87
 f1 : Int
 f2 : (List Int)
def z89 : S89 := ⟨z87, (0 : Int), ([] : List Int)⟩
def k89 : Kd S89 := Kd.iso (Kd.pair k87 (Kd.pair (Kd.int .i64) (Kd.slice 3 (Kd.int .i64)))) (fun x : S89 => (x.f0, x.f1, x.f2))
theorem k89_open {w : World} {x : S89} {cs : List Value} (h : k89.K w x cs) : ∃ a c b d, cs = [.bool x.f0.f0, .int .i64 x.f0.f1, .slice a x.f0.f2.length c, .int .i64 x.f1, .slice b x.f2.length d] ∧ x.f0.f2.length ≤ c ∧ (Kd.int .i64).C w a x.f0.f2.length x.f0.f2 ∧ x.f2.length ≤ d ∧ (Kd.int .i64).C w b x.f2.length x.f2 := by
 obtain ⟨_, _, rfl, g, ⟨_, _, rfl, rfl, ⟨b, d, rfl, f, g4⟩⟩⟩ := h
 obtain ⟨a, c, rfl, e, g2⟩ := k87_open g
 exact ⟨a, c, b, d, rfl, e, g2, f, g4⟩
def rd_T89 (xs : List S89) (i : Int) : S89 := xs.getD i.toNat z89
theorem at_T89 {w : World} {A : Option Addr} {n : Nat} {xs : List S89} (h : Kd.C k89 w A n xs) (i : Int) (h0 : 0 ≤ i) (h1 : i < n) : ∃ ad a d b f, A = some ad ∧ w.cell? (ad.add (i.toNat * 5)) = some (.bool (rd_T89 xs i).f0.f0) ∧ w.cell? ⟨(ad.add (i.toNat * 5)).block, (ad.add (i.toNat * 5)).off + 1, none⟩ = some (.int .i64 (rd_T89 xs i).f0.f1) ∧ w.cell? ⟨(ad.add (i.toNat * 5)).block, (ad.add (i.toNat * 5)).off + 2, none⟩ = some (.slice a (rd_T89 xs i).f0.f2.length d) ∧ w.cell? ⟨(ad.add (i.toNat * 5)).block, (ad.add (i.toNat * 5)).off + 3, none⟩ = some (.int .i64 (rd_T89 xs i).f1) ∧ w.cell? ⟨(ad.add (i.toNat * 5)).block, (ad.add (i.toNat * 5)).off + 4, none⟩ = some (.slice b (rd_T89 xs i).f2.length f) ∧ (rd_T89 xs i).f0.f2.length ≤ d ∧ (Kd.int .i64).C w a (rd_T89 xs i).f0.f2.length (rd_T89 xs i).f0.f2 ∧ (rd_T89 xs i).f2.length ≤ f ∧ (Kd.int .i64).C w b (rd_T89 xs i).f2.length (rd_T89 xs i).f2 := by
 obtain ⟨ad, c, e, _, hK, g⟩ := Kd.C_get h z89 i h0 h1
 have hc : ∀ j u, c[j]? = some u → w.cell? (ad.add (i.toNat * 5 + j)) = some u := g
 obtain ⟨a, d, b, f, rfl, k, g2, l, g4⟩ := k89_open hK
 exact ⟨ad, a, d, b, f, e, hc 0 _ rfl, by rw [← add_field _ _ 1 (by omega)]; exact hc 1 _ rfl, by rw [← add_field _ _ 2 (by omega)]; exact hc 2 _ rfl, by rw [← add_field _ _ 3 (by omega)]; exact hc 3 _ rfl, by rw [← add_field _ _ 4 (by omega)]; exact hc 4 _ rfl, k, g2, l, g4⟩
theorem at_U89 {w : World} {A : Option Addr} {n : Nat} {xs : List S89} (h : Kd.C k89 w A n xs) (i : Int) (h0 : 0 ≤ i) (h1 : i < n) : ∃ ad a c b d, A = some ad ∧ w.cell? (ad.add (i.toNat * 5)) = some (.bool (rd_T89 xs i).f0.f0) ∧ w.cell? ⟨(ad.add (i.toNat * 5)).block, (ad.add (i.toNat * 5)).off + 1, none⟩ = some (.int .i64 (rd_T89 xs i).f0.f1) ∧ w.cell? ⟨(ad.add (i.toNat * 5)).block, (ad.add (i.toNat * 5)).off + 2, none⟩ = some (.slice a (rd_T89 xs i).f0.f2.length c) ∧ w.cell? ⟨(ad.add (i.toNat * 5)).block, (ad.add (i.toNat * 5)).off + 3, none⟩ = some (.int .i64 (rd_T89 xs i).f1) ∧ w.cell? ⟨(ad.add (i.toNat * 5)).block, (ad.add (i.toNat * 5)).off + 4, none⟩ = some (.slice b (rd_T89 xs i).f2.length d) ∧ Aside0 ((rd_T89 xs i).f0.f2.length ≤ c) ∧ Aside0 ((Kd.int .i64).C w a (rd_T89 xs i).f0.f2.length (rd_T89 xs i).f0.f2) ∧ Aside0 ((rd_T89 xs i).f2.length ≤ d) ∧ Aside0 ((Kd.int .i64).C w b (rd_T89 xs i).f2.length (rd_T89 xs i).f2) := by
 obtain ⟨e0_, e1_, e2_, e3_, e4_, h0_, h1_, h2_, h3_, h4_, h5_, h6_, h7_, h8_, h9_⟩ := at_T89 h i h0 h1
 exact ⟨e0_, e1_, e2_, e3_, e4_, h0_, h1_, h2_, h3_, h4_, h5_, ⟨h6_⟩, ⟨h7_⟩, ⟨h8_⟩, ⟨h9_⟩⟩
structure S92 where
 f0 : Int
 f1 : Int
 f2 : Bool
 f3 : S89
def z92 : S92 := ⟨(0 : Int), (0 : Int), false, z89⟩
def k92 : Kd S92 := Kd.iso (Kd.pair (Kd.int .i64) (Kd.pair (Kd.int .i64) (Kd.pair Kd.bool k89))) (fun x : S92 => (x.f0, x.f1, x.f2, x.f3))
theorem k92_open {w : World} {x : S92} {cs : List Value} (h : k92.K w x cs) : ∃ a c b d, cs = [.int .i64 x.f0, .int .i64 x.f1, .bool x.f2, .bool x.f3.f0.f0, .int .i64 x.f3.f0.f1, .slice a x.f3.f0.f2.length c, .int .i64 x.f3.f1, .slice b x.f3.f2.length d] ∧ x.f3.f0.f2.length ≤ c ∧ (Kd.int .i64).C w a x.f3.f0.f2.length x.f3.f0.f2 ∧ x.f3.f2.length ≤ d ∧ (Kd.int .i64).C w b x.f3.f2.length x.f3.f2 := by
 obtain ⟨_, _, rfl, rfl, ⟨_, _, rfl, rfl, ⟨_, _, rfl, rfl, g⟩⟩⟩ := h
 obtain ⟨a, c, b, d, rfl, e, g5, f, g7⟩ := k89_open g
 exact ⟨a, c, b, d, rfl, e, g5, f, g7⟩
def rd_T92 (xs : List S92) (i : Int) : S92 := xs.getD i.toNat z92
theorem at_T92 {w : World} {A : Option Addr} {n : Nat} {xs : List S92} (h : Kd.C k92 w A n xs) (i : Int) (h0 : 0 ≤ i) (h1 : i < n) : ∃ ad a d b f, A = some ad ∧ w.cell? (ad.add (i.toNat * 8)) = some (.int .i64 (rd_T92 xs i).f0) ∧ w.cell? ⟨(ad.add (i.toNat * 8)).block, (ad.add (i.toNat * 8)).off + 1, none⟩ = some (.int .i64 (rd_T92 xs i).f1) ∧ w.cell? ⟨(ad.add (i.toNat * 8)).block, (ad.add (i.toNat * 8)).off + 2, none⟩ = some (.bool (rd_T92 xs i).f2) ∧ w.cell? ⟨(ad.add (i.toNat * 8)).block, (ad.add (i.toNat * 8)).off + 3, none⟩ = some (.bool (rd_T92 xs i).f3.f0.f0) ∧ w.cell? ⟨(ad.add (i.toNat * 8)).block, (ad.add (i.toNat * 8)).off + 4, none⟩ = some (.int .i64 (rd_T92 xs i).f3.f0.f1) ∧ w.cell? ⟨(ad.add (i.toNat * 8)).block, (ad.add (i.toNat * 8)).off + 5, none⟩ = some (.slice a (rd_T92 xs i).f3.f0.f2.length d) ∧ w.cell? ⟨(ad.add (i.toNat * 8)).block, (ad.add (i.toNat * 8)).off + 6, none⟩ = some (.int .i64 (rd_T92 xs i).f3.f1) ∧ w.cell? ⟨(ad.add (i.toNat * 8)).block, (ad.add (i.toNat * 8)).off + 7, none⟩ = some (.slice b (rd_T92 xs i).f3.f2.length f) ∧ (rd_T92 xs i).f3.f0.f2.length ≤ d ∧ (Kd.int .i64).C w a (rd_T92 xs i).f3.f0.f2.length (rd_T92 xs i).f3.f0.f2 ∧ (rd_T92 xs i).f3.f2.length ≤ f ∧ (Kd.int .i64).C w b (rd_T92 xs i).f3.f2.length (rd_T92 xs i).f3.f2 := by
 obtain ⟨ad, c, e, _, hK, g⟩ := Kd.C_get h z92 i h0 h1
 have hc : ∀ j u, c[j]? = some u → w.cell? (ad.add (i.toNat * 8 + j)) = some u := g
 obtain ⟨a, d, b, f, rfl, k, g5, l, g7⟩ := k92_open hK
 exact ⟨ad, a, d, b, f, e, hc 0 _ rfl, by rw [← add_field _ _ 1 (by omega)]; exact hc 1 _ rfl, by rw [← add_field _ _ 2 (by omega)]; exact hc 2 _ rfl, by rw [← add_field _ _ 3 (by omega)]; exact hc 3 _ rfl, by rw [← add_field _ _ 4 (by omega)]; exact hc 4 _ rfl, by rw [← add_field _ _ 5 (by omega)]; exact hc 5 _ rfl, by rw [← add_field _ _ 6 (by omega)]; exact hc 6 _ rfl, by rw [← add_field _ _ 7 (by omega)]; exact hc 7 _ rfl, k, g5, l, g7⟩
theorem at_U92 {w : World} {A : Option Addr} {n : Nat} {xs : List S92} (h : Kd.C k92 w A n xs) (i : Int) (h0 : 0 ≤ i) (h1 : i < n) : ∃ ad a c b d, A = some ad ∧ w.cell? (ad.add (i.toNat * 8)) = some (.int .i64 (rd_T92 xs i).f0) ∧ w.cell? ⟨(ad.add (i.toNat * 8)).block, (ad.add (i.toNat * 8)).off + 1, none⟩ = some (.int .i64 (rd_T92 xs i).f1) ∧ w.cell? ⟨(ad.add (i.toNat * 8)).block, (ad.add (i.toNat * 8)).off + 2, none⟩ = some (.bool (rd_T92 xs i).f2) ∧ w.cell? ⟨(ad.add (i.toNat * 8)).block, (ad.add (i.toNat * 8)).off + 3, none⟩ = some (.bool (rd_T92 xs i).f3.f0.f0) ∧ w.cell? ⟨(ad.add (i.toNat * 8)).block, (ad.add (i.toNat * 8)).off + 4, none⟩ = some (.int .i64 (rd_T92 xs i).f3.f0.f1) ∧ w.cell? ⟨(ad.add (i.toNat * 8)).block, (ad.add (i.toNat * 8)).off + 5, none⟩ = some (.slice a (rd_T92 xs i).f3.f0.f2.length c) ∧ w.cell? ⟨(ad.add (i.toNat * 8)).block, (ad.add (i.toNat * 8)).off + 6, none⟩ = some (.int .i64 (rd_T92 xs i).f3.f1) ∧ w.cell? ⟨(ad.add (i.toNat * 8)).block, (ad.add (i.toNat * 8)).off + 7, none⟩ = some (.slice b (rd_T92 xs i).f3.f2.length d) ∧ Aside0 ((rd_T92 xs i).f3.f0.f2.length ≤ c) ∧ Aside0 ((Kd.int .i64).C w a (rd_T92 xs i).f3.f0.f2.length (rd_T92 xs i).f3.f0.f2) ∧ Aside0 ((rd_T92 xs i).f3.f2.length ≤ d) ∧ Aside0 ((Kd.int .i64).C w b (rd_T92 xs i).f3.f2.length (rd_T92 xs i).f3.f2) := by
 obtain ⟨e0_, e1_, e2_, e3_, e4_, h0_, h1_, h2_, h3_, h4_, h5_, h6_, h7_, h8_, h9_, h10_, h11_, h12_⟩ := at_T92 h i h0 h1
 exact ⟨e0_, e1_, e2_, e3_, e4_, h0_, h1_, h2_, h3_, h4_, h5_, h6_, h7_, h8_, ⟨h9_⟩, ⟨h10_⟩, ⟨h11_⟩, ⟨h12_⟩⟩
structure S95 where
 f0 : Int
 f1 : (List Int)
 f2 : (List Int)
 f3 : Bool
def z95 : S95 := ⟨(0 : Int), ([] : List Int), ([] : List Int), false⟩
def k95 : Kd S95 := Kd.iso (Kd.pair (Kd.int .i64) (Kd.pair (Kd.slice 3 (Kd.int .i64)) (Kd.pair (Kd.slice 3 (Kd.int .i64)) Kd.bool))) (fun x : S95 => (x.f0, x.f1, x.f2, x.f3))
theorem k95_open {w : World} {x : S95} {cs : List Value} (h : k95.K w x cs) : ∃ a c b d, cs = [.int .i64 x.f0, .slice a x.f1.length c, .slice b x.f2.length d, .bool x.f3] ∧ x.f1.length ≤ c ∧ (Kd.int .i64).C w a x.f1.length x.f1 ∧ x.f2.length ≤ d ∧ (Kd.int .i64).C w b x.f2.length x.f2 := by
 obtain ⟨_, _, rfl, rfl, ⟨_, _, rfl, ⟨a, c, rfl, e, g1⟩, ⟨_, _, rfl, ⟨b, d, rfl, f, g2⟩, rfl⟩⟩⟩ := h
 exact ⟨a, c, b, d, rfl, e, g1, f, g2⟩
theorem k95_openM {w : World} {base : Nat} {ok : Nat → Prop} {x : S95} {cs : List Value} (h : k95.M w base ok x cs) : ∃ a b, cs = [.int .i64 x.f0, a, b, .bool x.f3] ∧ (Kd.int .i64).R 3 w base ok a x.f1 ∧ (Kd.int .i64).R 3 w base ok b x.f2 := by
 obtain ⟨_, _, rfl, rfl, ⟨_, _, rfl, ⟨a, rfl, g1⟩, ⟨_, _, rfl, ⟨b, rfl, g2⟩, rfl⟩⟩⟩ := h
 exact ⟨a, b, rfl, g1, g2⟩
theorem k95_mkM (w : World) (base : Nat) (ok : Nat → Prop) (x : S95) {b : Value} (g1 : (Kd.int .i64).R 3 w base ok b x.f1) {a : Value} (g2 : (Kd.int .i64).R 3 w base ok a x.f2) : k95.M w base ok x [.int .i64 x.f0, b, a, .bool x.f3] := ⟨[.int .i64 x.f0], [b, a, .bool x.f3], rfl, rfl, ⟨[b], [a, .bool x.f3], rfl, ⟨b, rfl, g1⟩, ⟨[a], [.bool x.f3], rfl, ⟨a, rfl, g2⟩, rfl⟩⟩⟩
def rd_T95 (xs : List S95) (i : Int) : S95 := xs.getD i.toNat z95
theorem at_T95 {w : World} {A : Option Addr} {n : Nat} {xs : List S95} (h : Kd.C k95 w A n xs) (i : Int) (h0 : 0 ≤ i) (h1 : i < n) : ∃ ad a d b f, A = some ad ∧ w.cell? (ad.add (i.toNat * 4)) = some (.int .i64 (rd_T95 xs i).f0) ∧ w.cell? ⟨(ad.add (i.toNat * 4)).block, (ad.add (i.toNat * 4)).off + 1, none⟩ = some (.slice a (rd_T95 xs i).f1.length d) ∧ w.cell? ⟨(ad.add (i.toNat * 4)).block, (ad.add (i.toNat * 4)).off + 2, none⟩ = some (.slice b (rd_T95 xs i).f2.length f) ∧ w.cell? ⟨(ad.add (i.toNat * 4)).block, (ad.add (i.toNat * 4)).off + 3, none⟩ = some (.bool (rd_T95 xs i).f3) ∧ (rd_T95 xs i).f1.length ≤ d ∧ (Kd.int .i64).C w a (rd_T95 xs i).f1.length (rd_T95 xs i).f1 ∧ (rd_T95 xs i).f2.length ≤ f ∧ (Kd.int .i64).C w b (rd_T95 xs i).f2.length (rd_T95 xs i).f2 := by
 obtain ⟨ad, c, e, _, hK, g⟩ := Kd.C_get h z95 i h0 h1
 have hc : ∀ j u, c[j]? = some u → w.cell? (ad.add (i.toNat * 4 + j)) = some u := g
 obtain ⟨a, d, b, f, rfl, k, g1, l, g2⟩ := k95_open hK
 exact ⟨ad, a, d, b, f, e, hc 0 _ rfl, by rw [← add_field _ _ 1 (by omega)]; exact hc 1 _ rfl, by rw [← add_field _ _ 2 (by omega)]; exact hc 2 _ rfl, by rw [← add_field _ _ 3 (by omega)]; exact hc 3 _ rfl, k, g1, l, g2⟩
theorem at_U95 {w : World} {A : Option Addr} {n : Nat} {xs : List S95} (h : Kd.C k95 w A n xs) (i : Int) (h0 : 0 ≤ i) (h1 : i < n) : ∃ ad a c b d, A = some ad ∧ w.cell? (ad.add (i.toNat * 4)) = some (.int .i64 (rd_T95 xs i).f0) ∧ w.cell? ⟨(ad.add (i.toNat * 4)).block, (ad.add (i.toNat * 4)).off + 1, none⟩ = some (.slice a (rd_T95 xs i).f1.length c) ∧ w.cell? ⟨(ad.add (i.toNat * 4)).block, (ad.add (i.toNat * 4)).off + 2, none⟩ = some (.slice b (rd_T95 xs i).f2.length d) ∧ w.cell? ⟨(ad.add (i.toNat * 4)).block, (ad.add (i.toNat * 4)).off + 3, none⟩ = some (.bool (rd_T95 xs i).f3) ∧ Aside0 ((rd_T95 xs i).f1.length ≤ c) ∧ Aside0 ((Kd.int .i64).C w a (rd_T95 xs i).f1.length (rd_T95 xs i).f1) ∧ Aside0 ((rd_T95 xs i).f2.length ≤ d) ∧ Aside0 ((Kd.int .i64).C w b (rd_T95 xs i).f2.length (rd_T95 xs i).f2) := by
 obtain ⟨e0_, e1_, e2_, e3_, e4_, h0_, h1_, h2_, h3_, h4_, h5_, h6_, h7_, h8_⟩ := at_T95 h i h0 h1
 exact ⟨e0_, e1_, e2_, e3_, e4_, h0_, h1_, h2_, h3_, h4_, ⟨h5_⟩, ⟨h6_⟩, ⟨h7_⟩, ⟨h8_⟩⟩
structure S50 where
 f0 : (List Int)
 f1 : (List Int)
 f2 : (List S95)
 f3 : Int
def z50 : S50 := ⟨([] : List Int), ([] : List Int), ([] : List S95), (0 : Int)⟩
def k50 : Kd S50 := Kd.iso (Kd.pair (Kd.slice 3 (Kd.int .i64)) (Kd.pair (Kd.slice 3 (Kd.int .i64)) (Kd.pair (Kd.slice 95 k95) (Kd.int .i64)))) (fun x : S50 => (x.f0, x.f1, x.f2, x.f3))
theorem k50_open {w : World} {x : S50} {cs : List Value} (h : k50.K w x cs) : ∃ a d b e c f, cs = [.slice a x.f0.length d, .slice b x.f1.length e, .slice c x.f2.length f, .int .i64 x.f3] ∧ x.f0.length ≤ d ∧ (Kd.int .i64).C w a x.f0.length x.f0 ∧ x.f1.length ≤ e ∧ (Kd.int .i64).C w b x.f1.length x.f1 ∧ x.f2.length ≤ f ∧ k95.C w c x.f2.length x.f2 := by
 obtain ⟨_, _, rfl, ⟨a, d, rfl, g, g0⟩, ⟨_, _, rfl, ⟨b, e, rfl, i, g1⟩, ⟨_, _, rfl, ⟨c, f, rfl, j, g2⟩, rfl⟩⟩⟩ := h
 exact ⟨a, d, b, e, c, f, rfl, g, g0, i, g1, j, g2⟩
theorem k50_openM {w : World} {base : Nat} {ok : Nat → Prop} {x : S50} {cs : List Value} (h : k50.M w base ok x cs) : ∃ a b c, cs = [a, b, c, .int .i64 x.f3] ∧ (Kd.int .i64).R 3 w base ok a x.f0 ∧ (Kd.int .i64).R 3 w base ok b x.f1 ∧ k95.R 95 w base ok c x.f2 := by
 obtain ⟨_, _, rfl, ⟨a, rfl, g0⟩, ⟨_, _, rfl, ⟨b, rfl, g1⟩, ⟨_, _, rfl, ⟨c, rfl, g2⟩, rfl⟩⟩⟩ := h
 exact ⟨a, b, c, rfl, g0, g1, g2⟩
theorem k50_mkM (w : World) (base : Nat) (ok : Nat → Prop) (x : S50) {c : Value} (g0 : (Kd.int .i64).R 3 w base ok c x.f0) {b : Value} (g1 : (Kd.int .i64).R 3 w base ok b x.f1) {a : Value} (g2 : k95.R 95 w base ok a x.f2) : k50.M w base ok x [c, b, a, .int .i64 x.f3] := ⟨[c], [b, a, .int .i64 x.f3], rfl, ⟨c, rfl, g0⟩, ⟨[b], [a, .int .i64 x.f3], rfl, ⟨b, rfl, g1⟩, ⟨[a], [.int .i64 x.f3], rfl, ⟨a, rfl, g2⟩, rfl⟩⟩⟩
def rd_T50 (xs : List S50) (i : Int) : S50 := xs.getD i.toNat z50
theorem at_T50 {w : World} {A : Option Addr} {n : Nat} {xs : List S50} (h : Kd.C k50 w A n xs) (i : Int) (h0 : 0 ≤ i) (h1 : i < n) : ∃ ad a f b g d k, A = some ad ∧ w.cell? (ad.add (i.toNat * 4)) = some (.slice a (rd_T50 xs i).f0.length f) ∧ w.cell? ⟨(ad.add (i.toNat * 4)).block, (ad.add (i.toNat * 4)).off + 1, none⟩ = some (.slice b (rd_T50 xs i).f1.length g) ∧ w.cell? ⟨(ad.add (i.toNat * 4)).block, (ad.add (i.toNat * 4)).off + 2, none⟩ = some (.slice d (rd_T50 xs i).f2.length k) ∧ w.cell? ⟨(ad.add (i.toNat * 4)).block, (ad.add (i.toNat * 4)).off + 3, none⟩ = some (.int .i64 (rd_T50 xs i).f3) ∧ (rd_T50 xs i).f0.length ≤ f ∧ (Kd.int .i64).C w a (rd_T50 xs i).f0.length (rd_T50 xs i).f0 ∧ (rd_T50 xs i).f1.length ≤ g ∧ (Kd.int .i64).C w b (rd_T50 xs i).f1.length (rd_T50 xs i).f1 ∧ (rd_T50 xs i).f2.length ≤ k ∧ k95.C w d (rd_T50 xs i).f2.length (rd_T50 xs i).f2 := by
 obtain ⟨ad, c, e, _, hK, l⟩ := Kd.C_get h z50 i h0 h1
 have hc : ∀ j u, c[j]? = some u → w.cell? (ad.add (i.toNat * 4 + j)) = some u := l
 obtain ⟨a, f, b, g, d, k, rfl, m, g0, o, g1, p, g2⟩ := k50_open hK
 exact ⟨ad, a, f, b, g, d, k, e, hc 0 _ rfl, by rw [← add_field _ _ 1 (by omega)]; exact hc 1 _ rfl, by rw [← add_field _ _ 2 (by omega)]; exact hc 2 _ rfl, by rw [← add_field _ _ 3 (by omega)]; exact hc 3 _ rfl, m, g0, o, g1, p, g2⟩
theorem at_U50 {w : World} {A : Option Addr} {n : Nat} {xs : List S50} (h : Kd.C k50 w A n xs) (i : Int) (h0 : 0 ≤ i) (h1 : i < n) : ∃ ad a d b e c f, A = some ad ∧ w.cell? (ad.add (i.toNat * 4)) = some (.slice a (rd_T50 xs i).f0.length d) ∧ w.cell? ⟨(ad.add (i.toNat * 4)).block, (ad.add (i.toNat * 4)).off + 1, none⟩ = some (.slice b (rd_T50 xs i).f1.length e) ∧ w.cell? ⟨(ad.add (i.toNat * 4)).block, (ad.add (i.toNat * 4)).off + 2, none⟩ = some (.slice c (rd_T50 xs i).f2.length f) ∧ w.cell? ⟨(ad.add (i.toNat * 4)).block, (ad.add (i.toNat * 4)).off + 3, none⟩ = some (.int .i64 (rd_T50 xs i).f3) ∧ Aside0 ((rd_T50 xs i).f0.length ≤ d) ∧ Aside0 ((Kd.int .i64).C w a (rd_T50 xs i).f0.length (rd_T50 xs i).f0) ∧ Aside0 ((rd_T50 xs i).f1.length ≤ e) ∧ Aside0 ((Kd.int .i64).C w b (rd_T50 xs i).f1.length (rd_T50 xs i).f1) ∧ Aside0 ((rd_T50 xs i).f2.length ≤ f) ∧ Aside0 (k95.C w c (rd_T50 xs i).f2.length (rd_T50 xs i).f2) := by
 obtain ⟨e0_, e1_, e2_, e3_, e4_, e5_, e6_, h0_, h1_, h2_, h3_, h4_, h5_, h6_, h7_, h8_, h9_, h10_⟩ := at_T50 h i h0 h1
 exact ⟨e0_, e1_, e2_, e3_, e4_, e5_, e6_, h0_, h1_, h2_, h3_, h4_, ⟨h5_⟩, ⟨h6_⟩, ⟨h7_⟩, ⟨h8_⟩, ⟨h9_⟩, ⟨h10_⟩⟩
structure S53 where
 f0 : Bool
 f1 : Int
 f2 : (List Int)
def z53 : S53 := ⟨false, (0 : Int), ([] : List Int)⟩
def k53 : Kd S53 := Kd.iso (Kd.pair Kd.bool (Kd.pair (Kd.int .i64) (Kd.slice 3 (Kd.int .i64)))) (fun x : S53 => (x.f0, x.f1, x.f2))
theorem k53_open {w : World} {x : S53} {cs : List Value} (h : k53.K w x cs) : ∃ a b, cs = [.bool x.f0, .int .i64 x.f1, .slice a x.f2.length b] ∧ x.f2.length ≤ b ∧ (Kd.int .i64).C w a x.f2.length x.f2 := by
 obtain ⟨_, _, rfl, rfl, ⟨_, _, rfl, rfl, ⟨a, b, rfl, c, g2⟩⟩⟩ := h
 exact ⟨a, b, rfl, c, g2⟩
theorem k53_openM {w : World} {base : Nat} {ok : Nat → Prop} {x : S53} {cs : List Value} (h : k53.M w base ok x cs) : ∃ a, cs = [.bool x.f0, .int .i64 x.f1, a] ∧ (Kd.int .i64).R 3 w base ok a x.f2 := by
 obtain ⟨_, _, rfl, rfl, ⟨_, _, rfl, rfl, ⟨a, rfl, g2⟩⟩⟩ := h
 exact ⟨a, rfl, g2⟩
theorem k53_mkM (w : World) (base : Nat) (ok : Nat → Prop) (x : S53) {a : Value} (g2 : (Kd.int .i64).R 3 w base ok a x.f2) : k53.M w base ok x [.bool x.f0, .int .i64 x.f1, a] := ⟨[.bool x.f0], [.int .i64 x.f1, a], rfl, rfl, ⟨[.int .i64 x.f1], [a], rfl, rfl, ⟨a, rfl, g2⟩⟩⟩
structure S55 where
 f0 : S53
 f1 : Int
 f2 : (List Int)
def z55 : S55 := ⟨z53, (0 : Int), ([] : List Int)⟩
def k55 : Kd S55 := Kd.iso (Kd.pair k53 (Kd.pair (Kd.int .i64) (Kd.slice 3 (Kd.int .i64)))) (fun x : S55 => (x.f0, x.f1, x.f2))
theorem k55_open {w : World} {x : S55} {cs : List Value} (h : k55.K w x cs) : ∃ a c b d, cs = [.bool x.f0.f0, .int .i64 x.f0.f1, .slice a x.f0.f2.length c, .int .i64 x.f1, .slice b x.f2.length d] ∧ x.f0.f2.length ≤ c ∧ (Kd.int .i64).C w a x.f0.f2.length x.f0.f2 ∧ x.f2.length ≤ d ∧ (Kd.int .i64).C w b x.f2.length x.f2 := by
 obtain ⟨_, _, rfl, g, ⟨_, _, rfl, rfl, ⟨b, d, rfl, f, g4⟩⟩⟩ := h
 obtain ⟨a, c, rfl, e, g2⟩ := k53_open g
 exact ⟨a, c, b, d, rfl, e, g2, f, g4⟩
theorem k55_openM {w : World} {base : Nat} {ok : Nat → Prop} {x : S55} {cs : List Value} (h : k55.M w base ok x cs) : ∃ a b, cs = [.bool x.f0.f0, .int .i64 x.f0.f1, a, .int .i64 x.f1, b] ∧ (Kd.int .i64).R 3 w base ok a x.f0.f2 ∧ (Kd.int .i64).R 3 w base ok b x.f2 := by
 obtain ⟨_, _, rfl, c, ⟨_, _, rfl, rfl, ⟨b, rfl, g4⟩⟩⟩ := h
 obtain ⟨a, rfl, g2⟩ := k53_openM c
 exact ⟨a, b, rfl, g2, g4⟩
theorem k55_mkM (w : World) (base : Nat) (ok : Nat → Prop) (x : S55) {b : Value} (g2 : (Kd.int .i64).R 3 w base ok b x.f0.f2) {a : Value} (g4 : (Kd.int .i64).R 3 w base ok a x.f2) : k55.M w base ok x [.bool x.f0.f0, .int .i64 x.f0.f1, b, .int .i64 x.f1, a] := ⟨[.bool x.f0.f0, .int .i64 x.f0.f1, b], [.int .i64 x.f1, a], rfl, (k53_mkM w base ok x.f0 g2), ⟨[.int .i64 x.f1], [a], rfl, rfl, ⟨a, rfl, g4⟩⟩⟩
def rd_T55 (xs : List S55) (i : Int) : S55 := xs.getD i.toNat z55
theorem at_T55 {w : World} {A : Option Addr} {n : Nat} {xs : List S55} (h : Kd.C k55 w A n xs) (i : Int) (h0 : 0 ≤ i) (h1 : i < n) : ∃ ad a d b f, A = some ad ∧ w.cell? (ad.add (i.toNat * 5)) = some (.bool (rd_T55 xs i).f0.f0) ∧ w.cell? ⟨(ad.add (i.toNat * 5)).block, (ad.add (i.toNat * 5)).off + 1, none⟩ = some (.int .i64 (rd_T55 xs i).f0.f1) ∧ w.cell? ⟨(ad.add (i.toNat * 5)).block, (ad.add (i.toNat * 5)).off + 2, none⟩ = some (.slice a (rd_T55 xs i).f0.f2.length d) ∧ w.cell? ⟨(ad.add (i.toNat * 5)).block, (ad.add (i.toNat * 5)).off + 3, none⟩ = some (.int .i64 (rd_T55 xs i).f1) ∧ w.cell? ⟨(ad.add (i.toNat * 5)).block, (ad.add (i.toNat * 5)).off + 4, none⟩ = some (.slice b (rd_T55 xs i).f2.length f) ∧ (rd_T55 xs i).f0.f2.length ≤ d ∧ (Kd.int .i64).C w a (rd_T55 xs i).f0.f2.length (rd_T55 xs i).f0.f2 ∧ (rd_T55 xs i).f2.length ≤ f ∧ (Kd.int .i64).C w b (rd_T55 xs i).f2.length (rd_T55 xs i).f2 := by
 obtain ⟨ad, c, e, _, hK, g⟩ := Kd.C_get h z55 i h0 h1
 have hc : ∀ j u, c[j]? = some u → w.cell? (ad.add (i.toNat * 5 + j)) = some u := g
 obtain ⟨a, d, b, f, rfl, k, g2, l, g4⟩ := k55_open hK
 exact ⟨ad, a, d, b, f, e, hc 0 _ rfl, by rw [← add_field _ _ 1 (by omega)]; exact hc 1 _ rfl, by rw [← add_field _ _ 2 (by omega)]; exact hc 2 _ rfl, by rw [← add_field _ _ 3 (by omega)]; exact hc 3 _ rfl, by rw [← add_field _ _ 4 (by omega)]; exact hc 4 _ rfl, k, g2, l, g4⟩
theorem at_U55 {w : World} {A : Option Addr} {n : Nat} {xs : List S55} (h : Kd.C k55 w A n xs) (i : Int) (h0 : 0 ≤ i) (h1 : i < n) : ∃ ad a c b d, A = some ad ∧ w.cell? (ad.add (i.toNat * 5)) = some (.bool (rd_T55 xs i).f0.f0) ∧ w.cell? ⟨(ad.add (i.toNat * 5)).block, (ad.add (i.toNat * 5)).off + 1, none⟩ = some (.int .i64 (rd_T55 xs i).f0.f1) ∧ w.cell? ⟨(ad.add (i.toNat * 5)).block, (ad.add (i.toNat * 5)).off + 2, none⟩ = some (.slice a (rd_T55 xs i).f0.f2.length c) ∧ w.cell? ⟨(ad.add (i.toNat * 5)).block, (ad.add (i.toNat * 5)).off + 3, none⟩ = some (.int .i64 (rd_T55 xs i).f1) ∧ w.cell? ⟨(ad.add (i.toNat * 5)).block, (ad.add (i.toNat * 5)).off + 4, none⟩ = some (.slice b (rd_T55 xs i).f2.length d) ∧ Aside0 ((rd_T55 xs i).f0.f2.length ≤ c) ∧ Aside0 ((Kd.int .i64).C w a (rd_T55 xs i).f0.f2.length (rd_T55 xs i).f0.f2) ∧ Aside0 ((rd_T55 xs i).f2.length ≤ d) ∧ Aside0 ((Kd.int .i64).C w b (rd_T55 xs i).f2.length (rd_T55 xs i).f2) := by
 obtain ⟨e0_, e1_, e2_, e3_, e4_, h0_, h1_, h2_, h3_, h4_, h5_, h6_, h7_, h8_, h9_⟩ := at_T55 h i h0 h1
 exact ⟨e0_, e1_, e2_, e3_, e4_, h0_, h1_, h2_, h3_, h4_, h5_, ⟨h6_⟩, ⟨h7_⟩, ⟨h8_⟩, ⟨h9_⟩⟩
structure S57 where
 f0 : Int
 f1 : Int
 f2 : Bool
 f3 : S55
def z57 : S57 := ⟨(0 : Int), (0 : Int), false, z55⟩
def k57 : Kd S57 := Kd.iso (Kd.pair (Kd.int .i64) (Kd.pair (Kd.int .i64) (Kd.pair Kd.bool k55))) (fun x : S57 => (x.f0, x.f1, x.f2, x.f3))
theorem k57_open {w : World} {x : S57} {cs : List Value} (h : k57.K w x cs) : ∃ a c b d, cs = [.int .i64 x.f0, .int .i64 x.f1, .bool x.f2, .bool x.f3.f0.f0, .int .i64 x.f3.f0.f1, .slice a x.f3.f0.f2.length c, .int .i64 x.f3.f1, .slice b x.f3.f2.length d] ∧ x.f3.f0.f2.length ≤ c ∧ (Kd.int .i64).C w a x.f3.f0.f2.length x.f3.f0.f2 ∧ x.f3.f2.length ≤ d ∧ (Kd.int .i64).C w b x.f3.f2.length x.f3.f2 := by
 obtain ⟨_, _, rfl, rfl, ⟨_, _, rfl, rfl, ⟨_, _, rfl, rfl, g⟩⟩⟩ := h
 obtain ⟨a, c, b, d, rfl, e, g5, f, g7⟩ := k55_open g
 exact ⟨a, c, b, d, rfl, e, g5, f, g7⟩
theorem k57_openM {w : World} {base : Nat} {ok : Nat → Prop} {x : S57} {cs : List Value} (h : k57.M w base ok x cs) : ∃ a b, cs = [.int .i64 x.f0, .int .i64 x.f1, .bool x.f2, .bool x.f3.f0.f0, .int .i64 x.f3.f0.f1, a, .int .i64 x.f3.f1, b] ∧ (Kd.int .i64).R 3 w base ok a x.f3.f0.f2 ∧ (Kd.int .i64).R 3 w base ok b x.f3.f2 := by
 obtain ⟨_, _, rfl, rfl, ⟨_, _, rfl, rfl, ⟨_, _, rfl, rfl, c⟩⟩⟩ := h
 obtain ⟨a, b, rfl, g5, g7⟩ := k55_openM c
 exact ⟨a, b, rfl, g5, g7⟩
theorem k57_mkM (w : World) (base : Nat) (ok : Nat → Prop) (x : S57) {a : Value} (g5 : (Kd.int .i64).R 3 w base ok a x.f3.f0.f2) {b : Value} (g7 : (Kd.int .i64).R 3 w base ok b x.f3.f2) : k57.M w base ok x [.int .i64 x.f0, .int .i64 x.f1, .bool x.f2, .bool x.f3.f0.f0, .int .i64 x.f3.f0.f1, a, .int .i64 x.f3.f1, b] := ⟨[.int .i64 x.f0], [.int .i64 x.f1, .bool x.f2, .bool x.f3.f0.f0, .int .i64 x.f3.f0.f1, a, .int .i64 x.f3.f1, b], rfl, rfl, ⟨[.int .i64 x.f1], [.bool x.f2, .bool x.f3.f0.f0, .int .i64 x.f3.f0.f1, a, .int .i64 x.f3.f1, b], rfl, rfl, ⟨[.bool x.f2], [.bool x.f3.f0.f0, .int .i64 x.f3.f0.f1, a, .int .i64 x.f3.f1, b], rfl, rfl, (k55_mkM w base ok x.f3 g5 g7)⟩⟩⟩
def rd_T57 (xs : List S57) (i : Int) : S57 := xs.getD i.toNat z57
theorem at_T57 {w : World} {A : Option Addr} {n : Nat} {xs : List S57} (h : Kd.C k57 w A n xs) (i : Int) (h0 : 0 ≤ i) (h1 : i < n) : ∃ ad a d b f, A = some ad ∧ w.cell? (ad.add (i.toNat * 8)) = some (.int .i64 (rd_T57 xs i).f0) ∧ w.cell? ⟨(ad.add (i.toNat * 8)).block, (ad.add (i.toNat * 8)).off + 1, none⟩ = some (.int .i64 (rd_T57 xs i).f1) ∧ w.cell? ⟨(ad.add (i.toNat * 8)).block, (ad.add (i.toNat * 8)).off + 2, none⟩ = some (.bool (rd_T57 xs i).f2) ∧ w.cell? ⟨(ad.add (i.toNat * 8)).block, (ad.add (i.toNat * 8)).off + 3, none⟩ = some (.bool (rd_T57 xs i).f3.f0.f0) ∧ w.cell? ⟨(ad.add (i.toNat * 8)).block, (ad.add (i.toNat * 8)).off + 4, none⟩ = some (.int .i64 (rd_T57 xs i).f3.f0.f1) ∧ w.cell? ⟨(ad.add (i.toNat * 8)).block, (ad.add (i.toNat * 8)).off + 5, none⟩ = some (.slice a (rd_T57 xs i).f3.f0.f2.length d) ∧ w.cell? ⟨(ad.add (i.toNat * 8)).block, (ad.add (i.toNat * 8)).off + 6, none⟩ = some (.int .i64 (rd_T57 xs i).f3.f1) ∧ w.cell? ⟨(ad.add (i.toNat * 8)).block, (ad.add (i.toNat * 8)).off + 7, none⟩ = some (.slice b (rd_T57 xs i).f3.f2.length f) ∧ (rd_T57 xs i).f3.f0.f2.length ≤ d ∧ (Kd.int .i64).C w a (rd_T57 xs i).f3.f0.f2.length (rd_T57 xs i).f3.f0.f2 ∧ (rd_T57 xs i).f3.f2.length ≤ f ∧ (Kd.int .i64).C w b (rd_T57 xs i).f3.f2.length (rd_T57 xs i).f3.f2 := by
 obtain ⟨ad, c, e, _, hK, g⟩ := Kd.C_get h z57 i h0 h1
 have hc : ∀ j u, c[j]? = some u → w.cell? (ad.add (i.toNat * 8 + j)) = some u := g
 obtain ⟨a, d, b, f, rfl, k, g5, l, g7⟩ := k57_open hK
 exact ⟨ad, a, d, b, f, e, hc 0 _ rfl, by rw [← add_field _ _ 1 (by omega)]; exact hc 1 _ rfl, by rw [← add_field _ _ 2 (by omega)]; exact hc 2 _ rfl, by rw [← add_field _ _ 3 (by omega)]; exact hc 3 _ rfl, by rw [← add_field _ _ 4 (by omega)]; exact hc 4 _ rfl, by rw [← add_field _ _ 5 (by omega)]; exact hc 5 _ rfl, by rw [← add_field _ _ 6 (by omega)]; exact hc 6 _ rfl, by rw [← add_field _ _ 7 (by omega)]; exact hc 7 _ rfl, k, g5, l, g7⟩
theorem at_U57 {w : World} {A : Option Addr} {n : Nat} {xs : List S57} (h : Kd.C k57 w A n xs) (i : Int) (h0 : 0 ≤ i) (h1 : i < n) : ∃ ad a c b d, A = some ad ∧ w.cell? (ad.add (i.toNat * 8)) = some (.int .i64 (rd_T57 xs i).f0) ∧ w.cell? ⟨(ad.add (i.toNat * 8)).block, (ad.add (i.toNat * 8)).off + 1, none⟩ = some (.int .i64 (rd_T57 xs i).f1) ∧ w.cell? ⟨(ad.add (i.toNat * 8)).block, (ad.add (i.toNat * 8)).off + 2, none⟩ = some (.bool (rd_T57 xs i).f2) ∧ w.cell? ⟨(ad.add (i.toNat * 8)).block, (ad.add (i.toNat * 8)).off + 3, none⟩ = some (.bool (rd_T57 xs i).f3.f0.f0) ∧ w.cell? ⟨(ad.add (i.toNat * 8)).block, (ad.add (i.toNat * 8)).off + 4, none⟩ = some (.int .i64 (rd_T57 xs i).f3.f0.f1) ∧ w.cell? ⟨(ad.add (i.toNat * 8)).block, (ad.add (i.toNat * 8)).off + 5, none⟩ = some (.slice a (rd_T57 xs i).f3.f0.f2.length c) ∧ w.cell? ⟨(ad.add (i.toNat * 8)).block, (ad.add (i.toNat * 8)).off + 6, none⟩ = some (.int .i64 (rd_T57 xs i).f3.f1) ∧ w.cell? ⟨(ad.add (i.toNat * 8)).block, (ad.add (i.toNat * 8)).off + 7, none⟩ = some (.slice b (rd_T57 xs i).f3.f2.length d) ∧ Aside0 ((rd_T57 xs i).f3.f0.f2.length ≤ c) ∧ Aside0 ((Kd.int .i64).C w a (rd_T57 xs i).f3.f0.f2.length (rd_T57 xs i).f3.f0.f2) ∧ Aside0 ((rd_T57 xs i).f3.f2.length ≤ d) ∧ Aside0 ((Kd.int .i64).C w b (rd_T57 xs i).f3.f2.length (rd_T57 xs i).f3.f2) := by
 obtain ⟨e0_, e1_, e2_, e3_, e4_, h0_, h1_, h2_, h3_, h4_, h5_, h6_, h7_, h8_, h9_, h10_, h11_, h12_⟩ := at_T57 h i h0 h1
 exact ⟨e0_, e1_, e2_, e3_, e4_, h0_, h1_, h2_, h3_, h4_, h5_, h6_, h7_, h8_, ⟨h9_⟩, ⟨h10_⟩, ⟨h11_⟩, ⟨h12_⟩⟩
structure S25 where
 f0 : Int
 f1 : (List Int)
 f2 : Int
 f3 : Bool
def k25 : Kd S25 := Kd.iso (Kd.pair (Kd.int .i64) (Kd.pair (Kd.slice 3 (Kd.int .i64)) (Kd.pair (Kd.int .i64) Kd.bool))) (fun x : S25 => (x.f0, x.f1, x.f2, x.f3))
theorem k25_open {w : World} {x : S25} {cs : List Value} (h : k25.K w x cs) : ∃ a b, cs = [.int .i64 x.f0, .slice a x.f1.length b, .int .i64 x.f2, .bool x.f3] ∧ x.f1.length ≤ b ∧ (Kd.int .i64).C w a x.f1.length x.f1 := by
 obtain ⟨_, _, rfl, rfl, ⟨_, _, rfl, ⟨a, b, rfl, c, g1⟩, ⟨_, _, rfl, rfl, rfl⟩⟩⟩ := h
 exact ⟨a, b, rfl, c, g1⟩
structure S29 where
 f0 : (List Int)
 f1 : (List Int)
 f2 : Int
 f3 : (List S85)
 f4 : S25
 f5 : Int
 f6 : Int
 f7 : (List S89)
 f8 : (List S92)
 f9 : Int
 f10 : Int
 f11 : Int
def k29 : Kd S29 := Kd.iso (Kd.pair (Kd.slice 3 (Kd.int .i64)) (Kd.pair (Kd.slice 3 (Kd.int .i64)) (Kd.pair (Kd.int .i64) (Kd.pair (Kd.slice 85 k85) (Kd.pair k25 (Kd.pair (Kd.int .i64) (Kd.pair (Kd.int .i64) (Kd.pair (Kd.slice 89 k89) (Kd.pair (Kd.slice 92 k92) (Kd.pair (Kd.int .i64) (Kd.pair (Kd.int .i64) (Kd.int .i64)))))))))))) (fun x : S29 => (x.f0, x.f1, x.f2, x.f3, x.f4, x.f5, x.f6, x.f7, x.f8, x.f9, x.f10, x.f11))
theorem k29_open {w : World} {x : S29} {cs : List Value} (h : k29.K w x cs) : ∃ e j f k g l i m a c b d, cs = [.slice e x.f0.length j, .slice f x.f1.length k, .int .i64 x.f2, .slice g x.f3.length l, .int .i64 x.f4.f0, .slice i x.f4.f1.length m, .int .i64 x.f4.f2, .bool x.f4.f3, .int .i64 x.f5, .int .i64 x.f6, .slice a x.f7.length c, .slice b x.f8.length d, .int .i64 x.f9, .int .i64 x.f10, .int .i64 x.f11] ∧ x.f0.length ≤ j ∧ (Kd.int .i64).C w e x.f0.length x.f0 ∧ x.f1.length ≤ k ∧ (Kd.int .i64).C w f x.f1.length x.f1 ∧ x.f3.length ≤ l ∧ k85.C w g x.f3.length x.f3 ∧ x.f4.f1.length ≤ m ∧ (Kd.int .i64).C w i x.f4.f1.length x.f4.f1 ∧ x.f7.length ≤ c ∧ k89.C w a x.f7.length x.f7 ∧ x.f8.length ≤ d ∧ k92.C w b x.f8.length x.f8 := by
 obtain ⟨_, _, rfl, ⟨e, j, rfl, p, g0⟩, ⟨_, _, rfl, ⟨f, k, rfl, q, g1⟩, ⟨_, _, rfl, rfl, ⟨_, _, rfl, ⟨g, l, rfl, r, g3⟩, ⟨_, _, rfl, t, ⟨_, _, rfl, rfl, ⟨_, _, rfl, rfl, ⟨_, _, rfl, ⟨a, c, rfl, n, g10⟩, ⟨_, _, rfl, ⟨b, d, rfl, o, g11⟩, ⟨_, _, rfl, rfl, ⟨_, _, rfl, rfl, rfl⟩⟩⟩⟩⟩⟩⟩⟩⟩⟩⟩ := h
 obtain ⟨i, m, rfl, s, g5⟩ := k25_open t
 exact ⟨e, j, f, k, g, l, i, m, a, c, b, d, rfl, p, g0, q, g1, r, g3, s, g5, n, g10, o, g11⟩
def Q117 (x : S117) : Prop := (Lit.int .i64 x.f0).wf = true ∧ (x.f1.length * 8 ≤ 140737488351232 ∧ ∀ y ∈ x.f1, (Lit.int .i64 y).wf = true) ∧ (x.f2.length * 8 ≤ 140737488351232 ∧ ∀ y ∈ x.f2, (Lit.int .i64 y).wf = true) ∧ True
def Q85 (x : S85) : Prop := (x.f0.length * 8 ≤ 140737488351232 ∧ ∀ y ∈ x.f0, (Lit.int .i64 y).wf = true) ∧ (x.f1.length * 8 ≤ 140737488351232 ∧ ∀ y ∈ x.f1, (Lit.int .i64 y).wf = true) ∧ (x.f2.length * 64 ≤ 140737488351232 ∧ ∀ y ∈ x.f2, Q117 y) ∧ (Lit.int .i64 x.f3).wf = true
def Q25 (x : S25) : Prop := (Lit.int .i64 x.f0).wf = true ∧ (x.f1.length * 8 ≤ 140737488351232 ∧ ∀ y ∈ x.f1, (Lit.int .i64 y).wf = true) ∧ (Lit.int .i64 x.f2).wf = true ∧ True
def Q87 (x : S87) : Prop := True ∧ (Lit.int .i64 x.f1).wf = true ∧ (x.f2.length * 8 ≤ 140737488351232 ∧ ∀ y ∈ x.f2, (Lit.int .i64 y).wf = true)
def Q89 (x : S89) : Prop := Q87 x.f0 ∧ (Lit.int .i64 x.f1).wf = true ∧ (x.f2.length * 8 ≤ 140737488351232 ∧ ∀ y ∈ x.f2, (Lit.int .i64 y).wf = true)
def Q92 (x : S92) : Prop := (Lit.int .i64 x.f0).wf = true ∧ (Lit.int .i64 x.f1).wf = true ∧ True ∧ Q89 x.f3
def Q29 (x : S29) : Prop := (x.f0.length * 8 ≤ 140737488351232 ∧ ∀ y ∈ x.f0, (Lit.int .i64 y).wf = true) ∧ (x.f1.length * 8 ≤ 140737488351232 ∧ ∀ y ∈ x.f1, (Lit.int .i64 y).wf = true) ∧ (Lit.int .i64 x.f2).wf = true ∧ (x.f3.length * 80 ≤ 140737488351232 ∧ ∀ y ∈ x.f3, Q85 y) ∧ Q25 x.f4 ∧ (Lit.int .i64 x.f5).wf = true ∧ (Lit.int .i64 x.f6).wf = true ∧ (x.f7.length * 72 ≤ 140737488351232 ∧ ∀ y ∈ x.f7, Q89 y) ∧ (x.f8.length * 96 ≤ 140737488351232 ∧ ∀ y ∈ x.f8, Q92 y) ∧ (Lit.int .i64 x.f9).wf = true ∧ (Lit.int .i64 x.f10).wf = true ∧ (Lit.int .i64 x.f11).wf = true
end Go.Proofs.Ytchnkakjjbfklaa.Print
