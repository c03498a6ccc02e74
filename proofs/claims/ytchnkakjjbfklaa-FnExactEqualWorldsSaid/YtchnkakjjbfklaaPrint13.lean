-- Written by programs of this session (printx.py, genew.py) out of the translation; Lean checks it.
import Derived.Test.YtchnkakjjbfklaaPrint0
import Derived.Test.YtchnkakjjbfklaaPrint2
import Derived.Test.YtchnkakjjbfklaaPrint4
import Derived.Test.YtchnkakjjbfklaaPrint6
import Derived.Test.YtchnkakjjbfklaaPrint8
import Derived.Test.YtchnkakjjbfklaaPrint12
namespace Go.Proofs.Ytchnkakjjbfklaa.Print
open Go.RowKit Go.Proofs.YtchnkakjjbfklaaW.PrintWords Go.Proofs.YtchnkakjjbfklaaW.PrintLast Go.Proofs.YtchnkakjjbfklaaW.PrintMore Go.Proofs.Ytchnkakjjbfklaa.Short
attribute [local go_sem] max2_int min2_int max_two min_two max_three min_three max_four min_four   -- for this text's walks alone
set_option linter.unusedVariables false
set_option maxHeartbeats 8000000
set_option maxRecDepth 100000
set_option linter.unusedSimpArgs false

abbrev TW : Type := List Int × List Int × Int × List S50 × Int × List Int × Int × Bool × Int × Int × List S55 × List S57 × Int × Int × Int
/-- What the slices of a world hold, read at w. -/
def WC (w : World) (a : Nat → Option Addr) (c : Nat → Nat) (p : TW) : Prop := Kd.C (Kd.int .i64) w (a 0) p.1.length p.1 ∧ p.1.length ≤ c 0 ∧ Kd.C (Kd.int .i64) w (a 1) p.2.1.length p.2.1 ∧ p.2.1.length ≤ c 1 ∧ Kd.C k50 w (a 3) p.2.2.2.1.length p.2.2.2.1 ∧ p.2.2.2.1.length ≤ c 3 ∧ Kd.C (Kd.int .i64) w (a 5) p.2.2.2.2.2.1.length p.2.2.2.2.2.1 ∧ p.2.2.2.2.2.1.length ≤ c 5 ∧ Kd.C k55 w (a 10) p.2.2.2.2.2.2.2.2.2.2.1.length p.2.2.2.2.2.2.2.2.2.2.1 ∧ p.2.2.2.2.2.2.2.2.2.2.1.length ≤ c 10 ∧ Kd.C k57 w (a 11) p.2.2.2.2.2.2.2.2.2.2.2.1.length p.2.2.2.2.2.2.2.2.2.2.2.1 ∧ p.2.2.2.2.2.2.2.2.2.2.2.1.length ≤ c 11
def WP (w : World) (a0 : Option Addr) (c0 : Nat) (l0 : List Int) (a1 : Option Addr) (c1 : Nat) (l1 : List Int) (a3 : Option Addr) (c3 : Nat) (l3 : List S85) (a5 : Option Addr) (c5 : Nat) (l5 : List Int) (a10 : Option Addr) (c10 : Nat) (l10 : List S89) (a11 : Option Addr) (c11 : Nat) (l11 : List S92) : Prop := Kd.C (Kd.int .i64) w a0 l0.length l0 ∧ l0.length ≤ c0 ∧ Kd.C (Kd.int .i64) w a1 l1.length l1 ∧ l1.length ≤ c1 ∧ Kd.C k85 w a3 l3.length l3 ∧ l3.length ≤ c3 ∧ Kd.C (Kd.int .i64) w a5 l5.length l5 ∧ l5.length ≤ c5 ∧ Kd.C k89 w a10 l10.length l10 ∧ l10.length ≤ c10 ∧ Kd.C k92 w a11 l11.length l11 ∧ l11.length ≤ c11
theorem WC.below {w w' : World} {a : Nat → Option Addr} {c : Nat → Nat} {p : TW} (h : WC w a c p) (hb : Below w.heap.size w w') : WC w' a c p := by
 obtain ⟨h0, n0, h1, n1, h3, n3, h5, n5, h10, n10, h11, n11⟩ := h
 exact ⟨Kd.C_below h0 hb, n0, Kd.C_below h1 hb, n1, Kd.C_below h3 hb, n3, Kd.C_below h5 hb, n5, Kd.C_below h10 hb, n10, Kd.C_below h11 hb, n11⟩
theorem szW_ {k : Nat} {xa0 : Option Addr} {xc0 : Nat} {x0 : List Int} {xa1 : Option Addr} {xc1 : Nat} {x1 : List Int} {x2 : Int} {xa3 : Option Addr} {xc3 : Nat} {x3 : List S85} {x4 : Int} {xa5 : Option Addr} {xc5 : Nat} {x5 : List Int} {x6 : Int} {x7 : Bool} {x8 : Int} {x9 : Int} {xa10 : Option Addr} {xc10 : Nat} {x10 : List S89} {xa11 : Option Addr} {xc11 : Nat} {x11 : List S92} {x12 : Int} {x13 : Int} {x14 : Int} {n r : Int} {w w1 : World} (h : WP w xa0 xc0 x0 xa1 xc1 x1 xa3 xc3 x3 xa5 xc5 x5 xa10 xc10 x10 xa11 xc11 x11) (hb : Below w.heap.size w w1) (e : laws_szWorld.f k x0 x1 x2 x3 x4 x5 x6 x7 x8 x9 x10 x11 x12 x13 x14 n = some r) : Calls Try.prog 5 #[.agg #[.slice xa0 x0.length xc0, .slice xa1 x1.length xc1, .int .i64 x2, .slice xa3 x3.length xc3, .int .i64 x4, .slice xa5 x5.length xc5, .int .i64 x6, .bool x7, .int .i64 x8, .int .i64 x9, .slice xa10 x10.length xc10, .slice xa11 x11.length xc11, .int .i64 x12, .int .i64 x13, .int .i64 x14], .int .i64 n] w1 fun e w' => e = .returned (.int .i64 r) ∧ Below w1.heap.size w1 w' := by
 obtain ⟨h0, n0, h1, n1, h3, n3, h5, n5, h10, n10, h11, n11⟩ := h
 exact laws_szWorld.calls k _ _ x0 _ _ x1 x2 _ _ x3 x4 _ _ x5 x6 x7 x8 x9 _ _ x10 _ _ x11 x12 x13 x14 n r w1 (Kd.C_below h0 hb) n0 (Kd.C_below h1 hb) n1 (Kd.C_below h3 hb) n3 (Kd.C_below h5 hb) n5 (Kd.C_below h10 hb) n10 (Kd.C_below h11 hb) n11 e
theorem toW_ {k : Nat} {xa0 : Option Addr} {xc0 : Nat} {x0 : List Int} {xa1 : Option Addr} {xc1 : Nat} {x1 : List Int} {x2 : Int} {xa3 : Option Addr} {xc3 : Nat} {x3 : List S85} {x4 : Int} {xa5 : Option Addr} {xc5 : Nat} {x5 : List Int} {x6 : Int} {x7 : Bool} {x8 : Int} {x9 : Int} {xa10 : Option Addr} {xc10 : Nat} {x10 : List S89} {xa11 : Option Addr} {xc11 : Nat} {x11 : List S92} {x12 : Int} {x13 : Int} {x14 : Int} {p : TW} {w w1 : World} (h : WP w xa0 xc0 x0 xa1 xc1 x1 xa3 xc3 x3 xa5 xc5 x5 xa10 xc10 x10 xa11 xc11 x11) (hb : Below w.heap.size w w1) (e : laws_toWorld.f k x0 x1 x2 x3 x4 x5 x6 x7 x8 x9 x10 x11 x12 x13 x14 = some p) : Calls Try.prog 7 #[.agg #[.slice xa0 x0.length xc0, .slice xa1 x1.length xc1, .int .i64 x2, .slice xa3 x3.length xc3, .int .i64 x4, .slice xa5 x5.length xc5, .int .i64 x6, .bool x7, .int .i64 x8, .int .i64 x9, .slice xa10 x10.length xc10, .slice xa11 x11.length xc11, .int .i64 x12, .int .i64 x13, .int .i64 x14]] w1 fun e w' => ∃ (a : Nat → Option Addr) (c : Nat → Nat), e = .returned (.agg #[.slice (a 0) p.1.length (c 0), .slice (a 1) p.2.1.length (c 1), .int .i64 p.2.2.1, .slice (a 3) p.2.2.2.1.length (c 3), .int .i64 p.2.2.2.2.1, .slice (a 5) p.2.2.2.2.2.1.length (c 5), .int .i64 p.2.2.2.2.2.2.1, .bool p.2.2.2.2.2.2.2.1, .int .i64 p.2.2.2.2.2.2.2.2.1, .int .i64 p.2.2.2.2.2.2.2.2.2.1, .slice (a 10) p.2.2.2.2.2.2.2.2.2.2.1.length (c 10), .slice (a 11) p.2.2.2.2.2.2.2.2.2.2.2.1.length (c 11), .int .i64 p.2.2.2.2.2.2.2.2.2.2.2.2.1, .int .i64 p.2.2.2.2.2.2.2.2.2.2.2.2.2.1, .int .i64 p.2.2.2.2.2.2.2.2.2.2.2.2.2.2]) ∧ WC w' a c p ∧ Below w1.heap.size w1 w' := by
 obtain ⟨h0, n0, h1, n1, h3, n3, h5, n5, h10, n10, h11, n11⟩ := h
 refine (laws_toWorld.calls k _ _ x0 _ _ x1 x2 _ _ x3 x4 _ _ x5 x6 x7 x8 x9 _ _ x10 _ _ x11 x12 x13 x14 p.1 p.2.1 p.2.2.1 p.2.2.2.1 p.2.2.2.2.1 p.2.2.2.2.2.1 p.2.2.2.2.2.2.1 p.2.2.2.2.2.2.2.1 p.2.2.2.2.2.2.2.2.1 p.2.2.2.2.2.2.2.2.2.1 p.2.2.2.2.2.2.2.2.2.2.1 p.2.2.2.2.2.2.2.2.2.2.2.1 p.2.2.2.2.2.2.2.2.2.2.2.2.1 p.2.2.2.2.2.2.2.2.2.2.2.2.2.1 p.2.2.2.2.2.2.2.2.2.2.2.2.2.2 w1 (Kd.C_below h0 hb) n0 (Kd.C_below h1 hb) n1 (Kd.C_below h3 hb) n3 (Kd.C_below h5 hb) n5 (Kd.C_below h10 hb) n10 (Kd.C_below h11 hb) n11 e).mono ?_
 rintro e w' ⟨v0, v1, v3, v5, v10, v11, rfl, g0, g1, g3, g5, g10, g11, hb'⟩
 obtain ⟨A0, C0, q0⟩ := Kd.R_slice g0
 subst q0
 obtain ⟨A1, C1, q1⟩ := Kd.R_slice g1
 subst q1
 obtain ⟨A3, C3, q3⟩ := Kd.R_slice g3
 subst q3
 obtain ⟨A5, C5, q5⟩ := Kd.R_slice g5
 subst q5
 obtain ⟨A10, C10, q10⟩ := Kd.S_slice g10
 subst q10
 obtain ⟨A11, C11, q11⟩ := Kd.S_slice g11
 subst q11
 exact ⟨fun i => ([A0, A1, none, A3, none, A5, none, none, none, none, A10, A11] : List (Option Addr)).getD i none, fun i => ([C0, C1, 0, C3, 0, C5, 0, 0, 0, 0, C10, C11] : List Nat).getD i 0, rfl, ⟨(Kd.R_reads' g0).2.2, (Kd.R_reads' g0).2.1, (Kd.R_reads' g1).2.2, (Kd.R_reads' g1).2.1, (Kd.R_reads' g3).2.2, (Kd.R_reads' g3).2.1, (Kd.R_reads' g5).2.2, (Kd.R_reads' g5).2.1, (Kd.S_reads' g10).2.2, (Kd.S_reads' g10).2.1, (Kd.S_reads' g11).2.2, (Kd.S_reads' g11).2.1⟩, hb'⟩
theorem eqW_ {k : Nat} {a a' : Nat → Option Addr} {c c' : Nat → Nat} {p q : TW} {r : Bool} {w : World} (h : WC w a c p) (h' : WC w a' c' q) (e : laws_eqWorld.f k p.1 p.2.1 p.2.2.1 p.2.2.2.1 p.2.2.2.2.1 p.2.2.2.2.2.1 p.2.2.2.2.2.2.1 p.2.2.2.2.2.2.2.1 p.2.2.2.2.2.2.2.2.1 p.2.2.2.2.2.2.2.2.2.1 p.2.2.2.2.2.2.2.2.2.2.1 p.2.2.2.2.2.2.2.2.2.2.2.1 p.2.2.2.2.2.2.2.2.2.2.2.2.1 p.2.2.2.2.2.2.2.2.2.2.2.2.2.1 p.2.2.2.2.2.2.2.2.2.2.2.2.2.2 q.1 q.2.1 q.2.2.1 q.2.2.2.1 q.2.2.2.2.1 q.2.2.2.2.2.1 q.2.2.2.2.2.2.1 q.2.2.2.2.2.2.2.1 q.2.2.2.2.2.2.2.2.1 q.2.2.2.2.2.2.2.2.2.1 q.2.2.2.2.2.2.2.2.2.2.1 q.2.2.2.2.2.2.2.2.2.2.2.1 q.2.2.2.2.2.2.2.2.2.2.2.2.1 q.2.2.2.2.2.2.2.2.2.2.2.2.2.1 q.2.2.2.2.2.2.2.2.2.2.2.2.2.2 = some r) : Calls Try.prog 9 #[.agg #[.slice (a 0) p.1.length (c 0), .slice (a 1) p.2.1.length (c 1), .int .i64 p.2.2.1, .slice (a 3) p.2.2.2.1.length (c 3), .int .i64 p.2.2.2.2.1, .slice (a 5) p.2.2.2.2.2.1.length (c 5), .int .i64 p.2.2.2.2.2.2.1, .bool p.2.2.2.2.2.2.2.1, .int .i64 p.2.2.2.2.2.2.2.2.1, .int .i64 p.2.2.2.2.2.2.2.2.2.1, .slice (a 10) p.2.2.2.2.2.2.2.2.2.2.1.length (c 10), .slice (a 11) p.2.2.2.2.2.2.2.2.2.2.2.1.length (c 11), .int .i64 p.2.2.2.2.2.2.2.2.2.2.2.2.1, .int .i64 p.2.2.2.2.2.2.2.2.2.2.2.2.2.1, .int .i64 p.2.2.2.2.2.2.2.2.2.2.2.2.2.2], .agg #[.slice (a' 0) q.1.length (c' 0), .slice (a' 1) q.2.1.length (c' 1), .int .i64 q.2.2.1, .slice (a' 3) q.2.2.2.1.length (c' 3), .int .i64 q.2.2.2.2.1, .slice (a' 5) q.2.2.2.2.2.1.length (c' 5), .int .i64 q.2.2.2.2.2.2.1, .bool q.2.2.2.2.2.2.2.1, .int .i64 q.2.2.2.2.2.2.2.2.1, .int .i64 q.2.2.2.2.2.2.2.2.2.1, .slice (a' 10) q.2.2.2.2.2.2.2.2.2.2.1.length (c' 10), .slice (a' 11) q.2.2.2.2.2.2.2.2.2.2.2.1.length (c' 11), .int .i64 q.2.2.2.2.2.2.2.2.2.2.2.2.1, .int .i64 q.2.2.2.2.2.2.2.2.2.2.2.2.2.1, .int .i64 q.2.2.2.2.2.2.2.2.2.2.2.2.2.2]] w fun e w' => e = .returned (.bool r) ∧ Below w.heap.size w w' := by
 obtain ⟨h0, n0, h1, n1, h3, n3, h5, n5, h10, n10, h11, n11⟩ := h
 obtain ⟨k0, m0, k1, m1, k3, m3, k5, m5, k10, m10, k11, m11⟩ := h'
 exact laws_eqWorld.calls k (a 0) (c 0) p.1 (a 1) (c 1) p.2.1 p.2.2.1 (a 3) (c 3) p.2.2.2.1 p.2.2.2.2.1 (a 5) (c 5) p.2.2.2.2.2.1 p.2.2.2.2.2.2.1 p.2.2.2.2.2.2.2.1 p.2.2.2.2.2.2.2.2.1 p.2.2.2.2.2.2.2.2.2.1 (a 10) (c 10) p.2.2.2.2.2.2.2.2.2.2.1 (a 11) (c 11) p.2.2.2.2.2.2.2.2.2.2.2.1 p.2.2.2.2.2.2.2.2.2.2.2.2.1 p.2.2.2.2.2.2.2.2.2.2.2.2.2.1 p.2.2.2.2.2.2.2.2.2.2.2.2.2.2 (a' 0) (c' 0) q.1 (a' 1) (c' 1) q.2.1 q.2.2.1 (a' 3) (c' 3) q.2.2.2.1 q.2.2.2.2.1 (a' 5) (c' 5) q.2.2.2.2.2.1 q.2.2.2.2.2.2.1 q.2.2.2.2.2.2.2.1 q.2.2.2.2.2.2.2.2.1 q.2.2.2.2.2.2.2.2.2.1 (a' 10) (c' 10) q.2.2.2.2.2.2.2.2.2.2.1 (a' 11) (c' 11) q.2.2.2.2.2.2.2.2.2.2.2.1 q.2.2.2.2.2.2.2.2.2.2.2.2.1 q.2.2.2.2.2.2.2.2.2.2.2.2.2.1 q.2.2.2.2.2.2.2.2.2.2.2.2.2.2 r w h0 n0 h1 n1 h3 n3 h5 n5 h10 n10 h11 n11 k0 m0 k1 m1 k3 m3 k5 m5 k10 m10 k11 m11 e
theorem speW_ {k : Nat} {a a' : Nat → Option Addr} {c c' : Nat → Nat} {p q : TW} {r : Bool} {w : World} (h : WC w a c p) (h' : WC w a' c' q) (e : spec_EqualWorlds.f k p.1 p.2.1 p.2.2.1 p.2.2.2.1 p.2.2.2.2.1 p.2.2.2.2.2.1 p.2.2.2.2.2.2.1 p.2.2.2.2.2.2.2.1 p.2.2.2.2.2.2.2.2.1 p.2.2.2.2.2.2.2.2.2.1 p.2.2.2.2.2.2.2.2.2.2.1 p.2.2.2.2.2.2.2.2.2.2.2.1 p.2.2.2.2.2.2.2.2.2.2.2.2.1 p.2.2.2.2.2.2.2.2.2.2.2.2.2.1 p.2.2.2.2.2.2.2.2.2.2.2.2.2.2 q.1 q.2.1 q.2.2.1 q.2.2.2.1 q.2.2.2.2.1 q.2.2.2.2.2.1 q.2.2.2.2.2.2.1 q.2.2.2.2.2.2.2.1 q.2.2.2.2.2.2.2.2.1 q.2.2.2.2.2.2.2.2.2.1 q.2.2.2.2.2.2.2.2.2.2.1 q.2.2.2.2.2.2.2.2.2.2.2.1 q.2.2.2.2.2.2.2.2.2.2.2.2.1 q.2.2.2.2.2.2.2.2.2.2.2.2.2.1 q.2.2.2.2.2.2.2.2.2.2.2.2.2.2 = some r) : Calls Try.prog 6 #[.agg #[.slice (a 0) p.1.length (c 0), .slice (a 1) p.2.1.length (c 1), .int .i64 p.2.2.1, .slice (a 3) p.2.2.2.1.length (c 3), .int .i64 p.2.2.2.2.1, .slice (a 5) p.2.2.2.2.2.1.length (c 5), .int .i64 p.2.2.2.2.2.2.1, .bool p.2.2.2.2.2.2.2.1, .int .i64 p.2.2.2.2.2.2.2.2.1, .int .i64 p.2.2.2.2.2.2.2.2.2.1, .slice (a 10) p.2.2.2.2.2.2.2.2.2.2.1.length (c 10), .slice (a 11) p.2.2.2.2.2.2.2.2.2.2.2.1.length (c 11), .int .i64 p.2.2.2.2.2.2.2.2.2.2.2.2.1, .int .i64 p.2.2.2.2.2.2.2.2.2.2.2.2.2.1, .int .i64 p.2.2.2.2.2.2.2.2.2.2.2.2.2.2], .agg #[.slice (a' 0) q.1.length (c' 0), .slice (a' 1) q.2.1.length (c' 1), .int .i64 q.2.2.1, .slice (a' 3) q.2.2.2.1.length (c' 3), .int .i64 q.2.2.2.2.1, .slice (a' 5) q.2.2.2.2.2.1.length (c' 5), .int .i64 q.2.2.2.2.2.2.1, .bool q.2.2.2.2.2.2.2.1, .int .i64 q.2.2.2.2.2.2.2.2.1, .int .i64 q.2.2.2.2.2.2.2.2.2.1, .slice (a' 10) q.2.2.2.2.2.2.2.2.2.2.1.length (c' 10), .slice (a' 11) q.2.2.2.2.2.2.2.2.2.2.2.1.length (c' 11), .int .i64 q.2.2.2.2.2.2.2.2.2.2.2.2.1, .int .i64 q.2.2.2.2.2.2.2.2.2.2.2.2.2.1, .int .i64 q.2.2.2.2.2.2.2.2.2.2.2.2.2.2]] w fun e w' => e = .returned (.bool r) ∧ Below w.heap.size w w' := by
 obtain ⟨h0, n0, h1, n1, h3, n3, h5, n5, h10, n10, h11, n11⟩ := h
 obtain ⟨k0, m0, k1, m1, k3, m3, k5, m5, k10, m10, k11, m11⟩ := h'
 exact spec_EqualWorlds.calls k (a 0) (c 0) p.1 (a 1) (c 1) p.2.1 p.2.2.1 (a 3) (c 3) p.2.2.2.1 p.2.2.2.2.1 (a 5) (c 5) p.2.2.2.2.2.1 p.2.2.2.2.2.2.1 p.2.2.2.2.2.2.2.1 p.2.2.2.2.2.2.2.2.1 p.2.2.2.2.2.2.2.2.2.1 (a 10) (c 10) p.2.2.2.2.2.2.2.2.2.2.1 (a 11) (c 11) p.2.2.2.2.2.2.2.2.2.2.2.1 p.2.2.2.2.2.2.2.2.2.2.2.2.1 p.2.2.2.2.2.2.2.2.2.2.2.2.2.1 p.2.2.2.2.2.2.2.2.2.2.2.2.2.2 (a' 0) (c' 0) q.1 (a' 1) (c' 1) q.2.1 q.2.2.1 (a' 3) (c' 3) q.2.2.2.1 q.2.2.2.2.1 (a' 5) (c' 5) q.2.2.2.2.2.1 q.2.2.2.2.2.2.1 q.2.2.2.2.2.2.2.1 q.2.2.2.2.2.2.2.2.1 q.2.2.2.2.2.2.2.2.2.1 (a' 10) (c' 10) q.2.2.2.2.2.2.2.2.2.2.1 (a' 11) (c' 11) q.2.2.2.2.2.2.2.2.2.2.2.1 q.2.2.2.2.2.2.2.2.2.2.2.2.1 q.2.2.2.2.2.2.2.2.2.2.2.2.2.1 q.2.2.2.2.2.2.2.2.2.2.2.2.2.2 r w h0 n0 h1 n1 h3 n3 h5 n5 h10 n10 h11 n11 k0 m0 k1 m1 k3 m3 k5 m5 k10 m10 k11 m11 e
theorem impW_ {k : Nat} {a a' : Nat → Option Addr} {c c' : Nat → Nat} {p q : TW} {r : Bool} {w : World} (h : WC w a c p) (h' : WC w a' c' q) (e : impl_EqualWorlds.f k p.1 p.2.1 p.2.2.1 p.2.2.2.1 p.2.2.2.2.1 p.2.2.2.2.2.1 p.2.2.2.2.2.2.1 p.2.2.2.2.2.2.2.1 p.2.2.2.2.2.2.2.2.1 p.2.2.2.2.2.2.2.2.2.1 p.2.2.2.2.2.2.2.2.2.2.1 p.2.2.2.2.2.2.2.2.2.2.2.1 p.2.2.2.2.2.2.2.2.2.2.2.2.1 p.2.2.2.2.2.2.2.2.2.2.2.2.2.1 p.2.2.2.2.2.2.2.2.2.2.2.2.2.2 q.1 q.2.1 q.2.2.1 q.2.2.2.1 q.2.2.2.2.1 q.2.2.2.2.2.1 q.2.2.2.2.2.2.1 q.2.2.2.2.2.2.2.1 q.2.2.2.2.2.2.2.2.1 q.2.2.2.2.2.2.2.2.2.1 q.2.2.2.2.2.2.2.2.2.2.1 q.2.2.2.2.2.2.2.2.2.2.2.1 q.2.2.2.2.2.2.2.2.2.2.2.2.1 q.2.2.2.2.2.2.2.2.2.2.2.2.2.1 q.2.2.2.2.2.2.2.2.2.2.2.2.2.2 = some r) : Calls Try.prog 8 #[.agg #[.slice (a 0) p.1.length (c 0), .slice (a 1) p.2.1.length (c 1), .int .i64 p.2.2.1, .slice (a 3) p.2.2.2.1.length (c 3), .int .i64 p.2.2.2.2.1, .slice (a 5) p.2.2.2.2.2.1.length (c 5), .int .i64 p.2.2.2.2.2.2.1, .bool p.2.2.2.2.2.2.2.1, .int .i64 p.2.2.2.2.2.2.2.2.1, .int .i64 p.2.2.2.2.2.2.2.2.2.1, .slice (a 10) p.2.2.2.2.2.2.2.2.2.2.1.length (c 10), .slice (a 11) p.2.2.2.2.2.2.2.2.2.2.2.1.length (c 11), .int .i64 p.2.2.2.2.2.2.2.2.2.2.2.2.1, .int .i64 p.2.2.2.2.2.2.2.2.2.2.2.2.2.1, .int .i64 p.2.2.2.2.2.2.2.2.2.2.2.2.2.2], .agg #[.slice (a' 0) q.1.length (c' 0), .slice (a' 1) q.2.1.length (c' 1), .int .i64 q.2.2.1, .slice (a' 3) q.2.2.2.1.length (c' 3), .int .i64 q.2.2.2.2.1, .slice (a' 5) q.2.2.2.2.2.1.length (c' 5), .int .i64 q.2.2.2.2.2.2.1, .bool q.2.2.2.2.2.2.2.1, .int .i64 q.2.2.2.2.2.2.2.2.1, .int .i64 q.2.2.2.2.2.2.2.2.2.1, .slice (a' 10) q.2.2.2.2.2.2.2.2.2.2.1.length (c' 10), .slice (a' 11) q.2.2.2.2.2.2.2.2.2.2.2.1.length (c' 11), .int .i64 q.2.2.2.2.2.2.2.2.2.2.2.2.1, .int .i64 q.2.2.2.2.2.2.2.2.2.2.2.2.2.1, .int .i64 q.2.2.2.2.2.2.2.2.2.2.2.2.2.2]] w fun e w' => e = .returned (.bool r) ∧ Below w.heap.size w w' := by
 obtain ⟨h0, n0, h1, n1, h3, n3, h5, n5, h10, n10, h11, n11⟩ := h
 obtain ⟨k0, m0, k1, m1, k3, m3, k5, m5, k10, m10, k11, m11⟩ := h'
 exact impl_EqualWorlds.calls k (a 0) (c 0) p.1 (a 1) (c 1) p.2.1 p.2.2.1 (a 3) (c 3) p.2.2.2.1 p.2.2.2.2.1 (a 5) (c 5) p.2.2.2.2.2.1 p.2.2.2.2.2.2.1 p.2.2.2.2.2.2.2.1 p.2.2.2.2.2.2.2.2.1 p.2.2.2.2.2.2.2.2.2.1 (a 10) (c 10) p.2.2.2.2.2.2.2.2.2.2.1 (a 11) (c 11) p.2.2.2.2.2.2.2.2.2.2.2.1 p.2.2.2.2.2.2.2.2.2.2.2.2.1 p.2.2.2.2.2.2.2.2.2.2.2.2.2.1 p.2.2.2.2.2.2.2.2.2.2.2.2.2.2 (a' 0) (c' 0) q.1 (a' 1) (c' 1) q.2.1 q.2.2.1 (a' 3) (c' 3) q.2.2.2.1 q.2.2.2.2.1 (a' 5) (c' 5) q.2.2.2.2.2.1 q.2.2.2.2.2.2.1 q.2.2.2.2.2.2.2.1 q.2.2.2.2.2.2.2.2.1 q.2.2.2.2.2.2.2.2.2.1 (a' 10) (c' 10) q.2.2.2.2.2.2.2.2.2.2.1 (a' 11) (c' 11) q.2.2.2.2.2.2.2.2.2.2.2.1 q.2.2.2.2.2.2.2.2.2.2.2.2.1 q.2.2.2.2.2.2.2.2.2.2.2.2.2.1 q.2.2.2.2.2.2.2.2.2.2.2.2.2.2 r w h0 n0 h1 n1 h3 n3 h5 n5 h10 n10 h11 n11 k0 m0 k1 m1 k3 m3 k5 m5 k10 m10 k11 m11 e
theorem row29_ : ∃ fs, Try.prog.underlying 29 = some (.struct fs) := ⟨_, Try.underlying29⟩
theorem row37_ : ∃ fs, Try.prog.underlying 37 = some (.struct fs) := ⟨_, Try.underlying37⟩
theorem siz29_ : (Try.prog.info? 29).map (·.size) = some 15 := by kernel_rfl
theorem siz37_ : (Try.prog.info? 37).map (·.size) = some 15 := by kernel_rfl
section
variable {ops : Array Oper} {rest : List Oper} {o : Oper} {a : Act} {Q : Exit → Act → World → Prop} {w : World} {g : Nat} {cs : Array Value} {ty : TypeId} {p : Tmp}
theorem gld_ {t : TypeId} {p : Tmp} (_ho : o.op = .load t (.tmp p)) (h : wpList Try.prog ops Q (o :: rest) a w) : wpList Try.prog ops Q (o :: rest) a w := h
/-- A struct's load, whole. -/
theorem lrun_ (hr : ∃ fs, Try.prog.underlying ty = some (.struct fs)) (hs : (Try.prog.info? ty).map (·.size) = some 15) (hb : w.heap[g]? = some (.cells cs ty (0, 0))) (hx : a.eval (.tmp p) = .pointer (some ⟨g, 0, none⟩)) (ho : o.op = .load ty (.tmp p)) (hn : cs.size = 15) : (execOp a.eval o).run Try.prog w = .ok (.value (.agg cs)) w := by
 obtain ⟨fs, hu⟩ := hr
 unfold execOp
 simp only [ho, hx, Instr.loadAt, Instr.sureAddr, Sem.run_bind, Sem.run_pure, Result.andThen_ok, run_loadVar_row w g ty ty cs (0, 0) (.struct fs) hb hu rfl (hn ▸ hs)]
theorem ldr_ (hr : ∃ fs, Try.prog.underlying ty = some (.struct fs)) (hs : (Try.prog.info? ty).map (·.size) = some 15) (hb : w.heap[g]? = some (.cells cs ty (0, 0))) (h : wpList Try.prog ops Q rest (a.put o.dst (.agg cs)) w) (hgd : o.guard = none) (ho : o.op = .load ty (.tmp p)) (hx : a.eval (.tmp p) = .pointer (some ⟨g, 0, none⟩)) (hn : cs.size = 15) : wpList Try.prog ops Q (o :: rest) a w := by
 obtain ⟨fs, hu⟩ := hr
 exact wpList_load_row hgd ty (.tmp p) ho g hx ty cs (0, 0) (.struct fs) hb hu rfl (hn ▸ hs) h
theorem frow_ {w0 : World} (h : Below w0.heap.size w0 w) (hg : w0.heap.size ≤ g) : Below w0.heap.size w0 (w.setRow g cs) := ⟨h.os, h.tape, h.output, by rw [size_setRow]; exact h.size, fun k hk => (setRow_other w g k cs (by omega)).trans (h.block k hk)⟩
/-- A struct's store into its own box, whole: the world behind it gets a letter. -/
theorem str_ {q : Tmp} {old : Array Value} (hs : (Try.prog.info? ty).map (·.size) = some 15) (hb : w.heap[g]? = some (.cells old ty (0, 0))) (h : ∀ w', w'.heap[g]? = some (.cells cs ty (0, 0)) → (∀ g' o', g' ≠ g → w.heap[g']? = some o' → w'.heap[g']? = some o') → (∀ w0 : World, w0.heap.size ≤ g → Below w0.heap.size w0 w → Below w0.heap.size w0 w') → wpList Try.prog ops Q rest a w') (hgd : o.guard = none) (hN : o.dst = none) (ho : o.op = .store ty (.tmp p) (.tmp q)) (hx : a.eval (.tmp p) = .pointer (some ⟨g, 0, none⟩)) (hy : a.eval (.tmp q) = .agg cs) (hn : cs.size = 15) (hm : old.size = 15) (h1 : cs.all (·.oneCell') = true) : wpList Try.prog ops Q (o :: rest) a w := by
 refine wpList_store_row hgd ty (.tmp p) (.tmp q) ho g cs hx hy ty old hb (hn ▸ hs) (hm.trans hn.symm) h1 ?_
 rw [hN]
 exact h _ (setRow_heap w g old cs ty (0, 0) hb) (fun g' o' hne hb' => (setRow_other w g g' cs hne).trans hb') (fun w0 hg hB => frow_ hB hg)
end
/-! ### laws_FnExactEqualWorlds: function 3 -/
def laws_FnExactEqualWorlds.f (k : Nat) (E : List Int) (F : List Int) (s : Int) (G : List (S85)) (t : Int) (H : List Int) (u : Int) (v : Bool) (w : Int) (x : Int) (o : List (S89)) (p : List (S92)) (h : Int) (i : Int) (j : Int) (I : List Int) (J : List Int) (y : Int) (K : List (S85)) (z : Int) (L : List Int) (A : Int) (B : Bool) (C : Int) (D : Int) (q : List (S89)) (r : List (S92)) (l : Int) (m : Int) (n : Int) : Option (Bool) := (laws_szWorld.f k E F s G t H u v w x o p h i j 1048576).bind fun M => (if M < 0 then (some true) else ((laws_szWorld.f k I J y K z L A B C D q r l m n M).bind fun N => (if N < 0 then (some true) else ((laws_toWorld.f k E F s G t H u v w x o p h i j).bind fun c => ((laws_toWorld.f k I J y K z L A B C D q r l m n).bind fun d => ((spec_EqualWorlds.f k c.1 c.2.1 c.2.2.1 c.2.2.2.1 c.2.2.2.2.1 c.2.2.2.2.2.1 c.2.2.2.2.2.2.1 c.2.2.2.2.2.2.2.1 c.2.2.2.2.2.2.2.2.1 c.2.2.2.2.2.2.2.2.2.1 c.2.2.2.2.2.2.2.2.2.2.1 c.2.2.2.2.2.2.2.2.2.2.2.1 c.2.2.2.2.2.2.2.2.2.2.2.2.1 c.2.2.2.2.2.2.2.2.2.2.2.2.2.1 c.2.2.2.2.2.2.2.2.2.2.2.2.2.2 d.1 d.2.1 d.2.2.1 d.2.2.2.1 d.2.2.2.2.1 d.2.2.2.2.2.1 d.2.2.2.2.2.2.1 d.2.2.2.2.2.2.2.1 d.2.2.2.2.2.2.2.2.1 d.2.2.2.2.2.2.2.2.2.1 d.2.2.2.2.2.2.2.2.2.2.1 d.2.2.2.2.2.2.2.2.2.2.2.1 d.2.2.2.2.2.2.2.2.2.2.2.2.1 d.2.2.2.2.2.2.2.2.2.2.2.2.2.1 d.2.2.2.2.2.2.2.2.2.2.2.2.2.2).bind fun O => ((laws_toWorld.f k E F s G t H u v w x o p h i j).bind fun a => ((laws_toWorld.f k I J y K z L A B C D q r l m n).bind fun b => ((impl_EqualWorlds.f k a.1 a.2.1 a.2.2.1 a.2.2.2.1 a.2.2.2.2.1 a.2.2.2.2.2.1 a.2.2.2.2.2.2.1 a.2.2.2.2.2.2.2.1 a.2.2.2.2.2.2.2.2.1 a.2.2.2.2.2.2.2.2.2.1 a.2.2.2.2.2.2.2.2.2.2.1 a.2.2.2.2.2.2.2.2.2.2.2.1 a.2.2.2.2.2.2.2.2.2.2.2.2.1 a.2.2.2.2.2.2.2.2.2.2.2.2.2.1 a.2.2.2.2.2.2.2.2.2.2.2.2.2.2 b.1 b.2.1 b.2.2.1 b.2.2.2.1 b.2.2.2.2.1 b.2.2.2.2.2.1 b.2.2.2.2.2.2.1 b.2.2.2.2.2.2.2.1 b.2.2.2.2.2.2.2.2.1 b.2.2.2.2.2.2.2.2.2.1 b.2.2.2.2.2.2.2.2.2.2.1 b.2.2.2.2.2.2.2.2.2.2.2.1 b.2.2.2.2.2.2.2.2.2.2.2.2.1 b.2.2.2.2.2.2.2.2.2.2.2.2.2.1 b.2.2.2.2.2.2.2.2.2.2.2.2.2.2).bind fun P => (if (P != O) = true then (some false) else ((laws_toWorld.f k E F s G t H u v w x o p h i j).bind fun e => ((laws_eqWorld.f k a.1 a.2.1 a.2.2.1 a.2.2.2.1 a.2.2.2.2.1 a.2.2.2.2.2.1 a.2.2.2.2.2.2.1 a.2.2.2.2.2.2.2.1 a.2.2.2.2.2.2.2.2.1 a.2.2.2.2.2.2.2.2.2.1 a.2.2.2.2.2.2.2.2.2.2.1 a.2.2.2.2.2.2.2.2.2.2.2.1 a.2.2.2.2.2.2.2.2.2.2.2.2.1 a.2.2.2.2.2.2.2.2.2.2.2.2.2.1 a.2.2.2.2.2.2.2.2.2.2.2.2.2.2 e.1 e.2.1 e.2.2.1 e.2.2.2.1 e.2.2.2.2.1 e.2.2.2.2.2.1 e.2.2.2.2.2.2.1 e.2.2.2.2.2.2.2.1 e.2.2.2.2.2.2.2.2.1 e.2.2.2.2.2.2.2.2.2.1 e.2.2.2.2.2.2.2.2.2.2.1 e.2.2.2.2.2.2.2.2.2.2.2.1 e.2.2.2.2.2.2.2.2.2.2.2.2.1 e.2.2.2.2.2.2.2.2.2.2.2.2.2.1 e.2.2.2.2.2.2.2.2.2.2.2.2.2.2).bind fun Q => (if Q = true then ((laws_toWorld.f k I J y K z L A B C D q r l m n).bind fun g => ((laws_eqWorld.f k b.1 b.2.1 b.2.2.1 b.2.2.2.1 b.2.2.2.2.1 b.2.2.2.2.2.1 b.2.2.2.2.2.2.1 b.2.2.2.2.2.2.2.1 b.2.2.2.2.2.2.2.2.1 b.2.2.2.2.2.2.2.2.2.1 b.2.2.2.2.2.2.2.2.2.2.1 b.2.2.2.2.2.2.2.2.2.2.2.1 b.2.2.2.2.2.2.2.2.2.2.2.2.1 b.2.2.2.2.2.2.2.2.2.2.2.2.2.1 b.2.2.2.2.2.2.2.2.2.2.2.2.2.2 g.1 g.2.1 g.2.2.1 g.2.2.2.1 g.2.2.2.2.1 g.2.2.2.2.2.1 g.2.2.2.2.2.2.1 g.2.2.2.2.2.2.2.1 g.2.2.2.2.2.2.2.2.1 g.2.2.2.2.2.2.2.2.2.1 g.2.2.2.2.2.2.2.2.2.2.1 g.2.2.2.2.2.2.2.2.2.2.2.1 g.2.2.2.2.2.2.2.2.2.2.2.2.1 g.2.2.2.2.2.2.2.2.2.2.2.2.2.1 g.2.2.2.2.2.2.2.2.2.2.2.2.2.2).bind fun R => (if R = true then (some true) else (some false)))) else (some false))))))))))))))
theorem laws_FnExactEqualWorlds.mono : ∀ w x y z A B C D E F a b c d e g h i j l m n o p q r s t u v k, LeO (laws_FnExactEqualWorlds.f k w x y z A B C D E F a b c d e g h i j l m n o p q r s t u v) (laws_FnExactEqualWorlds.f (k + 1) w x y z A B C D E F a b c d e g h i j l m n o p q r s t u v) := by
 intro w x y z A B C D E F a b c d e g h i j l m n o p q r s t u v k
 unfold laws_FnExactEqualWorlds.f
 exact mo5_ impl_EqualWorlds.mono laws_eqWorld.mono laws_szWorld.mono laws_toWorld.mono spec_EqualWorlds.mono
theorem laws_FnExactEqualWorlds.calls (k : Nat) (xa0 : Option Addr) (xc0 : Nat) (x0 : List Int) (xa1 : Option Addr) (xc1 : Nat) (x1 : List Int) (x2 : Int) (xa3 : Option Addr) (xc3 : Nat) (x3 : List S85) (x4 : Int) (xa5 : Option Addr) (xc5 : Nat) (x5 : List Int) (x6 : Int) (x7 : Bool) (x8 : Int) (x9 : Int) (xa10 : Option Addr) (xc10 : Nat) (x10 : List S89) (xa11 : Option Addr) (xc11 : Nat) (x11 : List S92) (x12 : Int) (x13 : Int) (x14 : Int) (ya0 : Option Addr) (yc0 : Nat) (y0 : List Int) (ya1 : Option Addr) (yc1 : Nat) (y1 : List Int) (y2 : Int) (ya3 : Option Addr) (yc3 : Nat) (y3 : List S85) (y4 : Int) (ya5 : Option Addr) (yc5 : Nat) (y5 : List Int) (y6 : Int) (y7 : Bool) (y8 : Int) (y9 : Int) (ya10 : Option Addr) (yc10 : Nat) (y10 : List S89) (ya11 : Option Addr) (yc11 : Nat) (y11 : List S92) (y12 : Int) (y13 : Int) (y14 : Int) (r : Bool) (w : World) (hx0 : Kd.C (Kd.int .i64) w xa0 x0.length x0) (nx0 : x0.length ≤ xc0) (hx1 : Kd.C (Kd.int .i64) w xa1 x1.length x1) (nx1 : x1.length ≤ xc1) (hx3 : Kd.C k85 w xa3 x3.length x3) (nx3 : x3.length ≤ xc3) (hx5 : Kd.C (Kd.int .i64) w xa5 x5.length x5) (nx5 : x5.length ≤ xc5) (hx10 : Kd.C k89 w xa10 x10.length x10) (nx10 : x10.length ≤ xc10) (hx11 : Kd.C k92 w xa11 x11.length x11) (nx11 : x11.length ≤ xc11) (hy0 : Kd.C (Kd.int .i64) w ya0 y0.length y0) (ny0 : y0.length ≤ yc0) (hy1 : Kd.C (Kd.int .i64) w ya1 y1.length y1) (ny1 : y1.length ≤ yc1) (hy3 : Kd.C k85 w ya3 y3.length y3) (ny3 : y3.length ≤ yc3) (hy5 : Kd.C (Kd.int .i64) w ya5 y5.length y5) (ny5 : y5.length ≤ yc5) (hy10 : Kd.C k89 w ya10 y10.length y10) (ny10 : y10.length ≤ yc10) (hy11 : Kd.C k92 w ya11 y11.length y11) (ny11 : y11.length ≤ yc11) (h : laws_FnExactEqualWorlds.f k x0 x1 x2 x3 x4 x5 x6 x7 x8 x9 x10 x11 x12 x13 x14 y0 y1 y2 y3 y4 y5 y6 y7 y8 y9 y10 y11 y12 y13 y14 = some r) :
 Calls Try.prog 3 #[.agg #[.slice xa0 x0.length xc0, .slice xa1 x1.length xc1, .int .i64 x2, .slice xa3 x3.length xc3, .int .i64 x4, .slice xa5 x5.length xc5, .int .i64 x6, .bool x7, .int .i64 x8, .int .i64 x9, .slice xa10 x10.length xc10, .slice xa11 x11.length xc11, .int .i64 x12, .int .i64 x13, .int .i64 x14], .agg #[.slice ya0 y0.length yc0, .slice ya1 y1.length yc1, .int .i64 y2, .slice ya3 y3.length yc3, .int .i64 y4, .slice ya5 y5.length yc5, .int .i64 y6, .bool y7, .int .i64 y8, .int .i64 y9, .slice ya10 y10.length yc10, .slice ya11 y11.length yc11, .int .i64 y12, .int .i64 y13, .int .i64 y14]] w fun e w' => e = .returned (.bool r) ∧ Below w.heap.size w w' := by
 have hu29 := Try.underlying29
 have hu37 := Try.underlying37
 have PX : Aside0 (WP w xa0 xc0 x0 xa1 xc1 x1 xa3 xc3 x3 xa5 xc5 x5 xa10 xc10 x10 xa11 xc11 x11) := ⟨⟨hx0, nx0, hx1, nx1, hx3, nx3, hx5, nx5, hx10, nx10, hx11, nx11⟩⟩
 have PY : Aside0 (WP w ya0 yc0 y0 ya1 yc1 y1 ya3 yc3 y3 ya5 yc5 y5 ya10 yc10 y10 ya11 yc11 y11) := ⟨⟨hy0, ny0, hy1, ny1, hy3, ny3, hy5, ny5, hy10, ny10, hy11, ny11⟩⟩
 clear hx0 nx0 hx1 nx1 hx3 nx3 hx5 nx5 hx10 nx10 hx11 nx11 hy0 ny0 hy1 ny1 hy3 ny3 hy5 ny5 hy10 ny10 hy11 ny11
 have HB := Q_ (Below.refl w.heap.size w)
 unfold laws_FnExactEqualWorlds.f at h
 have HS := Q_ h
 clear h
 go_enter Try.func3, Try.ntmps3
 go_upto_region 2 with (first | ((with_reducible refine gate_dst (N := 2) rfl ?_); refine bx_ 2 #[.slice xa0 x0.length xc0, .slice xa1 x1.length xc1, .int .i64 x2, .slice xa3 x3.length xc3, .int .i64 x4, .slice xa5 x5.length xc5, .int .i64 x6, .bool x7, .int .i64 x8, .int .i64 x9, .slice xa10 x10.length xc10, .slice xa11 x11.length xc11, .int .i64 x12, .int .i64 x13, .int .i64 x14] 29 ?_; intro D hg wb hbox hb; have GBXHB := Q_ (gw_ (w := w) hg HB.1); replace HB := Q_ (below_step HB.1 hb); have BX := Q_ hbox; clear hb hbox hg) | ((with_reducible refine gate_dst (N := 3) rfl ?_); refine bx_ 3 #[.slice ya0 y0.length yc0, .slice ya1 y1.length yc1, .int .i64 y2, .slice ya3 y3.length yc3, .int .i64 y4, .slice ya5 y5.length yc5, .int .i64 y6, .bool y7, .int .i64 y8, .int .i64 y9, .slice ya10 y10.length yc10, .slice ya11 y11.length yc11, .int .i64 y12, .int .i64 y13, .int .i64 y14] 29 ?_; intro E hg wb hbox hb; have GBYHB := Q_ (gw_ (w := w) hg HB.1); replace BX := Q_ (bb_ BX.1 hb); replace HB := Q_ (below_step HB.1 hb); have BY := Q_ hbox; clear hb hbox hg))
 (try simp only [Act.put, s1_, s2_, s3_])
 obtain ⟨ct, Ect, H⟩ := bs_ HS.1
 (try dsimp only at H)
 replace HS := Q_ H
 clear H
 go_upto_if 14 with (first | ((with_reducible refine gld_ (t := 29) (p := 2) rfl ?_); refine ldr_ (p := 2) row29_ siz29_ BX.1 ?_ rfl rfl rfl rfl) | ((with_reducible refine gate_callee (f := 5) rfl ?_); refine gl_ (some 12) Try.func5 #[.agg #[.slice xa0 x0.length xc0, .slice xa1 x1.length xc1, .int .i64 x2, .slice xa3 x3.length xc3, .int .i64 x4, .slice xa5 x5.length xc5, .int .i64 x6, .bool x7, .int .i64 x8, .int .i64 x9, .slice xa10 x10.length xc10, .slice xa11 x11.length xc11, .int .i64 x12, .int .i64 x13, .int .i64 x14], .int .i64 1048576] ?_; (with_reducible refine (szW_ PX.1 (pb_ HB.1) Ect.1).mono ?_); rintro e wn ⟨rfl, hb⟩; refine ⟨_, rfl, ?_⟩; replace BX := Q_ (bb_ BX.1 hb); replace BY := Q_ (bb_ BY.1 hb); replace HB := Q_ (below_step HB.1 hb); clear hb))
 (try simp only [Act.put, s1_, s2_, s3_])
 by_cases cj : ct < 0
 ·have H := HS.1
  rw [if_pos cj] at H
  have ck := decide_eq_true cj
  clear cj
  (first | rw [ck] | (simp only [i64_w, i32_w]; rw [ck]) | skip)
  obtain rfl := Option.some.inj H
  go_wp2
  go_ret
  exact ⟨er_, HB.1⟩
 replace HS := Q_ ((if_neg cj).symm.trans HS.1)
 have ck := decide_eq_false cj
 clear cj
 (first | rw [ck] | (simp only [i64_w, i32_w]; rw [ck]) | skip)
 obtain ⟨db, Edb, H⟩ := bs_ HS.1
 (try dsimp only at H)
 replace HS := Q_ H
 clear H
 go_upto_if 19 with (first | ((with_reducible refine gld_ (t := 29) (p := 3) rfl ?_); refine ldr_ (p := 3) row29_ siz29_ BY.1 ?_ rfl rfl rfl rfl) | ((with_reducible refine gate_callee (f := 5) rfl ?_); refine gl_ (some 17) Try.func5 #[.agg #[.slice ya0 y0.length yc0, .slice ya1 y1.length yc1, .int .i64 y2, .slice ya3 y3.length yc3, .int .i64 y4, .slice ya5 y5.length yc5, .int .i64 y6, .bool y7, .int .i64 y8, .int .i64 y9, .slice ya10 y10.length yc10, .slice ya11 y11.length yc11, .int .i64 y12, .int .i64 y13, .int .i64 y14], .int .i64 ct] ?_; (with_reducible refine (szW_ PY.1 (pb_ HB.1) Edb.1).mono ?_); rintro e wn ⟨rfl, hb⟩; refine ⟨_, rfl, ?_⟩; replace BX := Q_ (bb_ BX.1 hb); replace BY := Q_ (bb_ BY.1 hb); replace HB := Q_ (below_step HB.1 hb); clear hb))
 (try simp only [Act.put, s1_, s2_, s3_])
 by_cases cj : db < 0
 ·have H := HS.1
  rw [if_pos cj] at H
  have ck := decide_eq_true cj
  clear cj
  (first | rw [ck] | (simp only [i64_w, i32_w]; rw [ck]) | skip)
  obtain rfl := Option.some.inj H
  go_wp2
  go_ret
  exact ⟨er_, HB.1⟩
 replace HS := Q_ ((if_neg cj).symm.trans HS.1)
 have ck := decide_eq_false cj
 clear cj
 (first | rw [ck] | (simp only [i64_w, i32_w]; rw [ck]) | skip)
 obtain ⟨p1, Ep1, H⟩ := bs_ HS.1
 (try dsimp only at H)
 replace HS := Q_ H
 clear H
 obtain ⟨p2, Ep2, H⟩ := bs_ HS.1
 (try dsimp only at H)
 replace HS := Q_ H
 clear H
 obtain ⟨bw, Ebw, H⟩ := bs_ HS.1
 (try dsimp only at H)
 replace HS := Q_ H
 clear H
 try go_wp2
 replace BX := Q_ (blk_drew BX.1)
 replace BY := Q_ (blk_drew BY.1)
 replace HB := Q_ (below_drew1 HB.1)
 refine start_ (n := 6) (S := fun w' => w'.heap[D]? = some (.cells #[.slice xa0 x0.length xc0, .slice xa1 x1.length xc1, .int .i64 x2, .slice xa3 x3.length xc3, .int .i64 x4, .slice xa5 x5.length xc5, .int .i64 x6, .bool x7, .int .i64 x8, .int .i64 x9, .slice xa10 x10.length xc10, .slice xa11 x11.length xc11, .int .i64 x12, .int .i64 x13, .int .i64 x14] 29 (0, 0)) ∧ w'.heap[E]? = some (.cells #[.slice ya0 y0.length yc0, .slice ya1 y1.length yc1, .int .i64 y2, .slice ya3 y3.length yc3, .int .i64 y4, .slice ya5 y5.length yc5, .int .i64 y6, .bool y7, .int .i64 y8, .int .i64 y9, .slice ya10 y10.length yc10, .slice ya11 y11.length yc11, .int .i64 y12, .int .i64 y13, .int .i64 y14] 29 (0, 0))) (ds := []) (tf_ 0 6) (by kernel_rfl) rfl rfl ⟨BX.1, BY.1⟩ (fun hHeld => ?_)
 generalize World.drew _ = wd at BX BY HB hHeld ⊢
 refine take_ (i := 0) (N := some 20) (v := .agg #[.slice xa0 x0.length xc0, .slice xa1 x1.length xc1, .int .i64 x2, .slice xa3 x3.length xc3, .int .i64 x4, .slice xa5 x5.length xc5, .int .i64 x6, .bool x7, .int .i64 x8, .int .i64 x9, .slice xa10 x10.length xc10, .slice xa11 x11.length xc11, .int .i64 x12, .int .i64 x13, .int .i64 x14]) (a' := ?_) #[true, false, false, false, false, false] rfl rfl (by kernel_rfl) (fun _ _ _ h => h) (Or.inl ⟨by rfl, fun w' hs => lrun_ (p := 2) row29_ siz29_ hs.1 rfl rfl rfl⟩) hHeld (by simp only [Act.put, List.setIfInBounds_toArray, List.set_cons_zero, List.set_cons_succ, i64_w, i32_w]; rfl) ?_
 refine take_ (i := 2) (N := some 22) (v := .agg #[.slice ya0 y0.length yc0, .slice ya1 y1.length yc1, .int .i64 y2, .slice ya3 y3.length yc3, .int .i64 y4, .slice ya5 y5.length yc5, .int .i64 y6, .bool y7, .int .i64 y8, .int .i64 y9, .slice ya10 y10.length yc10, .slice ya11 y11.length yc11, .int .i64 y12, .int .i64 y13, .int .i64 y14]) (a' := ?_) #[true, false, true, false, false, false] rfl rfl (by kernel_rfl) (fun _ _ _ h => h) (Or.inl ⟨by rfl, fun w' hs => lrun_ (p := 3) row29_ siz29_ hs.2 rfl rfl rfl⟩) hHeld (by simp only [Act.put, List.setIfInBounds_toArray, List.set_cons_zero, List.set_cons_succ, i64_w, i32_w]; rfl) ?_
 refine one_ (i := 1) (N := some 21) #[true, true, true, false, false, false] rfl rfl (by kernel_rfl) (by decide) (fun K hK => ?_)
 refine goes_ Try.func7 (by kernel_rfl) rfl #[.agg #[.slice xa0 x0.length xc0, .slice xa1 x1.length xc1, .int .i64 x2, .slice xa3 x3.length xc3, .int .i64 x4, .slice xa5 x5.length xc5, .int .i64 x6, .bool x7, .int .i64 x8, .int .i64 x9, .slice xa10 x10.length xc10, .slice xa11 x11.length xc11, .int .i64 x12, .int .i64 x13, .int .i64 x14]] (by rfl) rfl rfl mp_ ?_
 with_reducible refine (toW_ PX.1 HB.1 Ep1.1).mono ?_
 rintro e wd ⟨a1, c1, rfl, W1, hb⟩
 refine ⟨_, rfl, ?_⟩
 replace BX := Q_ (bb_ BX.1 hb)
 replace BY := Q_ (bb_ BY.1 hb)
 replace HB := Q_ (below_step HB.1 hb)
 replace W1 := Q_ W1
 clear hb
 refine hK.out _ _ ⟨BX.1, BY.1⟩ (fun hHeld => ?_)
 clear hK K
 refine no_ (some 21) ?_
 refine one_ (i := 3) (N := some 23) #[true, true, true, true, false, false] rfl rfl (by kernel_rfl) (by decide) (fun K hK => ?_)
 refine goes_ Try.func7 (by kernel_rfl) rfl #[.agg #[.slice ya0 y0.length yc0, .slice ya1 y1.length yc1, .int .i64 y2, .slice ya3 y3.length yc3, .int .i64 y4, .slice ya5 y5.length yc5, .int .i64 y6, .bool y7, .int .i64 y8, .int .i64 y9, .slice ya10 y10.length yc10, .slice ya11 y11.length yc11, .int .i64 y12, .int .i64 y13, .int .i64 y14]] (by rfl) rfl rfl mp_ ?_
 with_reducible refine (toW_ PY.1 HB.1 Ep2.1).mono ?_
 rintro e wd ⟨a2, c2, rfl, W2, hb⟩
 refine ⟨_, rfl, ?_⟩
 replace BX := Q_ (bb_ BX.1 hb)
 replace BY := Q_ (bb_ BY.1 hb)
 replace HB := Q_ (below_step HB.1 hb)
 replace W2 := Q_ W2
 replace W1 := Q_ (W1.1.below hb)
 clear hb
 refine hK.out _ _ ⟨BX.1, BY.1⟩ (fun hHeld => ?_)
 clear hK K
 refine no_ (some 23) ?_
 refine one_ (i := 4) (N := some 24) #[true, true, true, true, true, false] rfl rfl (by kernel_rfl) (by decide) (fun K hK => ?_)
 refine goes_ Try.func6 (by kernel_rfl) rfl #[.agg #[.slice (a1 0) p1.1.length (c1 0), .slice (a1 1) p1.2.1.length (c1 1), .int .i64 p1.2.2.1, .slice (a1 3) p1.2.2.2.1.length (c1 3), .int .i64 p1.2.2.2.2.1, .slice (a1 5) p1.2.2.2.2.2.1.length (c1 5), .int .i64 p1.2.2.2.2.2.2.1, .bool p1.2.2.2.2.2.2.2.1, .int .i64 p1.2.2.2.2.2.2.2.2.1, .int .i64 p1.2.2.2.2.2.2.2.2.2.1, .slice (a1 10) p1.2.2.2.2.2.2.2.2.2.2.1.length (c1 10), .slice (a1 11) p1.2.2.2.2.2.2.2.2.2.2.2.1.length (c1 11), .int .i64 p1.2.2.2.2.2.2.2.2.2.2.2.2.1, .int .i64 p1.2.2.2.2.2.2.2.2.2.2.2.2.2.1, .int .i64 p1.2.2.2.2.2.2.2.2.2.2.2.2.2.2], .agg #[.slice (a2 0) p2.1.length (c2 0), .slice (a2 1) p2.2.1.length (c2 1), .int .i64 p2.2.2.1, .slice (a2 3) p2.2.2.2.1.length (c2 3), .int .i64 p2.2.2.2.2.1, .slice (a2 5) p2.2.2.2.2.2.1.length (c2 5), .int .i64 p2.2.2.2.2.2.2.1, .bool p2.2.2.2.2.2.2.2.1, .int .i64 p2.2.2.2.2.2.2.2.2.1, .int .i64 p2.2.2.2.2.2.2.2.2.2.1, .slice (a2 10) p2.2.2.2.2.2.2.2.2.2.2.1.length (c2 10), .slice (a2 11) p2.2.2.2.2.2.2.2.2.2.2.2.1.length (c2 11), .int .i64 p2.2.2.2.2.2.2.2.2.2.2.2.2.1, .int .i64 p2.2.2.2.2.2.2.2.2.2.2.2.2.2.1, .int .i64 p2.2.2.2.2.2.2.2.2.2.2.2.2.2.2]] (by rfl) rfl rfl mp_ ?_
 with_reducible refine (speW_ W1.1 W2.1 Ebw.1).mono ?_
 rintro e wd ⟨rfl, hb⟩
 refine ⟨_, rfl, ?_⟩
 replace BX := Q_ (bb_ BX.1 hb)
 replace BY := Q_ (bb_ BY.1 hb)
 replace HB := Q_ (below_step HB.1 hb)
 clear hb
 refine hK.out _ _ ⟨BX.1, BY.1⟩ (fun hHeld => ?_)
 clear hK K
 refine no_ (some 24) ?_
 refine pure_ (i := 5) (N := some 6) (v := ?_) (a' := ?_) #[true, true, true, true, true, true] rfl rfl (by kernel_rfl) (fun _ _ _ h => h) (Or.inl ⟨by rfl, ?_⟩) ?_ ?_
 rotate_left
 ·intro w'
  go_simp
  (try (simp only [Instr.field]; simp only [underlying, hu29, hu37]; go_simp; simp only [asAgg]; go_simp))
  with_reducible rfl
 rotate_left
 ·simp only [Act.put, List.setIfInBounds_toArray, List.set_cons_zero, List.set_cons_succ, i64_w, i32_w]
  rfl
 refine done_ (by kernel_rfl) ?_
 clear W1 W2
 go_upto_region 9 with (fail)
 obtain ⟨p3, Ep3, H⟩ := bs_ HS.1
 (try dsimp only at H)
 replace HS := Q_ H
 clear H
 go_upto_region 10 with (first | ((with_reducible refine gld_ (t := 29) (p := 2) rfl ?_); refine ldr_ (p := 2) row29_ siz29_ BX.1 ?_ rfl rfl rfl rfl) | ((with_reducible refine gate_callee (f := 7) rfl ?_); refine gl_ (some 26) Try.func7 #[.agg #[.slice xa0 x0.length xc0, .slice xa1 x1.length xc1, .int .i64 x2, .slice xa3 x3.length xc3, .int .i64 x4, .slice xa5 x5.length xc5, .int .i64 x6, .bool x7, .int .i64 x8, .int .i64 x9, .slice xa10 x10.length xc10, .slice xa11 x11.length xc11, .int .i64 x12, .int .i64 x13, .int .i64 x14]] ?_; (with_reducible refine (toW_ PX.1 (pb_ HB.1) Ep3.1).mono ?_); rintro e wn ⟨a3, c3, rfl, W3, hb⟩; refine ⟨_, rfl, ?_⟩; replace BX := Q_ (bb_ BX.1 hb); replace BY := Q_ (bb_ BY.1 hb); replace HB := Q_ (below_step HB.1 hb); replace W3 := Q_ W3; have E3 := Q_ (Below.refl wn.heap.size wn); clear hb; rename World => v3) | ((with_reducible refine gate_dst (N := 7) rfl ?_); refine bx_ 7 #[.slice none 0 0, .slice none 0 0, .int .i64 0, .slice none 0 0, .int .i64 0, .slice none 0 0, .int .i64 0, .bool false, .int .i64 0, .int .i64 0, .slice none 0 0, .slice none 0 0, .int .i64 0, .int .i64 0, .int .i64 0] 37 ?_; intro F hg wb hbox hb; have GBDHB := Q_ (gw_ (w := w) hg HB.1); have GBDE3 := Q_ (gw_ (w := v3) hg E3.1); have NBXBD := Q_ (nb_ hg BX); have NBYBD := Q_ (nb_ hg BY); have NBDBX := Q_ NBXBD.1.symm; have NBDBY := Q_ NBYBD.1.symm; replace BX := Q_ (bb_ BX.1 hb); replace BY := Q_ (bb_ BY.1 hb); replace HB := Q_ (below_step HB.1 hb); replace E3 := Q_ (below_step E3.1 hb); have BD := Q_ hbox; clear hb hbox hg) | ((with_reducible refine gate_store (t := 37) (p := 7) rfl ?_); refine str_ (p := 7) (q := 26) (cs := #[.slice (a3 0) p3.1.length (c3 0), .slice (a3 1) p3.2.1.length (c3 1), .int .i64 p3.2.2.1, .slice (a3 3) p3.2.2.2.1.length (c3 3), .int .i64 p3.2.2.2.2.1, .slice (a3 5) p3.2.2.2.2.2.1.length (c3 5), .int .i64 p3.2.2.2.2.2.2.1, .bool p3.2.2.2.2.2.2.2.1, .int .i64 p3.2.2.2.2.2.2.2.2.1, .int .i64 p3.2.2.2.2.2.2.2.2.2.1, .slice (a3 10) p3.2.2.2.2.2.2.2.2.2.2.1.length (c3 10), .slice (a3 11) p3.2.2.2.2.2.2.2.2.2.2.2.1.length (c3 11), .int .i64 p3.2.2.2.2.2.2.2.2.2.2.2.2.1, .int .i64 p3.2.2.2.2.2.2.2.2.2.2.2.2.2.1, .int .i64 p3.2.2.2.2.2.2.2.2.2.2.2.2.2.2]) siz37_ BD.1 ?_ rfl rfl rfl rfl rfl rfl rfl (by simp [Value.oneCell']); intro ws hs1 hs2 hs3; replace BX := Q_ (hs2 _ _ NBXBD.1 BX.1); replace BY := Q_ (hs2 _ _ NBYBD.1 BY.1); replace HB := Q_ (hs3 _ GBDHB.1 HB.1); replace E3 := Q_ (hs3 _ GBDE3.1 E3.1); replace BD := Q_ hs1; clear hs1 hs2 hs3))
 (try simp only [Act.put, s1_, s2_, s3_])
 obtain ⟨p4, Ep4, H⟩ := bs_ HS.1
 (try dsimp only at H)
 replace HS := Q_ H
 clear H
 go_upto_region 11 with (first | ((with_reducible refine gld_ (t := 29) (p := 3) rfl ?_); refine ldr_ (p := 3) row29_ siz29_ BY.1 ?_ rfl rfl rfl rfl) | ((with_reducible refine gate_callee (f := 7) rfl ?_); refine gl_ (some 28) Try.func7 #[.agg #[.slice ya0 y0.length yc0, .slice ya1 y1.length yc1, .int .i64 y2, .slice ya3 y3.length yc3, .int .i64 y4, .slice ya5 y5.length yc5, .int .i64 y6, .bool y7, .int .i64 y8, .int .i64 y9, .slice ya10 y10.length yc10, .slice ya11 y11.length yc11, .int .i64 y12, .int .i64 y13, .int .i64 y14]] ?_; (with_reducible refine (toW_ PY.1 (pb_ HB.1) Ep4.1).mono ?_); rintro e wn ⟨a4, c4, rfl, W4, hb⟩; refine ⟨_, rfl, ?_⟩; replace BX := Q_ (bb_ BX.1 hb); replace BY := Q_ (bb_ BY.1 hb); replace BD := Q_ (bb_ BD.1 hb); replace HB := Q_ (below_step HB.1 hb); replace E3 := Q_ (below_step E3.1 hb); replace W4 := Q_ W4; have E4 := Q_ (Below.refl wn.heap.size wn); clear hb; rename World => v4) | ((with_reducible refine gate_dst (N := 8) rfl ?_); refine bx_ 8 #[.slice none 0 0, .slice none 0 0, .int .i64 0, .slice none 0 0, .int .i64 0, .slice none 0 0, .int .i64 0, .bool false, .int .i64 0, .int .i64 0, .slice none 0 0, .slice none 0 0, .int .i64 0, .int .i64 0, .int .i64 0] 37 ?_; intro G hg wb hbox hb; have GBJHB := Q_ (gw_ (w := w) hg HB.1); have GBJE3 := Q_ (gw_ (w := v3) hg E3.1); have GBJE4 := Q_ (gw_ (w := v4) hg E4.1); have NBXBJ := Q_ (nb_ hg BX); have NBYBJ := Q_ (nb_ hg BY); have NBDBJ := Q_ (nb_ hg BD); have NBJBX := Q_ NBXBJ.1.symm; have NBJBY := Q_ NBYBJ.1.symm; have NBJBD := Q_ NBDBJ.1.symm; replace BX := Q_ (bb_ BX.1 hb); replace BY := Q_ (bb_ BY.1 hb); replace BD := Q_ (bb_ BD.1 hb); replace HB := Q_ (below_step HB.1 hb); replace E3 := Q_ (below_step E3.1 hb); replace E4 := Q_ (below_step E4.1 hb); have BJ := Q_ hbox; clear hb hbox hg) | ((with_reducible refine gate_store (t := 37) (p := 8) rfl ?_); refine str_ (p := 8) (q := 28) (cs := #[.slice (a4 0) p4.1.length (c4 0), .slice (a4 1) p4.2.1.length (c4 1), .int .i64 p4.2.2.1, .slice (a4 3) p4.2.2.2.1.length (c4 3), .int .i64 p4.2.2.2.2.1, .slice (a4 5) p4.2.2.2.2.2.1.length (c4 5), .int .i64 p4.2.2.2.2.2.2.1, .bool p4.2.2.2.2.2.2.2.1, .int .i64 p4.2.2.2.2.2.2.2.2.1, .int .i64 p4.2.2.2.2.2.2.2.2.2.1, .slice (a4 10) p4.2.2.2.2.2.2.2.2.2.2.1.length (c4 10), .slice (a4 11) p4.2.2.2.2.2.2.2.2.2.2.2.1.length (c4 11), .int .i64 p4.2.2.2.2.2.2.2.2.2.2.2.2.1, .int .i64 p4.2.2.2.2.2.2.2.2.2.2.2.2.2.1, .int .i64 p4.2.2.2.2.2.2.2.2.2.2.2.2.2.2]) siz37_ BJ.1 ?_ rfl rfl rfl rfl rfl rfl rfl (by simp [Value.oneCell']); intro ws hs1 hs2 hs3; replace BX := Q_ (hs2 _ _ NBXBJ.1 BX.1); replace BY := Q_ (hs2 _ _ NBYBJ.1 BY.1); replace BD := Q_ (hs2 _ _ NBDBJ.1 BD.1); replace HB := Q_ (hs3 _ GBJHB.1 HB.1); replace E3 := Q_ (hs3 _ GBJE3.1 E3.1); replace E4 := Q_ (hs3 _ GBJE4.1 E4.1); replace BJ := Q_ hs1; clear hs1 hs2 hs3))
 (try simp only [Act.put, s1_, s2_, s3_])
 obtain ⟨bx, Ebx, H⟩ := bs_ HS.1
 (try dsimp only at H)
 replace HS := Q_ H
 clear H
 go_upto_if 34 with (first | ((with_reducible refine gld_ (t := 37) (p := 7) rfl ?_); refine ldr_ (p := 7) row37_ siz37_ BD.1 ?_ rfl rfl rfl rfl) | ((with_reducible refine gld_ (t := 37) (p := 8) rfl ?_); refine ldr_ (p := 8) row37_ siz37_ BJ.1 ?_ rfl rfl rfl rfl) | ((with_reducible refine gate_callee (f := 8) rfl ?_); refine gl_ (some 31) Try.func8 #[.agg #[.slice (a3 0) p3.1.length (c3 0), .slice (a3 1) p3.2.1.length (c3 1), .int .i64 p3.2.2.1, .slice (a3 3) p3.2.2.2.1.length (c3 3), .int .i64 p3.2.2.2.2.1, .slice (a3 5) p3.2.2.2.2.2.1.length (c3 5), .int .i64 p3.2.2.2.2.2.2.1, .bool p3.2.2.2.2.2.2.2.1, .int .i64 p3.2.2.2.2.2.2.2.2.1, .int .i64 p3.2.2.2.2.2.2.2.2.2.1, .slice (a3 10) p3.2.2.2.2.2.2.2.2.2.2.1.length (c3 10), .slice (a3 11) p3.2.2.2.2.2.2.2.2.2.2.2.1.length (c3 11), .int .i64 p3.2.2.2.2.2.2.2.2.2.2.2.2.1, .int .i64 p3.2.2.2.2.2.2.2.2.2.2.2.2.2.1, .int .i64 p3.2.2.2.2.2.2.2.2.2.2.2.2.2.2], .agg #[.slice (a4 0) p4.1.length (c4 0), .slice (a4 1) p4.2.1.length (c4 1), .int .i64 p4.2.2.1, .slice (a4 3) p4.2.2.2.1.length (c4 3), .int .i64 p4.2.2.2.2.1, .slice (a4 5) p4.2.2.2.2.2.1.length (c4 5), .int .i64 p4.2.2.2.2.2.2.1, .bool p4.2.2.2.2.2.2.2.1, .int .i64 p4.2.2.2.2.2.2.2.2.1, .int .i64 p4.2.2.2.2.2.2.2.2.2.1, .slice (a4 10) p4.2.2.2.2.2.2.2.2.2.2.1.length (c4 10), .slice (a4 11) p4.2.2.2.2.2.2.2.2.2.2.2.1.length (c4 11), .int .i64 p4.2.2.2.2.2.2.2.2.2.2.2.2.1, .int .i64 p4.2.2.2.2.2.2.2.2.2.2.2.2.2.1, .int .i64 p4.2.2.2.2.2.2.2.2.2.2.2.2.2.2]] ?_; (with_reducible refine (impW_ (W3.1.below E3.1) (W4.1.below E4.1) Ebx.1).mono ?_); rintro e wn ⟨rfl, hb⟩; refine ⟨_, rfl, ?_⟩; replace BX := Q_ (bb_ BX.1 hb); replace BY := Q_ (bb_ BY.1 hb); replace BD := Q_ (bb_ BD.1 hb); replace BJ := Q_ (bb_ BJ.1 hb); replace HB := Q_ (below_step HB.1 hb); replace E3 := Q_ (below_step E3.1 hb); replace E4 := Q_ (below_step E4.1 hb); clear hb))
 (try simp only [Act.put, s1_, s2_, s3_])
 by_cases cp : (bx != bw) = true
 ·have H := HS.1
  rw [if_pos cp] at H
  have bT : (bx != bw) = true := cp
  (try (have f4_ : decide (bx = bw) = false := by simpa using cp))
  (try (have f5_ : (bx == bw) = false := by simpa using cp))
  clear cp
  (first | rw [bT] | (simp only [i64_w, i32_w]; rw [bT]) | (have c_ := bT; rw [bne] at c_; rw [c_]; clear c_) | rw [f4_] | rw [f5_] | skip)
  obtain rfl := Option.some.inj H
  go_wp2
  go_ret
  exact ⟨er_, HB.1⟩
 replace HS := Q_ ((if_neg cp).symm.trans HS.1)
 have bT : (bx != bw) = false := by simpa using cp
 (try (have f4_ : decide (bx = bw) = true := by simpa using cp))
 (try (have f5_ : (bx == bw) = true := by simpa using cp))
 clear cp
 (first | rw [bT] | (simp only [i64_w, i32_w]; rw [bT]) | (have c_ := bT; rw [bne] at c_; rw [c_]; clear c_) | rw [f4_] | rw [f5_] | skip)
 obtain ⟨q3, Eq3, H⟩ := bs_ HS.1
 (try dsimp only at H)
 replace HS := Q_ H
 clear H
 obtain ⟨e3, Ee3, H⟩ := bs_ HS.1
 replace HS := Q_ H
 (try dsimp only at HS)
 clear H
 try go_wp2
 replace BX := Q_ (blk_drew BX.1)
 replace BY := Q_ (blk_drew BY.1)
 replace BD := Q_ (blk_drew BD.1)
 replace BJ := Q_ (blk_drew BJ.1)
 replace HB := Q_ (below_drew1 HB.1)
 replace E3 := Q_ (below_drew1 E3.1)
 replace E4 := Q_ (below_drew1 E4.1)
 refine start_ (n := 5) (S := fun w' => w'.heap[F]? = some (.cells #[.slice (a3 0) p3.1.length (c3 0), .slice (a3 1) p3.2.1.length (c3 1), .int .i64 p3.2.2.1, .slice (a3 3) p3.2.2.2.1.length (c3 3), .int .i64 p3.2.2.2.2.1, .slice (a3 5) p3.2.2.2.2.2.1.length (c3 5), .int .i64 p3.2.2.2.2.2.2.1, .bool p3.2.2.2.2.2.2.2.1, .int .i64 p3.2.2.2.2.2.2.2.2.1, .int .i64 p3.2.2.2.2.2.2.2.2.2.1, .slice (a3 10) p3.2.2.2.2.2.2.2.2.2.2.1.length (c3 10), .slice (a3 11) p3.2.2.2.2.2.2.2.2.2.2.2.1.length (c3 11), .int .i64 p3.2.2.2.2.2.2.2.2.2.2.2.2.1, .int .i64 p3.2.2.2.2.2.2.2.2.2.2.2.2.2.1, .int .i64 p3.2.2.2.2.2.2.2.2.2.2.2.2.2.2] 37 (0, 0)) ∧ w'.heap[D]? = some (.cells #[.slice xa0 x0.length xc0, .slice xa1 x1.length xc1, .int .i64 x2, .slice xa3 x3.length xc3, .int .i64 x4, .slice xa5 x5.length xc5, .int .i64 x6, .bool x7, .int .i64 x8, .int .i64 x9, .slice xa10 x10.length xc10, .slice xa11 x11.length xc11, .int .i64 x12, .int .i64 x13, .int .i64 x14] 29 (0, 0))) (ds := []) (tf_ 0 5) (by kernel_rfl) rfl rfl ⟨BD.1, BX.1⟩ (fun hHeld => ?_)
 generalize World.drew _ = wd at BX BY BD BJ HB E3 E4 hHeld ⊢
 refine take_ (i := 0) (N := some 35) (v := .agg #[.slice (a3 0) p3.1.length (c3 0), .slice (a3 1) p3.2.1.length (c3 1), .int .i64 p3.2.2.1, .slice (a3 3) p3.2.2.2.1.length (c3 3), .int .i64 p3.2.2.2.2.1, .slice (a3 5) p3.2.2.2.2.2.1.length (c3 5), .int .i64 p3.2.2.2.2.2.2.1, .bool p3.2.2.2.2.2.2.2.1, .int .i64 p3.2.2.2.2.2.2.2.2.1, .int .i64 p3.2.2.2.2.2.2.2.2.2.1, .slice (a3 10) p3.2.2.2.2.2.2.2.2.2.2.1.length (c3 10), .slice (a3 11) p3.2.2.2.2.2.2.2.2.2.2.2.1.length (c3 11), .int .i64 p3.2.2.2.2.2.2.2.2.2.2.2.2.1, .int .i64 p3.2.2.2.2.2.2.2.2.2.2.2.2.2.1, .int .i64 p3.2.2.2.2.2.2.2.2.2.2.2.2.2.2]) (a' := ?_) #[true, false, false, false, false] rfl rfl (by kernel_rfl) (fun _ _ _ h => h) (Or.inl ⟨by rfl, fun w' hs => lrun_ (p := 7) row37_ siz37_ hs.1 rfl rfl rfl⟩) hHeld (by simp only [Act.put, List.setIfInBounds_toArray, List.set_cons_zero, List.set_cons_succ, i64_w, i32_w]; rfl) ?_
 refine take_ (i := 1) (N := some 36) (v := .agg #[.slice xa0 x0.length xc0, .slice xa1 x1.length xc1, .int .i64 x2, .slice xa3 x3.length xc3, .int .i64 x4, .slice xa5 x5.length xc5, .int .i64 x6, .bool x7, .int .i64 x8, .int .i64 x9, .slice xa10 x10.length xc10, .slice xa11 x11.length xc11, .int .i64 x12, .int .i64 x13, .int .i64 x14]) (a' := ?_) #[true, true, false, false, false] rfl rfl (by kernel_rfl) (fun _ _ _ h => h) (Or.inl ⟨by rfl, fun w' hs => lrun_ (p := 2) row29_ siz29_ hs.2 rfl rfl rfl⟩) hHeld (by simp only [Act.put, List.setIfInBounds_toArray, List.set_cons_zero, List.set_cons_succ, i64_w, i32_w]; rfl) ?_
 refine one_ (i := 2) (N := some 37) #[true, true, true, false, false] rfl rfl (by kernel_rfl) (by decide) (fun K hK => ?_)
 refine goes_ Try.func7 (by kernel_rfl) rfl #[.agg #[.slice xa0 x0.length xc0, .slice xa1 x1.length xc1, .int .i64 x2, .slice xa3 x3.length xc3, .int .i64 x4, .slice xa5 x5.length xc5, .int .i64 x6, .bool x7, .int .i64 x8, .int .i64 x9, .slice xa10 x10.length xc10, .slice xa11 x11.length xc11, .int .i64 x12, .int .i64 x13, .int .i64 x14]] (by rfl) rfl rfl mp_ ?_
 with_reducible refine (toW_ PX.1 HB.1 Eq3.1).mono ?_
 rintro e wd ⟨b3, d3, rfl, V3, hb⟩
 refine ⟨_, rfl, ?_⟩
 replace BX := Q_ (bb_ BX.1 hb)
 replace BY := Q_ (bb_ BY.1 hb)
 replace BD := Q_ (bb_ BD.1 hb)
 replace BJ := Q_ (bb_ BJ.1 hb)
 replace HB := Q_ (below_step HB.1 hb)
 replace E3 := Q_ (below_step E3.1 hb)
 replace E4 := Q_ (below_step E4.1 hb)
 replace V3 := Q_ V3
 clear hb
 refine hK.out _ _ ⟨BD.1, BX.1⟩ (fun hHeld => ?_)
 clear hK K
 refine no_ (some 37) ?_
 refine one_ (i := 3) (N := some 38) #[true, true, true, true, false] rfl rfl (by kernel_rfl) (by decide) (fun K hK => ?_)
 refine goes_ Try.func9 (by kernel_rfl) rfl #[.agg #[.slice (a3 0) p3.1.length (c3 0), .slice (a3 1) p3.2.1.length (c3 1), .int .i64 p3.2.2.1, .slice (a3 3) p3.2.2.2.1.length (c3 3), .int .i64 p3.2.2.2.2.1, .slice (a3 5) p3.2.2.2.2.2.1.length (c3 5), .int .i64 p3.2.2.2.2.2.2.1, .bool p3.2.2.2.2.2.2.2.1, .int .i64 p3.2.2.2.2.2.2.2.2.1, .int .i64 p3.2.2.2.2.2.2.2.2.2.1, .slice (a3 10) p3.2.2.2.2.2.2.2.2.2.2.1.length (c3 10), .slice (a3 11) p3.2.2.2.2.2.2.2.2.2.2.2.1.length (c3 11), .int .i64 p3.2.2.2.2.2.2.2.2.2.2.2.2.1, .int .i64 p3.2.2.2.2.2.2.2.2.2.2.2.2.2.1, .int .i64 p3.2.2.2.2.2.2.2.2.2.2.2.2.2.2], .agg #[.slice (b3 0) q3.1.length (d3 0), .slice (b3 1) q3.2.1.length (d3 1), .int .i64 q3.2.2.1, .slice (b3 3) q3.2.2.2.1.length (d3 3), .int .i64 q3.2.2.2.2.1, .slice (b3 5) q3.2.2.2.2.2.1.length (d3 5), .int .i64 q3.2.2.2.2.2.2.1, .bool q3.2.2.2.2.2.2.2.1, .int .i64 q3.2.2.2.2.2.2.2.2.1, .int .i64 q3.2.2.2.2.2.2.2.2.2.1, .slice (b3 10) q3.2.2.2.2.2.2.2.2.2.2.1.length (d3 10), .slice (b3 11) q3.2.2.2.2.2.2.2.2.2.2.2.1.length (d3 11), .int .i64 q3.2.2.2.2.2.2.2.2.2.2.2.2.1, .int .i64 q3.2.2.2.2.2.2.2.2.2.2.2.2.2.1, .int .i64 q3.2.2.2.2.2.2.2.2.2.2.2.2.2.2]] (by rfl) rfl rfl mp_ ?_
 with_reducible refine (eqW_ (W3.1.below E3.1) V3.1 Ee3.1).mono ?_
 rintro e wd ⟨rfl, hb⟩
 refine ⟨_, rfl, ?_⟩
 replace BX := Q_ (bb_ BX.1 hb)
 replace BY := Q_ (bb_ BY.1 hb)
 replace BD := Q_ (bb_ BD.1 hb)
 replace BJ := Q_ (bb_ BJ.1 hb)
 replace HB := Q_ (below_step HB.1 hb)
 replace E3 := Q_ (below_step E3.1 hb)
 replace E4 := Q_ (below_step E4.1 hb)
 clear hb
 refine hK.out _ _ ⟨BD.1, BX.1⟩ (fun hHeld => ?_)
 clear hK K
 refine no_ (some 38) ?_
 refine pure_ (i := 4) (N := some 39) (v := ?_) (a' := ?_) #[true, true, true, true, true] rfl rfl (by kernel_rfl) (fun _ _ _ h => h) (Or.inl ⟨by rfl, ?_⟩) ?_ ?_
 rotate_left
 ·intro w'
  go_simp
  (try (simp only [Instr.field]; simp only [underlying, hu29, hu37]; go_simp; simp only [asAgg]; go_simp))
  with_reducible rfl
 rotate_left
 ·simp only [Act.put, List.setIfInBounds_toArray, List.set_cons_zero, List.set_cons_succ, i64_w, i32_w]
  rfl
 refine done_ (by kernel_rfl) ?_
 clear V3
 go_upto_if 39 with (fail)
 by_cases eG : e3 = true
 rotate_left
 ·replace eG := bf_ eG
  subst eG
  have H := HS.1
  rw [if_neg ff_] at H
  obtain rfl := Option.some.inj H
  go_wp2
  go_ret
  exact ⟨er_, HB.1⟩
 subst eG
 replace HS := Q_ ((if_pos rfl).symm.trans HS.1)
 obtain ⟨q4, Eq4, H⟩ := bs_ HS.1
 (try dsimp only at H)
 replace HS := Q_ H
 clear H
 obtain ⟨e4, Ee4, H⟩ := bs_ HS.1
 replace HS := Q_ H
 (try dsimp only at HS)
 clear H
 try go_wp2
 replace BX := Q_ (blk_drew BX.1)
 replace BY := Q_ (blk_drew BY.1)
 replace BD := Q_ (blk_drew BD.1)
 replace BJ := Q_ (blk_drew BJ.1)
 replace HB := Q_ (below_drew1 HB.1)
 replace E3 := Q_ (below_drew1 E3.1)
 replace E4 := Q_ (below_drew1 E4.1)
 refine start_ (n := 5) (S := fun w' => w'.heap[G]? = some (.cells #[.slice (a4 0) p4.1.length (c4 0), .slice (a4 1) p4.2.1.length (c4 1), .int .i64 p4.2.2.1, .slice (a4 3) p4.2.2.2.1.length (c4 3), .int .i64 p4.2.2.2.2.1, .slice (a4 5) p4.2.2.2.2.2.1.length (c4 5), .int .i64 p4.2.2.2.2.2.2.1, .bool p4.2.2.2.2.2.2.2.1, .int .i64 p4.2.2.2.2.2.2.2.2.1, .int .i64 p4.2.2.2.2.2.2.2.2.2.1, .slice (a4 10) p4.2.2.2.2.2.2.2.2.2.2.1.length (c4 10), .slice (a4 11) p4.2.2.2.2.2.2.2.2.2.2.2.1.length (c4 11), .int .i64 p4.2.2.2.2.2.2.2.2.2.2.2.2.1, .int .i64 p4.2.2.2.2.2.2.2.2.2.2.2.2.2.1, .int .i64 p4.2.2.2.2.2.2.2.2.2.2.2.2.2.2] 37 (0, 0)) ∧ w'.heap[E]? = some (.cells #[.slice ya0 y0.length yc0, .slice ya1 y1.length yc1, .int .i64 y2, .slice ya3 y3.length yc3, .int .i64 y4, .slice ya5 y5.length yc5, .int .i64 y6, .bool y7, .int .i64 y8, .int .i64 y9, .slice ya10 y10.length yc10, .slice ya11 y11.length yc11, .int .i64 y12, .int .i64 y13, .int .i64 y14] 29 (0, 0))) (ds := []) (tf_ 0 5) (by kernel_rfl) rfl rfl ⟨BJ.1, BY.1⟩ (fun hHeld => ?_)
 generalize World.drew _ = wd at BX BY BD BJ HB E3 E4 hHeld ⊢
 refine take_ (i := 0) (N := some 40) (v := .agg #[.slice (a4 0) p4.1.length (c4 0), .slice (a4 1) p4.2.1.length (c4 1), .int .i64 p4.2.2.1, .slice (a4 3) p4.2.2.2.1.length (c4 3), .int .i64 p4.2.2.2.2.1, .slice (a4 5) p4.2.2.2.2.2.1.length (c4 5), .int .i64 p4.2.2.2.2.2.2.1, .bool p4.2.2.2.2.2.2.2.1, .int .i64 p4.2.2.2.2.2.2.2.2.1, .int .i64 p4.2.2.2.2.2.2.2.2.2.1, .slice (a4 10) p4.2.2.2.2.2.2.2.2.2.2.1.length (c4 10), .slice (a4 11) p4.2.2.2.2.2.2.2.2.2.2.2.1.length (c4 11), .int .i64 p4.2.2.2.2.2.2.2.2.2.2.2.2.1, .int .i64 p4.2.2.2.2.2.2.2.2.2.2.2.2.2.1, .int .i64 p4.2.2.2.2.2.2.2.2.2.2.2.2.2.2]) (a' := ?_) #[true, false, false, false, false] rfl rfl (by kernel_rfl) (fun _ _ _ h => h) (Or.inl ⟨by rfl, fun w' hs => lrun_ (p := 8) row37_ siz37_ hs.1 rfl rfl rfl⟩) hHeld (by simp only [Act.put, List.setIfInBounds_toArray, List.set_cons_zero, List.set_cons_succ, i64_w, i32_w]; rfl) ?_
 refine take_ (i := 1) (N := some 41) (v := .agg #[.slice ya0 y0.length yc0, .slice ya1 y1.length yc1, .int .i64 y2, .slice ya3 y3.length yc3, .int .i64 y4, .slice ya5 y5.length yc5, .int .i64 y6, .bool y7, .int .i64 y8, .int .i64 y9, .slice ya10 y10.length yc10, .slice ya11 y11.length yc11, .int .i64 y12, .int .i64 y13, .int .i64 y14]) (a' := ?_) #[true, true, false, false, false] rfl rfl (by kernel_rfl) (fun _ _ _ h => h) (Or.inl ⟨by rfl, fun w' hs => lrun_ (p := 3) row29_ siz29_ hs.2 rfl rfl rfl⟩) hHeld (by simp only [Act.put, List.setIfInBounds_toArray, List.set_cons_zero, List.set_cons_succ, i64_w, i32_w]; rfl) ?_
 refine one_ (i := 2) (N := some 42) #[true, true, true, false, false] rfl rfl (by kernel_rfl) (by decide) (fun K hK => ?_)
 refine goes_ Try.func7 (by kernel_rfl) rfl #[.agg #[.slice ya0 y0.length yc0, .slice ya1 y1.length yc1, .int .i64 y2, .slice ya3 y3.length yc3, .int .i64 y4, .slice ya5 y5.length yc5, .int .i64 y6, .bool y7, .int .i64 y8, .int .i64 y9, .slice ya10 y10.length yc10, .slice ya11 y11.length yc11, .int .i64 y12, .int .i64 y13, .int .i64 y14]] (by rfl) rfl rfl mp_ ?_
 with_reducible refine (toW_ PY.1 HB.1 Eq4.1).mono ?_
 rintro e wd ⟨b4, d4, rfl, V4, hb⟩
 refine ⟨_, rfl, ?_⟩
 replace BX := Q_ (bb_ BX.1 hb)
 replace BY := Q_ (bb_ BY.1 hb)
 replace BD := Q_ (bb_ BD.1 hb)
 replace BJ := Q_ (bb_ BJ.1 hb)
 replace HB := Q_ (below_step HB.1 hb)
 replace E3 := Q_ (below_step E3.1 hb)
 replace E4 := Q_ (below_step E4.1 hb)
 replace V4 := Q_ V4
 clear hb
 refine hK.out _ _ ⟨BJ.1, BY.1⟩ (fun hHeld => ?_)
 clear hK K
 refine no_ (some 42) ?_
 refine one_ (i := 3) (N := some 43) #[true, true, true, true, false] rfl rfl (by kernel_rfl) (by decide) (fun K hK => ?_)
 refine goes_ Try.func9 (by kernel_rfl) rfl #[.agg #[.slice (a4 0) p4.1.length (c4 0), .slice (a4 1) p4.2.1.length (c4 1), .int .i64 p4.2.2.1, .slice (a4 3) p4.2.2.2.1.length (c4 3), .int .i64 p4.2.2.2.2.1, .slice (a4 5) p4.2.2.2.2.2.1.length (c4 5), .int .i64 p4.2.2.2.2.2.2.1, .bool p4.2.2.2.2.2.2.2.1, .int .i64 p4.2.2.2.2.2.2.2.2.1, .int .i64 p4.2.2.2.2.2.2.2.2.2.1, .slice (a4 10) p4.2.2.2.2.2.2.2.2.2.2.1.length (c4 10), .slice (a4 11) p4.2.2.2.2.2.2.2.2.2.2.2.1.length (c4 11), .int .i64 p4.2.2.2.2.2.2.2.2.2.2.2.2.1, .int .i64 p4.2.2.2.2.2.2.2.2.2.2.2.2.2.1, .int .i64 p4.2.2.2.2.2.2.2.2.2.2.2.2.2.2], .agg #[.slice (b4 0) q4.1.length (d4 0), .slice (b4 1) q4.2.1.length (d4 1), .int .i64 q4.2.2.1, .slice (b4 3) q4.2.2.2.1.length (d4 3), .int .i64 q4.2.2.2.2.1, .slice (b4 5) q4.2.2.2.2.2.1.length (d4 5), .int .i64 q4.2.2.2.2.2.2.1, .bool q4.2.2.2.2.2.2.2.1, .int .i64 q4.2.2.2.2.2.2.2.2.1, .int .i64 q4.2.2.2.2.2.2.2.2.2.1, .slice (b4 10) q4.2.2.2.2.2.2.2.2.2.2.1.length (d4 10), .slice (b4 11) q4.2.2.2.2.2.2.2.2.2.2.2.1.length (d4 11), .int .i64 q4.2.2.2.2.2.2.2.2.2.2.2.2.1, .int .i64 q4.2.2.2.2.2.2.2.2.2.2.2.2.2.1, .int .i64 q4.2.2.2.2.2.2.2.2.2.2.2.2.2.2]] (by rfl) rfl rfl mp_ ?_
 with_reducible refine (eqW_ (W4.1.below E4.1) V4.1 Ee4.1).mono ?_
 rintro e wd ⟨rfl, hb⟩
 refine ⟨_, rfl, ?_⟩
 replace BX := Q_ (bb_ BX.1 hb)
 replace BY := Q_ (bb_ BY.1 hb)
 replace BD := Q_ (bb_ BD.1 hb)
 replace BJ := Q_ (bb_ BJ.1 hb)
 replace HB := Q_ (below_step HB.1 hb)
 replace E3 := Q_ (below_step E3.1 hb)
 replace E4 := Q_ (below_step E4.1 hb)
 clear hb
 refine hK.out _ _ ⟨BJ.1, BY.1⟩ (fun hHeld => ?_)
 clear hK K
 refine no_ (some 43) ?_
 refine pure_ (i := 4) (N := some 44) (v := ?_) (a' := ?_) #[true, true, true, true, true] rfl rfl (by kernel_rfl) (fun _ _ _ h => h) (Or.inl ⟨by rfl, ?_⟩) ?_ ?_
 rotate_left
 ·intro w'
  go_simp
  (try (simp only [Instr.field]; simp only [underlying, hu29, hu37]; go_simp; simp only [asAgg]; go_simp))
  with_reducible rfl
 rotate_left
 ·simp only [Act.put, List.setIfInBounds_toArray, List.set_cons_zero, List.set_cons_succ, i64_w, i32_w]
  rfl
 refine done_ (by kernel_rfl) ?_
 clear V4
 go_upto_if 44 with (fail)
 by_cases eG : e4 = true
 rotate_left
 ·replace eG := bf_ eG
  subst eG
  have H := HS.1
  rw [if_neg ff_] at H
  obtain rfl := Option.some.inj H
  go_wp2
  go_ret
  exact ⟨er_, HB.1⟩
 subst eG
 replace HS := Q_ ((if_pos rfl).symm.trans HS.1)
 obtain rfl := Option.some.inj HS.1
 go_wp2
 go_ret
 exact ⟨er_, HB.1⟩

/-- THE ONE PURE STATEMENT of laws_FnExactEqualWorlds: yours. -/
def laws_FnExactEqualWorlds.Pure : Prop := ∀ (a : S29) (b : S29), Q29 a → Q29 b → ∃ k, laws_FnExactEqualWorlds.f k a.f0 a.f1 a.f2 a.f3 a.f4.f0 a.f4.f1 a.f4.f2 a.f4.f3 a.f5 a.f6 a.f7 a.f8 a.f9 a.f10 a.f11 b.f0 b.f1 b.f2 b.f3 b.f4.f0 b.f4.f1 b.f4.f2 b.f4.f3 b.f5 b.f6 b.f7 b.f8 b.f9 b.f10 b.f11 = some true

end Go.Proofs.Ytchnkakjjbfklaa.Print
