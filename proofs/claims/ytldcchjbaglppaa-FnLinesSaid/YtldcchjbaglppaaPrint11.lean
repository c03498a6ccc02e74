-- Written by a program of this session (printx.py) out of the translation; Lean checks it.
import Derived.Test.YtldcchjbaglppaaPrint0
import Derived.Test.YtldcchjbaglppaaPrint10
namespace Go.Proofs.Ytldcchjbaglppaa.Print
open Go.RowKit Go.Proofs.YtldcchjbaglppaaW.PrintWords Go.Proofs.YtldcchjbaglppaaW.PrintLast Go.Proofs.YtldcchjbaglppaaW.PrintMore Go.Proofs.Ytldcchjbaglppaa.Short
attribute [local go_sem] max2_int min2_int max_two min_two max_three min_three max_four min_four   -- for this text's walks alone
set_option linter.unusedVariables false
set_option maxHeartbeats 8000000
set_option maxRecDepth 100000
set_option linter.unusedSimpArgs false

/-! ### spec_l13Draw: function 66 -/
mutual
def spec_l13Draw.l0 : Nat → Int → List Int → Int → Int → Int → List Bool → List (S78) → Option (Int × List Bool × (List (S78)) × Int × Int)
 | 0, _, _, _, _, _, _, _ => none
 | k + 1, l, c, i, j, a, d, e => if l < a then ((spec_l1Once.f c i j 2).bind fun g => ((spec_l1Below.f c g.2.1 g.2.2 3).bind fun b => (if l = 0 then ((spec_l1Below.f c b.2.1 b.2.2 2).bind fun h => (spec_l13Draw.j1 k l g.1 (wrap64 (1 + h.1)) c h.2.1 h.2.2 a d e)) else (spec_l13Draw.j1 k l g.1 b.1 c b.2.1 b.2.2 a d e)))) else (some (a, d, e, i, j))
def spec_l13Draw.j1 : Nat → Int → Bool → Int → List Int → Int → Int → Int → List Bool → List (S78) → Option (Int × List Bool × (List (S78)) × Int × Int)
 | 0, _, _, _, _, _, _, _, _, _ => none
 | k + 1, g, h, i, d, e, f, a, b, c => spec_l13Draw.l1 k g h i 0 d e f a b c
def spec_l13Draw.l1 : Nat → Int → Bool → Int → Int → List Int → Int → Int → Int → List Bool → List (S78) → Option (Int × List Bool × (List (S78)) × Int × Int)
 | 0, _, _, _, _, _, _, _, _, _, _ => none
 | k + 1, l, n, o, p, d, i, j, b, a, c => if p < o then ((spec_l1Below.f d i j 3).bind fun g => ((spec_l1Below.f d g.2.1 g.2.2 b).bind fun e => ((spec_MoveOf.f k b a c l n g.1).bind fun m => (if m < 0 then (if c.length < 4398046511104 then (spec_l13Draw.l1 k l n o (wrap64 (p + 1)) d e.2.1 e.2.2 b a (c ++ [(⟨l, n, g.1, e.1⟩ : S78)])) else (none)) else (spec_l13Draw.l1 k l n o (wrap64 (p + 1)) d e.2.1 e.2.2 b a c))))) else (if o = 0 then (if a.length < 140737488355328 then (spec_l13Draw.l0 k (wrap64 (l + 1)) d i j b (a ++ [true]) c) else (none)) else ((spec_l1Once.f d i j 4).bind fun h => (if a.length < 140737488355328 then (spec_l13Draw.l0 k (wrap64 (l + 1)) d h.2.1 h.2.2 b (a ++ [h.1]) c) else (none))))
end
def spec_l13Draw.f (k : Nat) (b : List Int) (c : Int) (d : Int) : Option (Int × List Bool × (List (S78)) × Int × Int) := (spec_l1Below.f b c d 4).bind fun a => (spec_l13Draw.l0 k 0 b a.2.1 a.2.2 (wrap64 (1 + a.1)) ([] : List Bool) ([] : List (S78)))
theorem spec_l13Draw.mono_l : ∀ k, (∀ a b c d e f g, LeO (spec_l13Draw.l0 k a b c d e f g) (spec_l13Draw.l0 (k + 1) a b c d e f g)) ∧ (∀ a b c d e f g i j, LeO (spec_l13Draw.j1 k a b c d e f g i j) (spec_l13Draw.j1 (k + 1) a b c d e f g i j)) ∧ (∀ a b c d e f g i j l, LeO (spec_l13Draw.l1 k a b c d e f g i j l) (spec_l13Draw.l1 (k + 1) a b c d e f g i j l))
 | 0 => ⟨fun _ _ _ _ _ _ _ r h => by simp [spec_l13Draw.l0] at h, fun _ _ _ _ _ _ _ _ _ r h => by simp [spec_l13Draw.j1] at h, fun _ _ _ _ _ _ _ _ _ _ r h => by simp [spec_l13Draw.l1] at h⟩
 | k + 1 => by
  obtain ⟨ih0, ih1, ih2⟩ := spec_l13Draw.mono_l k
  refine ⟨?_, ?_, ?_⟩
  ·intro a b c d e f g
   unfold spec_l13Draw.l0
   exact mo4_ ih0 ih1 ih2 spec_MoveOf.mono
  ·intro a b c d e f g i j
   unfold spec_l13Draw.j1
   exact mo4_ ih0 ih1 ih2 spec_MoveOf.mono
  ·intro a b c d e f g i j l
   unfold spec_l13Draw.l1
   exact mo4_ ih0 ih1 ih2 spec_MoveOf.mono
theorem spec_l13Draw.mono : ∀ a b c k, LeO (spec_l13Draw.f k a b c) (spec_l13Draw.f (k + 1) a b c) := by
 intro a b c k
 obtain ⟨ih0, ih1, ih2⟩ := spec_l13Draw.mono_l k
 unfold spec_l13Draw.f
 exact mo4_ ih0 ih1 ih2 spec_MoveOf.mono
def spec_l13Draw.T12 : Bool × List (List Nat × List Nat) := (true, [([], []), ([], []), ([], []), ([2], [2]), ([], []), ([], []), ([5], [5]), ([4, 6, 3], [4, 6]), ([0, 1, 3, 7], [0, 1, 3, 7]), ([], []), ([9, 8, 7, 0, 1, 2, 3, 4, 5, 6, 7, 8, 9], [8, 9])])
def spec_l13Draw.B12 : List Nat := [0, 0, 0, 4, 0, 0, 32, 124, 255, 0, 1023]
theorem spec_l13Draw.tab12 : rtab .any (opsOf Try.f66 12) = spec_l13Draw.T12 := by kernel_rfl
theorem spec_l13Draw.bits12 : waitsOk spec_l13Draw.T12.2 spec_l13Draw.B12 = true := by kernel_rfl
def spec_l13Draw.T15 : Bool × List (List Nat × List Nat) := (true, [([], []), ([0], [0]), ([], []), ([2], [2]), ([3], [3]), ([4], [4]), ([5, 4, 4], [4, 5]), ([4, 6], [4, 6]), ([7], [7]), ([1, 8, 6], [1, 8]), ([0, 1, 2, 3, 4, 5, 6, 7, 8, 9], []), ([10, 9, 9, 0, 1, 2, 3, 4, 5, 6, 7, 8, 9], [9, 10])])
def spec_l13Draw.B15 : List Nat := [0, 1, 0, 4, 12, 28, 60, 124, 252, 511, 1023, 2047]
theorem spec_l13Draw.tab15 : rtab .any (opsOf Try.f66 15) = spec_l13Draw.T15 := by kernel_rfl
theorem spec_l13Draw.bits15 : waitsOk spec_l13Draw.T15.2 spec_l13Draw.B15 = true := by kernel_rfl
theorem spec_l13Draw.calls (k : Nat) (g : Nat) (E : List Int) (aD : Int) (aE : Int) (r1 : Int) (r2 : List Bool) (r3 : List (S78)) (r4 : Int) (r5 : Int) (w0 w : World) (hI : IsS87 w0 w g E aD aE) (hB : Below w0.heap.size w0 w) (h : spec_l13Draw.f k E aD aE = some (r1, r2, r3, r4, r5)) :
  Calls Try.prog 66 #[.pointer (some ⟨g, 0, none⟩)] w fun e w' => ∃ v1_ v2_ : Value, e = .returned (.agg #[.int .i64 r1, v1_, v2_]) ∧ Kd.R Kd.bool 4 w' w.heap.size (fun _ => True) v1_ r2 ∧ Kd.R k78 78 w' w.heap.size (fun _ => True) v2_ r3 ∧ IsS87 w0 w' g E r4 r5 ∧ Below w0.heap.size w0 w' ∧ KeepBut w w' g none := by
 have hu34 := Try.underlying34
 have hu78 := Try.underlying78
 have u := Q_ hI
 have HK := Q_ (KeepBut.refl w g none)
 have HL := Q_ hB.size
 clear hI
 have HW0 := Q_ hB.size
 have HB := Q_ hB
 clear hB
 have H : ((spec_l1Below.f E aD aE 4).bind fun aM => (spec_l13Draw.l0 k 0 E aM.2.1 aM.2.2 (wrap64 (1 + aM.1)) ([] : List Bool) ([] : List (S78)))) = some (r1, r2, r3, r4, r5) := h
 clear h
 obtain ⟨⟨M, a9, ba⟩, A2, H⟩ := bs_ H
 (try dsimp only at H)
 have H' := Q_ H
 clear H
 go_enter Try.func66, Try.ntmps66
 go_wp2_with (first | ((with_reducible refine gate_dst (N := 2) rfl ?_); refine bx_ 2 #[.int .i64 0, .slice none 0 0, .slice none 0 0] 34 ?_; intro J hg w3 hbox hb; have _ := Q_ (IsS87.below (qs87_0_ u.1) hb); have _ := Q_ (KeepBut.trans (qk0_ HK.1) (KeepBut.of_below hb g none) (.inl rfl)); have _ := Q_ (below_step (qb1_ HB.1 (IsS87.ge u.1)) hb); have m := Q_ (hbox); have C := Q_ ((by rw [hg]; exact (keep_size (w := w) (g := g) (row := none) (qk0_ HK.1)) : w.heap.size ≤ J)); have L := Q_ (Nat.le_trans HW0.1 C.1); have r := Q_ ((by rw [hg]; exact Nat.ne_of_lt (IsS87.lt (show IsS87 w0 _ g E aD aE from qs87_0_ u.1)) : g ≠ J)); have Z := Q_ r.1.symm; clear u HK HB; rename_i u HK HB; clear hb hbox hg) | ((with_reducible refine gate_callee (f := 54) rfl ?_); refine gl_ (some 10) Try.func54 #[.pointer (some ⟨g, 0, none⟩), .int .i64 4] ?_; (with_reducible refine (spec_l1Below.calls g E aD aE 4 M a9 ba w0 _ ?side1 ?side2 A2.1).mono ?_); (case side1 => exact qs87_1_ u.1 r.1); (case side2 => exact qb2_ HB.1 (IsS87.ge u.1) L.1); rintro e w4 ⟨rfl, hi, hb, hk⟩; refine ⟨_, rfl, ?_⟩; have _ := Q_ (KeepBut.blk hk (g' := J) (o := .cells #[.int .i64 0, .slice none 0 0, .slice none 0 0] 34 (0, 0)) (pk_ m.1) Z.1 (by simp)); have _ := Q_ (KeepBut.trans (qk1_ HK.1 C.1) hk (.inl rfl)); have _ := Q_ (hb); have _ := Q_ (hi); clear m HK HB u; rename_i m HK HB u; (try clear hb hk hi)) | ((with_reducible refine gate_dst (N := 3) rfl ?_); refine bx_ 3 #[.int .i64 0, .slice none 0 0, .slice none 0 0] 34 ?_; intro x hg w5 hbox hb; have _ := Q_ (IsS87.below (qs87_1_ u.1 r.1) hb); have _ := Q_ (bb_ m.1 hb); have _ := Q_ (KeepBut.trans (qk1_ HK.1 C.1) (KeepBut.of_below hb g none) (.inl rfl)); have _ := Q_ (below_step (qb2_ HB.1 (IsS87.ge u.1) L.1) hb); have l := Q_ (hbox); have F := Q_ ((by rw [hg]; exact (keep_size (w := w) (g := g) (row := none) (qk1_ HK.1 C.1)) : w.heap.size ≤ x)); have O := Q_ (Nat.le_trans HW0.1 F.1); have aa := Q_ (nb_ hg m); have ad := Q_ aa.1.symm; have q := Q_ ((by rw [hg]; exact Nat.ne_of_lt (IsS87.lt (show IsS87 w0 _ g E a9 ba from qs87_1_ u.1 r.1)) : g ≠ x)); have W := Q_ q.1.symm; clear u m HK HB; rename_i u m HK HB; clear hb hbox hg; have c3 := ad.1; have c5 := aa.1; have c4 := W.1; have c6 := q.1; have c2 := bc3_ l.1))
 (try simp only [Act.put, s1_, s2_, s3_])
 go_loopg [4] k (fun kq v4 w' => ∃ (X : Int) (al : Int) (am : Int) (B : List Bool) (ae : List (S78)) (A : Value) (z : Value), v4 = .int .i64 X ∧ Aside0 (spec_l13Draw.l0 kq X E al am (wrap64 (1 + M)) B ae = some (r1, r2, r3, r4, r5)) ∧ Aside0 (kq ≤ k) ∧ Aside0 (Kd.R Kd.bool 4 w' w.heap.size (fun _ => True) A B) ∧ Aside0 (Kd.R k78 78 w' w.heap.size (fun _ => True) z ae) ∧ Aside0 (w'.heap[J]? = some (.cells #[.int .i64 0, (.slice none 0 0), (.slice none 0 0)] 34 (0, 0))) ∧ Aside0 (w'.heap[x]? = some (.cells #[.int .i64 (wrap64 (1 + M)), A, z] 34 (0, 0))) ∧ Aside0 (IsS87 w0 w' g E al am) ∧ Aside0 (KeepBut w w' g none) ∧ Aside0 (Below w0.heap.size w0 w'))
 case atStart => exact ⟨(0), (a9), (ba), (([] : List Bool)), (([] : List (S78))), (.slice none 0 0), (.slice none 0 0), el_, H', ⟨Nat.le_refl _⟩, ⟨by first | exact Kd.R_nil _ _ _ _ _ | exact Kd.N_nil _ _ _ _ _ | exact Kd.V_nil _ _ _ _ _ | exact Kd.Q_nil _ _ _ _ _ | exact Kd.S_nil _ _ _ _ _⟩, ⟨by first | exact Kd.R_nil _ _ _ _ _ | exact Kd.N_nil _ _ _ _ _ | exact Kd.V_nil _ _ _ _ _ | exact Kd.Q_nil _ _ _ _ _ | exact Kd.S_nil _ _ _ _ _⟩, ⟨pp_ m.1⟩, ⟨pp_ l.1⟩, ⟨qs87_2_ u.1 r.1 q.1⟩, ⟨qk2_ HK.1 C.1 F.1⟩, ⟨qb3_ HB.1 (IsS87.ge u.1) L.1 O.1⟩⟩
 clear H'
 obtain ⟨X, al, am, B, ae, A, z, rfl, HA, az, a, d, m, l, u, HK, HB⟩ := hrel
 rcases gk with _ | k1
 ·exact absurd HA.1 (by simp [spec_l13Draw.l0])
 have H := HA.1
 clear HA
 simp only [spec_l13Draw.l0] at H
 by_cases c9 : X < (wrap64 (1 + M))
 rotate_left
 ·rw [if_neg c9] at H
  have bH := decide_eq_false c9
  clear c9
  simp only [Option.some.injEq, Prod.mk.injEq] at H
  obtain ⟨rfl, rfl, rfl, rfl, rfl⟩ := H
  have cv := ad.1
  have cK := aa.1
  have cw := W.1
  have cL := q.1
  have cg := bc3_ l.1
  have cx := Z.1
  have cM := r.1
  have ch := bc3_ m.1
  obtain ⟨bF, bI, bK⟩ := Kd.R_slice a.1
  subst bK
  obtain ⟨bG, bJ, bL⟩ := Kd.R_slice d.1
  subst bL
  go_wp2
  refine bodyPost_ret (results_cell_row rfl _ _ J 34 #[.int .i64 (wrap64 (1 + M)), .slice bF B.length bI, .slice bG ae.length bJ] (0, 0) _ rfl (pp_ m.1) Try.underlying34 rfl (by kernel_rfl)) rfl ?_
  exact ⟨_, _, er_, pr_ (Kd.R_mono (rf3_ a.1 m.1) (fun _ hk => trivial)), pr_ (Kd.R_mono (rf3_ d.1 m.1) (fun _ hk => trivial)), qs87_2_ u.1 r.1 q.1, qb3_ HB.1 (IsS87.ge u.1) L.1 O.1, qk2_ HK.1 C.1 F.1⟩
 rw [if_pos c9] at H
 have bH := decide_eq_true c9
 clear c9
 obtain ⟨⟨af, aT, aU⟩, cb, H⟩ := bs_ H
 (try dsimp only at H)
 obtain ⟨⟨bn, aG, aH⟩, cc, H⟩ := bs_ H
 (try dsimp only at H)
 have a2 := Q_ H
 clear H
 have cy := ad.1
 have cN := aa.1
 have cz := W.1
 have cO := q.1
 have ci := bc3_ l.1
 go_upto_if 24 with (first | ((with_reducible refine gate_callee (f := 51) rfl ?_); refine gl_ (some 20) Try.func51 #[.pointer (some ⟨g, 0, none⟩), .int .i64 2] ?_; (with_reducible refine (spec_l1Once.calls g E al am 2 af aT aU w0 _ ?side1 ?side2 cb.1).mono ?_); (case side1 => exact qs87_2_ u.1 r.1 q.1); (case side2 => exact qb3_ HB.1 (IsS87.ge u.1) L.1 O.1); rintro e dl ⟨rfl, hi, hb, hk⟩; refine ⟨_, rfl, ?_⟩; have _ := Q_ (Kd.R_mono (Kd.R_keep (IsS87.apart (show IsS87 w0 _ g E al am from qs87_2_ u.1 r.1 q.1) (pr_ a.1) (by decide)) hk (fun _ h => h.2)) (fun _ h => h.1)); have _ := Q_ (Kd.R_mono (Kd.R_keep (IsS87.apart (show IsS87 w0 _ g E al am from qs87_2_ u.1 r.1 q.1) (pr_ d.1) (by decide)) hk (fun _ h => h.2)) (fun _ h => h.1)); have _ := Q_ (KeepBut.blk hk (g' := J) (o := .cells #[.int .i64 0, .slice none 0 0, .slice none 0 0] 34 (0, 0)) (pk_ m.1) Z.1 (by simp)); have _ := Q_ (KeepBut.blk hk (g' := x) (o := .cells #[.int .i64 (wrap64 (1 + M)), A, z] 34 (0, 0)) (pk_ l.1) W.1 (by simp)); have _ := Q_ (KeepBut.trans (qk2_ HK.1 C.1 F.1) hk (.inl rfl)); have _ := Q_ (hb); have _ := Q_ (hi); clear a d m l HK HB u; rename_i a d m l HK HB u; (try clear hb hk hi)) | ((with_reducible refine gate_callee (f := 54) rfl ?_); refine gl_ (some 22) Try.func54 #[.pointer (some ⟨g, 0, none⟩), .int .i64 3] ?_; (with_reducible refine (spec_l1Below.calls g E aT aU 3 bn aG aH w0 _ ?side1 ?side2 cc.1).mono ?_); (case side1 => exact qs87_2_ u.1 r.1 q.1); (case side2 => exact qb3_ HB.1 (IsS87.ge u.1) L.1 O.1); rintro e dm ⟨rfl, hi, hb, hk⟩; refine ⟨_, rfl, ?_⟩; have _ := Q_ (Kd.R_mono (Kd.R_keep (IsS87.apart (show IsS87 w0 _ g E aT aU from qs87_2_ u.1 r.1 q.1) (pr_ a.1) (by decide)) hk (fun _ h => h.2)) (fun _ h => h.1)); have _ := Q_ (Kd.R_mono (Kd.R_keep (IsS87.apart (show IsS87 w0 _ g E aT aU from qs87_2_ u.1 r.1 q.1) (pr_ d.1) (by decide)) hk (fun _ h => h.2)) (fun _ h => h.1)); have _ := Q_ (KeepBut.blk hk (g' := J) (o := .cells #[.int .i64 0, .slice none 0 0, .slice none 0 0] 34 (0, 0)) (pk_ m.1) Z.1 (by simp)); have _ := Q_ (KeepBut.blk hk (g' := x) (o := .cells #[.int .i64 (wrap64 (1 + M)), A, z] 34 (0, 0)) (pk_ l.1) W.1 (by simp)); have _ := Q_ (KeepBut.trans (qk2_ HK.1 C.1 F.1) hk (.inl rfl)); have _ := Q_ (hb); have _ := Q_ (hi); clear a d m l HK HB u; rename_i a d m l HK HB u; (try clear hb hk hi)))
 (try simp only [Act.put, s1_, s2_, s3_])
 go_cut [6] (fun v6 wc => ∃ (kq : Nat) (ai : Int) (ap : Int) (aq : Int), v6 = .int .i64 ai ∧ Aside0 (spec_l13Draw.j1 kq X af ai E ap aq (wrap64 (1 + M)) B ae = some (r1, r2, r3, r4, r5)) ∧ Aside0 (kq ≤ k1) ∧ Aside0 (Kd.R Kd.bool 4 wc w.heap.size (fun _ => True) A B) ∧ Aside0 (Kd.R k78 78 wc w.heap.size (fun _ => True) z ae) ∧ Aside0 (wc.heap[J]? = some (.cells #[.int .i64 0, (.slice none 0 0), (.slice none 0 0)] 34 (0, 0))) ∧ Aside0 (wc.heap[x]? = some (.cells #[.int .i64 (wrap64 (1 + M)), A, z] 34 (0, 0))) ∧ Aside0 (IsS87 w0 wc g E ap aq) ∧ Aside0 (KeepBut w wc g none) ∧ Aside0 (Below w0.heap.size w0 wc))
 case first =>
  have H := a2.1
  clear a2
  by_cases aN : X = 0
  rotate_left
  ·rw [if_neg aN] at H
   have av : (X == 0) = false := beq_eq_false_iff_ne.mpr aN
   have aw : (X != 0) = true := bne_iff_ne.mpr aN
   (first | rw [av] | (simp only [i64_w, i32_w]; rw [av]) | rw [aw] | (have c_ := aw; rw [bne] at c_; rw [c_]; clear c_) | skip)
   have H' := Q_ H
   clear H
   go_wp2
   go_meet
   case rel => exact ⟨_, (bn), (aG), (aH), el_, H', ⟨by have := az.1; first | omega | exact Nat.le_refl _⟩, ⟨pr_ a.1⟩, ⟨pr_ d.1⟩, ⟨pk_ m.1⟩, ⟨pk_ l.1⟩, ⟨qs87_2_ u.1 r.1 q.1⟩, ⟨qk2_ HK.1 C.1 F.1⟩, ⟨qb3_ HB.1 (IsS87.ge u.1) L.1 O.1⟩⟩
  rw [if_pos aN] at H
  have av : (X == 0) = true := beq_iff_eq.mpr aN
  have aw : (X != 0) = false := bne_eq_false_iff_eq.mpr aN
  clear aN
  (first | rw [av] | (simp only [i64_w, i32_w]; rw [av]) | rw [aw] | (have c_ := aw; rw [bne] at c_; rw [c_]; clear c_) | skip)
  obtain ⟨⟨bo, bp, bq⟩, cd, H⟩ := bs_ H
  (try dsimp only at H)
  have H' := Q_ H
  clear H
  go_wp2_with (first | ((with_reducible refine gate_callee (f := 54) rfl ?_); refine gl_ (some 26) Try.func54 #[.pointer (some ⟨g, 0, none⟩), .int .i64 2] ?_; (with_reducible refine (spec_l1Below.calls g E aG aH 2 bo bp bq w0 _ ?side1 ?side2 cd.1).mono ?_); (case side1 => exact qs87_2_ u.1 r.1 q.1); (case side2 => exact qb3_ HB.1 (IsS87.ge u.1) L.1 O.1); rintro e dn ⟨rfl, hi, hb, hk⟩; refine ⟨_, rfl, ?_⟩; have _ := Q_ (Kd.R_mono (Kd.R_keep (IsS87.apart (show IsS87 w0 _ g E aG aH from qs87_2_ u.1 r.1 q.1) (pr_ a.1) (by decide)) hk (fun _ h => h.2)) (fun _ h => h.1)); have _ := Q_ (Kd.R_mono (Kd.R_keep (IsS87.apart (show IsS87 w0 _ g E aG aH from qs87_2_ u.1 r.1 q.1) (pr_ d.1) (by decide)) hk (fun _ h => h.2)) (fun _ h => h.1)); have _ := Q_ (KeepBut.blk hk (g' := J) (o := .cells #[.int .i64 0, .slice none 0 0, .slice none 0 0] 34 (0, 0)) (pk_ m.1) Z.1 (by simp)); have _ := Q_ (KeepBut.blk hk (g' := x) (o := .cells #[.int .i64 (wrap64 (1 + M)), A, z] 34 (0, 0)) (pk_ l.1) W.1 (by simp)); have _ := Q_ (KeepBut.trans (qk2_ HK.1 C.1 F.1) hk (.inl rfl)); have _ := Q_ (hb); have _ := Q_ (hi); clear a d m l HK HB u; rename_i a d m l HK HB u; (try clear hb hk hi)))
  go_meet
  case rel => exact ⟨_, (wrap64 (1 + bo)), (bp), (bq), el_, H', ⟨by have := az.1; first | omega | exact Nat.le_refl _⟩, ⟨pr_ a.1⟩, ⟨pr_ d.1⟩, ⟨pk_ m.1⟩, ⟨pk_ l.1⟩, ⟨qs87_2_ u.1 r.1 q.1⟩, ⟨qk2_ HK.1 C.1 F.1⟩, ⟨qb3_ HB.1 (IsS87.ge u.1) L.1 O.1⟩⟩
 clear a2
 obtain ⟨kq, ai, ap, aq, rfl, HA, au, a, d, m, l, u, HK, HB⟩ := hcut
 rcases kq with _ | kj18
 ·exact absurd HA.1 (by simp [spec_l13Draw.j1])
 have H := HA.1
 clear HA
 simp only [spec_l13Draw.j1] at H
 have H' := Q_ H
 clear H
 go_wp2
 go_loopg [7] kj18 (fun kq v7 w' => ∃ (ay : Int) (U : Int) (V : Int) (D : List (S78)) (z : Value), v7 = .int .i64 ay ∧ Aside0 (spec_l13Draw.l1 kq X af ai ay E U V (wrap64 (1 + M)) B D = some (r1, r2, r3, r4, r5)) ∧ Aside0 (kq ≤ kj18) ∧ Aside0 (Kd.R Kd.bool 4 w' w.heap.size (fun _ => True) A B) ∧ Aside0 (Kd.R k78 78 w' w.heap.size (fun _ => True) z D) ∧ Aside0 (w'.heap[J]? = some (.cells #[.int .i64 0, (.slice none 0 0), (.slice none 0 0)] 34 (0, 0))) ∧ Aside0 (w'.heap[x]? = some (.cells #[.int .i64 (wrap64 (1 + M)), A, z] 34 (0, 0))) ∧ Aside0 (IsS87 w0 w' g E U V) ∧ Aside0 (KeepBut w w' g none) ∧ Aside0 (Below w0.heap.size w0 w'))
 case atStart => exact ⟨(0), (ap), (aq), (ae), (z), el_, H', ⟨Nat.le_refl _⟩, ⟨pr_ a.1⟩, ⟨pr_ d.1⟩, ⟨pk_ m.1⟩, ⟨pk_ l.1⟩, ⟨qs87_2_ u.1 r.1 q.1⟩, ⟨qk2_ HK.1 C.1 F.1⟩, ⟨qb3_ HB.1 (IsS87.ge u.1) L.1 O.1⟩⟩
 clear H'
 obtain ⟨ay, U, V, D, z, rfl, HA, aC, a, d, m, l, u, HK, HB⟩ := hrel
 rcases gk with _ | k3
 ·exact absurd HA.1 (by simp [spec_l13Draw.l1])
 have H := HA.1
 clear HA
 simp only [spec_l13Draw.l1] at H
 by_cases aW : ay < ai
 rotate_left
 ·rw [if_neg aW] at H
  have bA := decide_eq_false aW
  clear aW
  by_cases aQ : ai = 0
  ·rw [if_pos aQ] at H
   have bB : (ai == 0) = true := beq_iff_eq.mpr aQ
   have bC : (ai != 0) = false := bne_eq_false_iff_eq.mpr aQ
   clear aQ
   by_cases bd : B.length < 140737488355328
   rotate_left
   ·rw [if_neg bd] at H
    exact nn_ H
   rw [if_pos bd] at H
   have bt := Q_ bd
   clear bd
   obtain ⟨aI, hy359⟩ : ∃ y_ : List Bool, y_ = (B ++ [true]) := ⟨_, rfl⟩
   replace H : (spec_l13Draw.l0 k3 (wrap64 (X + 1)) E U V (wrap64 (1 + M)) aI D) = some (r1, r2, r3, r4, r5) := hb_ hy359 H
   have bw := Q_ hy359
   clear hy359
   have H' := Q_ H
   clear H
   try go_wp2
   have _ := Q_ (Kd.R_drew a.1)
   have _ := Q_ (Kd.R_drew d.1)
   have _ := Q_ (blk_drew m.1)
   have _ := Q_ (blk_drew l.1)
   have _ := Q_ (IsS87.drew u.1)
   have _ := Q_ (keep_drew HK.1)
   have _ := Q_ (below_drew1 HB.1)
   clear a d m l u HK HB
   rename_i a d m l u HK HB
   refine start_ (n := 12) (S := fun w' => w'.cell? ⟨x, 0, none⟩ = some (.int .i64 (wrap64 (1 + M))) ∧ w'.cell? ⟨x, 1, none⟩ = some (A) ∧ w'.cell? ⟨x, 2, none⟩ = some (z)) (ds := [11]) #[false, false, false, false, false, false, false, false, false, false, false, false] (by kernel_rfl) rfl rfl (sb_ l.1) (fun hHeld => ?_); refine with_tabW spec_l13Draw.tab15 spec_l13Draw.bits15 (fun HT_ HW_ => ?_)
   generalize wr.drew = dp at a d m l u HK HB hHeld ⊢
   refine pu1_ 0 55 12 1 ?_
   refine pu1_ 2 57 12 5 ?_
   refine pu1_ 3 58 12 13 ?_
   refine pu1_ 4 59 12 29 ?_
   refine pn1_ 5 60 12 61 ?_
   refine pn1_ 6 61 12 125 ?_
   refine pu1_ 7 62 12 253 ?_
   refine ta1_ 1 56 12 255 hHeld ?_
   refine on_ 8 (some 63) (tf_ 9 12) HT_ (fun K hK => ?_)
   refine value_ (w1 := ?_) (v := ?_) (by rfl) rfl ?_ ?_
   rotate_left 2
   ·go_simp
    constructor
    ·rfl
    ·rfl
   refine hK.out _ _ ⟨(blk_cell (blk_alloc l.1 _) 0).trans rfl, (blk_cell (blk_alloc l.1 _) 1).trans rfl, (blk_cell (blk_alloc l.1 _) 2).trans rfl⟩ (fun hHeld => ?_)
   clear hK K
   refine no_ (some 63) ?_
   refine on_ 9 (some 64) (tf_ 10 12) HT_ (fun K hK => ?_)
   refine Kd.R_append_step Kd.bool w.heap.size (by rfl) (.tmp 56) (.tmp 63) 23 4 (.bool false) 1 rfl Try.underlying23 info4 rfl (by decide) (by omega) A B true [.bool true] (fun _ => True) (fun _ => False) rfl rfl ?aP (fun _ hk => hk.elim) ?aF ?aO (Below.refl _ _) ?aS ?aL ?_
   (case aP => exact rfl)
   (case aF => exact (fun _ _ => trivial))
   (case aO => exact (pr_ a.1))
   (case aS => exact (keep_size (w := w) (g := g) (row := none) (qk2_ HK.1 C.1 F.1)))
   (case aL => have := bt.1; omega)
   intro de cZ ho hb hg hat
   rw [← bw.1] at ho
   have _ := Q_ (Kd.R_over' (pr_ d.1) (Kd.R_typed (pr_ a.1)) (by decide) hg)
   have _ := Q_ (blk_grown (g := J) (o := .cells #[.int .i64 0, .slice none 0 0, .slice none 0 0] 34 (0, 0)) (pk_ m.1) hg (Kd.R_ne a.1 m.1 (by decide)))
   have _ := Q_ (blk_grown (g := x) (o := .cells #[.int .i64 (wrap64 (1 + M)), A, z] 34 (0, 0)) (pk_ l.1) hg (Kd.R_ne a.1 l.1 (by decide)))
   have _ := Q_ (IsS87.grown (qs87_2_ u.1 r.1 q.1) hg (IsS87.own_ne u.1 a.1 (by decide)))
   have _ := Q_ (below_weaken (qb3_ HB.1 (IsS87.ge u.1) L.1 O.1) HL.1 hb)
   have _ := Q_ (KeepBut.trans (qk2_ HK.1 C.1 F.1) (KeepBut.of_grown hg g) (Kd.R_base2 a.1))
   have _ := Q_ (ho)
   clear d m l u HB HK a
   rename_i d m l u HB HK a3
   clear ho hb hg hat
   obtain ⟨aY, a6, bl⟩ := Kd.R_slice a3.1
   (first | subst bl | (injection bl with f1_ f2_ f3_; have f4_ := f1_.symm; have f5_ := f3_.symm; clear f1_ f2_ f3_; subst f4_; subst f5_))
   refine hK.out _ _ (sb_ l.1) (fun hHeld => ?_)
   clear hK K
   refine no_ (some 64) ?_
   refine pu1_ 10 65 12 2047 ?_
   refine last_ (i := 11) (N := none) #[true, true, true, true, true, true, true, true, true, true, true, true] rfl rfl (one_of HT_.1 (by kernel_rfl)) (by decide) (fun K hK => ?_)
   have c7 : cZ.cell? ⟨x, 1, none⟩ = some (A) := (blk_cell l.1 1).trans rfl
   have co := blk_frozen l.1 1
   have bZ := aa.1
   have bP := ad.1
   refine skip_ (w1 := ?_) (by rfl) rfl ?_ ?_
   rotate_left
   ·go_simp
    rfl
   refine hK.out _ _ ?_
   clear hK K
   refine done_ (done_of HT_.1 (by kernel_rfl)) ?_
   try go_wp2
   go_roundg k3
   case measure => have := az.1; have := au.1; have := aC.1; omega
   case rel => exact ⟨(wrap64 (X + 1)), (U), (V), (aI), (D), (.slice aY aI.length a6), (z), el_, H', ⟨by have := az.1; have := au.1; have := aC.1; omega⟩, ⟨pr_ (Kd.R_mono (Kd.R_far (p := ⟨x, 1, none⟩) (Kd.R_types a3.1 l.1 (by decide)) (fun _ hk => hk.2) (.slice aY aI.length a6)) (fun _ hk => trivial))⟩, ⟨pr_ (Kd.R_mono (Kd.R_far (p := ⟨x, 1, none⟩) (Kd.R_types d.1 l.1 (by decide)) (fun _ hk => hk.2) (.slice aY aI.length a6)) (fun _ hk => trivial))⟩, ⟨pp_ m.1⟩, ⟨pp_ l.1⟩, ⟨qs87_2_ u.1 r.1 q.1⟩, ⟨qk2_ HK.1 C.1 F.1⟩, ⟨qb3_ HB.1 (IsS87.ge u.1) L.1 O.1⟩⟩
  rw [if_neg aQ] at H
  have bB : (ai == 0) = false := beq_eq_false_iff_ne.mpr aQ
  have bC : (ai != 0) = true := bne_iff_ne.mpr aQ
  obtain ⟨⟨aV, bb, bc⟩, ce, H⟩ := bs_ H
  (try dsimp only at H)
  by_cases be : B.length < 140737488355328
  rotate_left
  ·rw [if_neg be] at H
   exact nn_ H
  rw [if_pos be] at H
  have bu := Q_ be
  clear be
  obtain ⟨aJ, hy365⟩ : ∃ y_ : List Bool, y_ = (B ++ [aV]) := ⟨_, rfl⟩
  replace H : (spec_l13Draw.l0 k3 (wrap64 (X + 1)) E bb bc (wrap64 (1 + M)) aJ D) = some (r1, r2, r3, r4, r5) := hb_ hy365 H
  have bx := Q_ hy365
  clear hy365
  have H' := Q_ H
  clear H
  try go_wp2
  have _ := Q_ (Kd.R_drew a.1)
  have _ := Q_ (Kd.R_drew d.1)
  have _ := Q_ (blk_drew m.1)
  have _ := Q_ (blk_drew l.1)
  have _ := Q_ (IsS87.drew u.1)
  have _ := Q_ (keep_drew HK.1)
  have _ := Q_ (below_drew1 HB.1)
  clear a d m l u HK HB
  rename_i a d m l u HK HB
  refine start_ (n := 12) (S := fun w' => w'.cell? ⟨x, 0, none⟩ = some (.int .i64 (wrap64 (1 + M))) ∧ w'.cell? ⟨x, 1, none⟩ = some (A) ∧ w'.cell? ⟨x, 2, none⟩ = some (z)) (ds := [11]) #[false, false, false, false, false, false, false, false, false, false, false, false] (by kernel_rfl) rfl rfl (sb_ l.1) (fun hHeld => ?_); refine with_tabW spec_l13Draw.tab15 spec_l13Draw.bits15 (fun HT_ HW_ => ?_)
  generalize wr.drew = dq at a d m l u HK HB hHeld ⊢
  refine pu1_ 0 55 12 1 ?_
  refine pu1_ 2 57 12 5 ?_
  refine pu1_ 3 58 12 13 ?_
  refine pu1_ 4 59 12 29 ?_
  refine pu1_ 5 60 12 61 ?_
  refine ta1_ 1 56 12 63 hHeld ?_
  refine on_ 6 (some 61) (tf_ 7 12) HT_ (fun K hK => ?_)
  refine goes_ Try.func51 (by kernel_rfl) rfl #[.pointer (some ⟨g, 0, none⟩), .int .i64 4] (by rfl) rfl rfl mp_ ?_
  with_reducible refine (spec_l1Once.calls g E U V 4 aV bb bc w0 _ ?side1 ?side2 ce.1).mono ?_
  (case side1 => exact qs87_2_ u.1 r.1 q.1)
  (case side2 => exact qb3_ HB.1 (IsS87.ge u.1) L.1 O.1)
  rintro e dr ⟨rfl, hi, hb, hk⟩
  refine ⟨_, rfl, ?_⟩
  have _ := Q_ (Kd.R_mono (Kd.R_keep (IsS87.apart (show IsS87 w0 _ g E U V from qs87_2_ u.1 r.1 q.1) (pr_ a.1) (by decide)) hk (fun _ h => h.2)) (fun _ h => h.1))
  have _ := Q_ (Kd.R_mono (Kd.R_keep (IsS87.apart (show IsS87 w0 _ g E U V from qs87_2_ u.1 r.1 q.1) (pr_ d.1) (by decide)) hk (fun _ h => h.2)) (fun _ h => h.1))
  have _ := Q_ (KeepBut.blk hk (g' := J) (o := .cells #[.int .i64 0, .slice none 0 0, .slice none 0 0] 34 (0, 0)) (pk_ m.1) Z.1 (by simp))
  have _ := Q_ (KeepBut.blk hk (g' := x) (o := .cells #[.int .i64 (wrap64 (1 + M)), A, z] 34 (0, 0)) (pk_ l.1) W.1 (by simp))
  have _ := Q_ (KeepBut.trans (qk2_ HK.1 C.1 F.1) hk (.inl rfl))
  have _ := Q_ (hb)
  have _ := Q_ (hi)
  clear a d m l HK HB u
  rename_i a d m l HK HB u
  (try clear hb hk hi)
  refine hK.out _ _ (sb_ l.1) (fun hHeld => ?_)
  clear hK K
  refine no_ (some 61) ?_
  refine pu1_ 7 62 12 255 ?_
  refine on_ 8 (some 63) (tf_ 9 12) HT_ (fun K hK => ?_)
  refine value_ (w1 := ?_) (v := ?_) (by rfl) rfl ?_ ?_
  rotate_left 2
  ·go_simp
   constructor
   ·rfl
   ·rfl
  refine hK.out _ _ ⟨(blk_cell (blk_alloc l.1 _) 0).trans rfl, (blk_cell (blk_alloc l.1 _) 1).trans rfl, (blk_cell (blk_alloc l.1 _) 2).trans rfl⟩ (fun hHeld => ?_)
  clear hK K
  refine no_ (some 63) ?_
  refine on_ 9 (some 64) (tf_ 10 12) HT_ (fun K hK => ?_)
  refine Kd.R_append_step Kd.bool w.heap.size (by rfl) (.tmp 56) (.tmp 63) 23 4 (.bool false) 1 rfl Try.underlying23 info4 rfl (by decide) (by omega) A B aV [.bool aV] (fun _ => True) (fun _ => False) rfl rfl ?aP (fun _ hk => hk.elim) ?aF ?aO (Below.refl _ _) ?aS ?aL ?_
  (case aP => exact rfl)
  (case aF => exact (fun _ _ => trivial))
  (case aO => exact (pr_ a.1))
  (case aS => exact (keep_size (w := w) (g := g) (row := none) (qk2_ HK.1 C.1 F.1)))
  (case aL => have := bu.1; omega)
  intro df c0 ho hb hg hat
  rw [← bx.1] at ho
  have _ := Q_ (Kd.R_over' (pr_ d.1) (Kd.R_typed (pr_ a.1)) (by decide) hg)
  have _ := Q_ (blk_grown (g := J) (o := .cells #[.int .i64 0, .slice none 0 0, .slice none 0 0] 34 (0, 0)) (pk_ m.1) hg (Kd.R_ne a.1 m.1 (by decide)))
  have _ := Q_ (blk_grown (g := x) (o := .cells #[.int .i64 (wrap64 (1 + M)), A, z] 34 (0, 0)) (pk_ l.1) hg (Kd.R_ne a.1 l.1 (by decide)))
  have _ := Q_ (IsS87.grown (qs87_2_ u.1 r.1 q.1) hg (IsS87.own_ne u.1 a.1 (by decide)))
  have _ := Q_ (below_weaken (qb3_ HB.1 (IsS87.ge u.1) L.1 O.1) HL.1 hb)
  have _ := Q_ (KeepBut.trans (qk2_ HK.1 C.1 F.1) (KeepBut.of_grown hg g) (Kd.R_base2 a.1))
  have _ := Q_ (ho)
  clear d m l u HB HK a
  rename_i d m l u HB HK a4
  clear ho hb hg hat
  obtain ⟨aZ, a7, bm⟩ := Kd.R_slice a4.1
  (first | subst bm | (injection bm with f1_ f2_ f3_; have f4_ := f1_.symm; have f5_ := f3_.symm; clear f1_ f2_ f3_; subst f4_; subst f5_))
  refine hK.out _ _ (sb_ l.1) (fun hHeld => ?_)
  clear hK K
  refine no_ (some 64) ?_
  refine pu1_ 10 65 12 2047 ?_
  refine last_ (i := 11) (N := none) #[true, true, true, true, true, true, true, true, true, true, true, true] rfl rfl (one_of HT_.1 (by kernel_rfl)) (by decide) (fun K hK => ?_)
  have c8 : c0.cell? ⟨x, 1, none⟩ = some (A) := (blk_cell l.1 1).trans rfl
  have cp := blk_frozen l.1 1
  have b0 := aa.1
  have bQ := ad.1
  refine skip_ (w1 := ?_) (by rfl) rfl ?_ ?_
  rotate_left
  ·go_simp
   rfl
  refine hK.out _ _ ?_
  clear hK K
  refine done_ (done_of HT_.1 (by kernel_rfl)) ?_
  try go_wp2
  go_roundg k3
  case measure => have := az.1; have := au.1; have := aC.1; omega
  case rel => exact ⟨(wrap64 (X + 1)), (bb), (bc), (aJ), (D), (.slice aZ aJ.length a7), (z), el_, H', ⟨by have := az.1; have := au.1; have := aC.1; omega⟩, ⟨pr_ (Kd.R_mono (Kd.R_far (p := ⟨x, 1, none⟩) (Kd.R_types a4.1 l.1 (by decide)) (fun _ hk => hk.2) (.slice aZ aJ.length a7)) (fun _ hk => trivial))⟩, ⟨pr_ (Kd.R_mono (Kd.R_far (p := ⟨x, 1, none⟩) (Kd.R_types d.1 l.1 (by decide)) (fun _ hk => hk.2) (.slice aZ aJ.length a7)) (fun _ hk => trivial))⟩, ⟨pp_ m.1⟩, ⟨pp_ l.1⟩, ⟨qs87_2_ u.1 r.1 q.1⟩, ⟨qk2_ HK.1 C.1 F.1⟩, ⟨qb3_ HB.1 (IsS87.ge u.1) L.1 O.1⟩⟩
 rw [if_pos aW] at H
 have bA := decide_eq_true aW
 clear aW
 obtain ⟨⟨ag, aj, ak⟩, bE, H⟩ := bs_ H
 (try dsimp only at H)
 obtain ⟨⟨ah, an, ao⟩, bs, H⟩ := bs_ H
 (try dsimp only at H)
 have HS_ := Q_ H
 clear H
 try go_wp2
 have _ := Q_ (Kd.R_drew a.1)
 have _ := Q_ (Kd.R_drew d.1)
 have _ := Q_ (blk_drew m.1)
 have _ := Q_ (blk_drew l.1)
 have _ := Q_ (IsS87.drew u.1)
 have _ := Q_ (keep_drew HK.1)
 have _ := Q_ (below_drew1 HB.1)
 clear a d m l u HK HB
 rename_i a d m l u HK HB
 refine start_ (n := 11) (S := fun w' => w'.cell? ⟨x, 0, none⟩ = some (.int .i64 (wrap64 (1 + M))) ∧ w'.cell? ⟨x, 1, none⟩ = some (A) ∧ w'.cell? ⟨x, 2, none⟩ = some (z)) (ds := []) (tf_ 0 11) (by kernel_rfl) rfl rfl (sb_ l.1) (fun hHeld => ?_); refine with_tabW spec_l13Draw.tab12 spec_l13Draw.bits12 (fun HT_ HW_ => ?_)
 generalize wr.drew = dt at a d m l u HK HB hHeld ⊢
 refine pu1_ 0 33 11 1 ?_
 refine pu1_ 1 34 11 3 ?_
 refine pu1_ 2 35 11 7 ?_
 refine pu1_ 4 37 11 23 ?_
 refine pu1_ 5 38 11 55 ?_
 refine ta1_ 6 39 11 119 hHeld ?_
 refine join_ (σ := Nat) 1 #[true, true, true, true, true, true, true, true, true, true, false] (fun s_ => [(36, .int .i64 ag), (40, .int .i64 ah), (8, .pointer (some ⟨s_, 0, none⟩)), (41, .agg #[.int .i64 X, .bool af, .int .i64 ag, .int .i64 ah])]) (fun s_ w' => (w'.cell? ⟨x, 0, none⟩ = some (.int .i64 (wrap64 (1 + M))) ∧ w'.cell? ⟨x, 1, none⟩ = some (A) ∧ w'.cell? ⟨x, 2, none⟩ = some (z)) ∧ (Kd.R Kd.bool 4 w' w.heap.size (fun _ => True) A B) ∧ (Kd.R k78 78 w' w.heap.size (fun k_ => k_ ≠ s_) z D) ∧ (w'.heap[J]? = some (.cells #[.int .i64 0, .slice none 0 0, .slice none 0 0] 34 (0, 0))) ∧ (w'.heap[x]? = some (.cells #[.int .i64 (wrap64 (1 + M)), A, z] 34 (0, 0))) ∧ (w'.heap[s_]? = some (.cells #[.int .i64 0, .bool false, .int .i64 0, .int .i64 0] 78 (0, 0))) ∧ (w.heap.size ≤ s_) ∧ (w0.heap.size ≤ s_) ∧ (g ≠ s_) ∧ (s_ ≠ g) ∧ (J ≠ s_) ∧ (s_ ≠ J) ∧ (x ≠ s_) ∧ (s_ ≠ x) ∧ (IsS87 w0 w' g E an ao) ∧ (KeepBut w w' g none) ∧ (Below w0.heap.size w0 w')) ?_ ?_
 rotate_left
 ·intro hCont
  refine two_ (i := 3) (j := 9) (Ni := some 36) (Nj := some 8) #[true, true, true, true, true, true, true, false, false, false, false] #[true, true, true, false, true, true, true, false, false, true, false] rfl rfl rfl rfl (two_of HT_.1 (by kernel_rfl)) (by decide) (by decide) (fun K hK => ?_) (fun K hK => ?_)
  ·skip
   refine goes_ Try.func54 (by kernel_rfl) rfl #[.pointer (some ⟨g, 0, none⟩), .int .i64 3] (by rfl) rfl rfl mp_ ?_
   with_reducible refine (spec_l1Below.calls g E U V 3 ag aj ak w0 _ ?side1 ?side2 bE.1).mono ?_
   (case side1 => exact qs87_2_ u.1 r.1 q.1)
   (case side2 => exact qb3_ HB.1 (IsS87.ge u.1) L.1 O.1)
   rintro e c1 ⟨rfl, hi, hb, hk⟩
   refine ⟨_, rfl, ?_⟩
   have _ := Q_ (Kd.R_mono (Kd.R_keep (IsS87.apart (show IsS87 w0 _ g E U V from qs87_2_ u.1 r.1 q.1) (pr_ a.1) (by decide)) hk (fun _ h => h.2)) (fun _ h => h.1))
   have _ := Q_ (Kd.R_mono (Kd.R_keep (IsS87.apart (show IsS87 w0 _ g E U V from qs87_2_ u.1 r.1 q.1) (pr_ d.1) (by decide)) hk (fun _ h => h.2)) (fun _ h => h.1))
   have _ := Q_ (KeepBut.blk hk (g' := J) (o := .cells #[.int .i64 0, .slice none 0 0, .slice none 0 0] 34 (0, 0)) (pk_ m.1) Z.1 (by simp))
   have _ := Q_ (KeepBut.blk hk (g' := x) (o := .cells #[.int .i64 (wrap64 (1 + M)), A, z] 34 (0, 0)) (pk_ l.1) W.1 (by simp))
   have _ := Q_ (KeepBut.trans (qk2_ HK.1 C.1 F.1) hk (.inl rfl))
   have _ := Q_ (hb)
   have _ := Q_ (hi)
   clear a d m l HK HB u
   rename_i a d m l HK HB u
   (try clear hb hk hi)
   refine hK.out _ _ (sb_ l.1) (fun hHeld => ?_)
   clear hK K
   refine no_ (some 36) ?_
   refine two_ (i := 7) (j := 9) (Ni := some 40) (Nj := some 8) #[true, true, true, true, true, true, true, true, false, false, false] #[true, true, true, true, true, true, true, false, false, true, false] rfl rfl rfl rfl (two_of HT_.1 (by kernel_rfl)) (by decide) (by decide) (fun K hK => ?_) (fun K hK => ?_)
   ·skip
    refine goes_ Try.func54 (by kernel_rfl) rfl #[.pointer (some ⟨g, 0, none⟩), .int .i64 (wrap64 (1 + M))] (by rfl) rfl rfl mp_ ?_
    with_reducible refine (spec_l1Below.calls g E aj ak (wrap64 (1 + M)) ah an ao w0 _ ?side1 ?side2 bs.1).mono ?_
    (case side1 => exact qs87_2_ u.1 r.1 q.1)
    (case side2 => exact qb3_ HB.1 (IsS87.ge u.1) L.1 O.1)
    rintro e b9 ⟨rfl, hi, hb, hk⟩
    refine ⟨_, rfl, ?_⟩
    have _ := Q_ (Kd.R_mono (Kd.R_keep (IsS87.apart (show IsS87 w0 _ g E aj ak from qs87_2_ u.1 r.1 q.1) (pr_ a.1) (by decide)) hk (fun _ h => h.2)) (fun _ h => h.1))
    have _ := Q_ (Kd.R_mono (Kd.R_keep (IsS87.apart (show IsS87 w0 _ g E aj ak from qs87_2_ u.1 r.1 q.1) (pr_ d.1) (by decide)) hk (fun _ h => h.2)) (fun _ h => h.1))
    have _ := Q_ (KeepBut.blk hk (g' := J) (o := .cells #[.int .i64 0, .slice none 0 0, .slice none 0 0] 34 (0, 0)) (pk_ m.1) Z.1 (by simp))
    have _ := Q_ (KeepBut.blk hk (g' := x) (o := .cells #[.int .i64 (wrap64 (1 + M)), A, z] 34 (0, 0)) (pk_ l.1) W.1 (by simp))
    have _ := Q_ (KeepBut.trans (qk2_ HK.1 C.1 F.1) hk (.inl rfl))
    have _ := Q_ (hb)
    have _ := Q_ (hi)
    clear a d m l HK HB u
    rename_i a d m l HK HB u
    (try clear hb hk hi)
    refine hK.out _ _ (sb_ l.1) (fun hHeld => ?_)
    clear hK K
    refine no_ (some 40) ?_
    refine pu1_ 8 41 11 511 ?_
    refine on_ 9 (some 8) (tf_ 10 11) HT_ (fun K hK => ?_)
    refine box_step ?hg (N := 8) ?hd (cs := #[.int .i64 0, .bool false, .int .i64 0, .int .i64 0]) (t := 78) ?hr ?_; (case hd => rfl); (case hg => rfl); (case hr => first | (go_simp; done) | (go_simp; rfl))
    intro s hg ca hbox hb
    have _ := Q_ (Kd.R_below (pr_ a.1) hb)
    have _ := Q_ (Kd.R_below (Kd.R_elderB (pr_ d.1) s (Nat.le_of_eq hg.symm)) hb)
    have _ := Q_ (bb_ m.1 hb)
    have _ := Q_ (bb_ l.1 hb)
    have _ := Q_ (IsS87.below (qs87_2_ u.1 r.1 q.1) hb)
    have _ := Q_ (KeepBut.trans (qk2_ HK.1 C.1 F.1) (KeepBut.of_below hb g none) (.inl rfl))
    have _ := Q_ (below_step (qb3_ HB.1 (IsS87.ge u.1) L.1 O.1) hb)
    have _ := Q_ (hbox)
    have _ := Q_ ((by rw [hg]; exact (keep_size (w := w) (g := g) (row := none) (qk2_ HK.1 C.1 F.1)) : w.heap.size ≤ s))
    have _ := Q_ ((Nat.le_trans HW0.1 (by rw [hg]; exact (keep_size (w := w) (g := g) (row := none) (qk2_ HK.1 C.1 F.1)) : w.heap.size ≤ s) : w0.heap.size ≤ s))
    have _ := Q_ ((by rw [hg]; exact Nat.ne_of_lt (blk_lt (pk_ m.1)) : J ≠ s))
    have _ := Q_ ((by rw [hg]; exact Nat.ne_of_gt (blk_lt (pk_ m.1)) : s ≠ J))
    have _ := Q_ ((by rw [hg]; exact Nat.ne_of_lt (blk_lt (pk_ l.1)) : x ≠ s))
    have _ := Q_ ((by rw [hg]; exact Nat.ne_of_gt (blk_lt (pk_ l.1)) : s ≠ x))
    have _ := Q_ ((by rw [hg]; exact Nat.ne_of_lt (IsS87.lt (show IsS87 w0 _ g E an ao from qs87_2_ u.1 r.1 q.1)) : g ≠ s))
    have _ := Q_ ((by rw [hg]; exact Nat.ne_of_gt (IsS87.lt (show IsS87 w0 _ g E an ao from qs87_2_ u.1 r.1 q.1)) : s ≠ g))
    clear a d m l u HK HB
    rename_i a d m l u HK HB I Y ac P Q y T G ab
    clear hb hbox hg
    refine hK.out _ _ (sb_ l.1) (fun hHeld => ?_)
    clear hK K
    refine no_ (some 8) ?_
    exact norm_ (by simp only [putAll, Act.put, List.setIfInBounds_toArray, List.set_cons_zero, List.set_cons_succ]) (hCont (s) _ ⟨hHeld, (pr_ a.1), (pr_ (Kd.R_mono d.1 (fun _ hk => hk.2))), (pk_ m.1), (pk_ l.1), (pk_ I.1), Y.1, ac.1, G.1, ab.1, P.1, Q.1, y.1, T.1, (qs87_3_ u.1 r.1 q.1 G.1), (qk3_ HK.1 C.1 F.1 Y.1), (qb4_ HB.1 (IsS87.ge u.1) L.1 O.1 ac.1)⟩)
   ·skip
    refine box_step ?hg (N := 8) ?hd (cs := #[.int .i64 0, .bool false, .int .i64 0, .int .i64 0]) (t := 78) ?hr ?_; (case hd => rfl); (case hg => rfl); (case hr => first | (go_simp; done) | (go_simp; rfl))
    intro s hg b9 hbox hb
    have _ := Q_ (Kd.R_below (pr_ a.1) hb)
    have _ := Q_ (Kd.R_below (Kd.R_elderB (pr_ d.1) s (Nat.le_of_eq hg.symm)) hb)
    have _ := Q_ (bb_ m.1 hb)
    have _ := Q_ (bb_ l.1 hb)
    have _ := Q_ (IsS87.below (qs87_2_ u.1 r.1 q.1) hb)
    have _ := Q_ (KeepBut.trans (qk2_ HK.1 C.1 F.1) (KeepBut.of_below hb g none) (.inl rfl))
    have _ := Q_ (below_step (qb3_ HB.1 (IsS87.ge u.1) L.1 O.1) hb)
    have _ := Q_ (hbox)
    have _ := Q_ ((by rw [hg]; exact (keep_size (w := w) (g := g) (row := none) (qk2_ HK.1 C.1 F.1)) : w.heap.size ≤ s))
    have _ := Q_ ((Nat.le_trans HW0.1 (by rw [hg]; exact (keep_size (w := w) (g := g) (row := none) (qk2_ HK.1 C.1 F.1)) : w.heap.size ≤ s) : w0.heap.size ≤ s))
    have _ := Q_ ((by rw [hg]; exact Nat.ne_of_lt (blk_lt (pk_ m.1)) : J ≠ s))
    have _ := Q_ ((by rw [hg]; exact Nat.ne_of_gt (blk_lt (pk_ m.1)) : s ≠ J))
    have _ := Q_ ((by rw [hg]; exact Nat.ne_of_lt (blk_lt (pk_ l.1)) : x ≠ s))
    have _ := Q_ ((by rw [hg]; exact Nat.ne_of_gt (blk_lt (pk_ l.1)) : s ≠ x))
    have _ := Q_ ((by rw [hg]; exact Nat.ne_of_lt (IsS87.lt (show IsS87 w0 _ g E aj ak from qs87_2_ u.1 r.1 q.1)) : g ≠ s))
    have _ := Q_ ((by rw [hg]; exact Nat.ne_of_gt (IsS87.lt (show IsS87 w0 _ g E aj ak from qs87_2_ u.1 r.1 q.1)) : s ≠ g))
    clear a d m l u HK HB
    rename_i a d m l u HK HB I Y ac P Q y T G ab
    clear hb hbox hg
    refine hK.out _ _ (sb_ l.1) (fun hHeld => ?_)
    clear hK K
    refine no_ (some 8) ?_
    refine on_ 7 (some 40) (tm_ 11 767) HT_ (fun K hK => ?_)
    refine goes_ Try.func54 (by kernel_rfl) rfl #[.pointer (some ⟨g, 0, none⟩), .int .i64 (wrap64 (1 + M))] (by rfl) rfl rfl mp_ ?_
    with_reducible refine (spec_l1Below.calls g E aj ak (wrap64 (1 + M)) ah an ao w0 _ ?side1 ?side2 bs.1).mono ?_
    (case side1 => exact qs87_3_ u.1 r.1 q.1 G.1)
    (case side2 => exact qb4_ HB.1 (IsS87.ge u.1) L.1 O.1 ac.1)
    rintro e ca ⟨rfl, hi, hb, hk⟩
    refine ⟨_, rfl, ?_⟩
    have _ := Q_ (Kd.R_mono (Kd.R_keep (IsS87.apart (show IsS87 w0 _ g E aj ak from qs87_3_ u.1 r.1 q.1 G.1) (pr_ a.1) (by decide)) hk (fun _ h => h.2)) (fun _ h => h.1))
    have _ := Q_ (Kd.R_mono (Kd.R_keep (IsS87.apart (show IsS87 w0 _ g E aj ak from qs87_3_ u.1 r.1 q.1 G.1) (pr_ d.1) (by decide)) hk (fun _ h => h.2)) (fun _ h => h.1))
    have _ := Q_ (KeepBut.blk hk (g' := J) (o := .cells #[.int .i64 0, .slice none 0 0, .slice none 0 0] 34 (0, 0)) (pk_ m.1) Z.1 (by simp))
    have _ := Q_ (KeepBut.blk hk (g' := x) (o := .cells #[.int .i64 (wrap64 (1 + M)), A, z] 34 (0, 0)) (pk_ l.1) W.1 (by simp))
    have _ := Q_ (KeepBut.blk hk (g' := s) (o := .cells #[.int .i64 0, .bool false, .int .i64 0, .int .i64 0] 78 (0, 0)) (pk_ I.1) ab.1 (by simp))
    have _ := Q_ (KeepBut.trans (qk3_ HK.1 C.1 F.1 Y.1) hk (.inl rfl))
    have _ := Q_ (hb)
    have _ := Q_ (hi)
    clear a d m l I HK HB u
    rename_i a d m l I HK HB u
    (try clear hb hk hi)
    refine hK.out _ _ (sb_ l.1) (fun hHeld => ?_)
    clear hK K
    refine no_ (some 40) ?_
    refine pu1_ 8 41 11 1023 ?_
    exact norm_ (by simp only [putAll, Act.put, List.setIfInBounds_toArray, List.set_cons_zero, List.set_cons_succ]) (hCont (s) _ ⟨hHeld, (pr_ a.1), (pr_ (Kd.R_mono d.1 (fun _ hk => hk.2))), (pk_ m.1), (pk_ l.1), (pk_ I.1), Y.1, ac.1, G.1, ab.1, P.1, Q.1, y.1, T.1, (qs87_3_ u.1 r.1 q.1 G.1), (qk3_ HK.1 C.1 F.1 Y.1), (qb4_ HB.1 (IsS87.ge u.1) L.1 O.1 ac.1)⟩)
  ·skip
   refine box_step ?hg (N := 8) ?hd (cs := #[.int .i64 0, .bool false, .int .i64 0, .int .i64 0]) (t := 78) ?hr ?_; (case hd => rfl); (case hg => rfl); (case hr => first | (go_simp; done) | (go_simp; rfl))
   intro s hg c1 hbox hb
   have _ := Q_ (Kd.R_below (pr_ a.1) hb)
   have _ := Q_ (Kd.R_below (Kd.R_elderB (pr_ d.1) s (Nat.le_of_eq hg.symm)) hb)
   have _ := Q_ (bb_ m.1 hb)
   have _ := Q_ (bb_ l.1 hb)
   have _ := Q_ (IsS87.below (qs87_2_ u.1 r.1 q.1) hb)
   have _ := Q_ (KeepBut.trans (qk2_ HK.1 C.1 F.1) (KeepBut.of_below hb g none) (.inl rfl))
   have _ := Q_ (below_step (qb3_ HB.1 (IsS87.ge u.1) L.1 O.1) hb)
   have _ := Q_ (hbox)
   have _ := Q_ ((by rw [hg]; exact (keep_size (w := w) (g := g) (row := none) (qk2_ HK.1 C.1 F.1)) : w.heap.size ≤ s))
   have _ := Q_ ((Nat.le_trans HW0.1 (by rw [hg]; exact (keep_size (w := w) (g := g) (row := none) (qk2_ HK.1 C.1 F.1)) : w.heap.size ≤ s) : w0.heap.size ≤ s))
   have _ := Q_ ((by rw [hg]; exact Nat.ne_of_lt (blk_lt (pk_ m.1)) : J ≠ s))
   have _ := Q_ ((by rw [hg]; exact Nat.ne_of_gt (blk_lt (pk_ m.1)) : s ≠ J))
   have _ := Q_ ((by rw [hg]; exact Nat.ne_of_lt (blk_lt (pk_ l.1)) : x ≠ s))
   have _ := Q_ ((by rw [hg]; exact Nat.ne_of_gt (blk_lt (pk_ l.1)) : s ≠ x))
   have _ := Q_ ((by rw [hg]; exact Nat.ne_of_lt (IsS87.lt (show IsS87 w0 _ g E U V from qs87_2_ u.1 r.1 q.1)) : g ≠ s))
   have _ := Q_ ((by rw [hg]; exact Nat.ne_of_gt (IsS87.lt (show IsS87 w0 _ g E U V from qs87_2_ u.1 r.1 q.1)) : s ≠ g))
   clear a d m l u HK HB
   rename_i a d m l u HK HB I Y ac P Q y T G ab
   clear hb hbox hg
   refine hK.out _ _ (sb_ l.1) (fun hHeld => ?_)
   clear hK K
   refine no_ (some 8) ?_
   refine on_ 3 (some 36) (tm_ 11 639) HT_ (fun K hK => ?_)
   refine goes_ Try.func54 (by kernel_rfl) rfl #[.pointer (some ⟨g, 0, none⟩), .int .i64 3] (by rfl) rfl rfl mp_ ?_
   with_reducible refine (spec_l1Below.calls g E U V 3 ag aj ak w0 _ ?side1 ?side2 bE.1).mono ?_
   (case side1 => exact qs87_3_ u.1 r.1 q.1 G.1)
   (case side2 => exact qb4_ HB.1 (IsS87.ge u.1) L.1 O.1 ac.1)
   rintro e b9 ⟨rfl, hi, hb, hk⟩
   refine ⟨_, rfl, ?_⟩
   have _ := Q_ (Kd.R_mono (Kd.R_keep (IsS87.apart (show IsS87 w0 _ g E U V from qs87_3_ u.1 r.1 q.1 G.1) (pr_ a.1) (by decide)) hk (fun _ h => h.2)) (fun _ h => h.1))
   have _ := Q_ (Kd.R_mono (Kd.R_keep (IsS87.apart (show IsS87 w0 _ g E U V from qs87_3_ u.1 r.1 q.1 G.1) (pr_ d.1) (by decide)) hk (fun _ h => h.2)) (fun _ h => h.1))
   have _ := Q_ (KeepBut.blk hk (g' := J) (o := .cells #[.int .i64 0, .slice none 0 0, .slice none 0 0] 34 (0, 0)) (pk_ m.1) Z.1 (by simp))
   have _ := Q_ (KeepBut.blk hk (g' := x) (o := .cells #[.int .i64 (wrap64 (1 + M)), A, z] 34 (0, 0)) (pk_ l.1) W.1 (by simp))
   have _ := Q_ (KeepBut.blk hk (g' := s) (o := .cells #[.int .i64 0, .bool false, .int .i64 0, .int .i64 0] 78 (0, 0)) (pk_ I.1) ab.1 (by simp))
   have _ := Q_ (KeepBut.trans (qk3_ HK.1 C.1 F.1 Y.1) hk (.inl rfl))
   have _ := Q_ (hb)
   have _ := Q_ (hi)
   clear a d m l I HK HB u
   rename_i a d m l I HK HB u
   (try clear hb hk hi)
   refine hK.out _ _ (sb_ l.1) (fun hHeld => ?_)
   clear hK K
   refine no_ (some 36) ?_
   refine on_ 7 (some 40) (tm_ 11 767) HT_ (fun K hK => ?_)
   refine goes_ Try.func54 (by kernel_rfl) rfl #[.pointer (some ⟨g, 0, none⟩), .int .i64 (wrap64 (1 + M))] (by rfl) rfl rfl mp_ ?_
   with_reducible refine (spec_l1Below.calls g E aj ak (wrap64 (1 + M)) ah an ao w0 _ ?side1 ?side2 bs.1).mono ?_
   (case side1 => exact qs87_3_ u.1 r.1 q.1 G.1)
   (case side2 => exact qb4_ HB.1 (IsS87.ge u.1) L.1 O.1 ac.1)
   rintro e ca ⟨rfl, hi, hb, hk⟩
   refine ⟨_, rfl, ?_⟩
   have _ := Q_ (Kd.R_mono (Kd.R_keep (IsS87.apart (show IsS87 w0 _ g E aj ak from qs87_3_ u.1 r.1 q.1 G.1) (pr_ a.1) (by decide)) hk (fun _ h => h.2)) (fun _ h => h.1))
   have _ := Q_ (Kd.R_mono (Kd.R_keep (IsS87.apart (show IsS87 w0 _ g E aj ak from qs87_3_ u.1 r.1 q.1 G.1) (pr_ d.1) (by decide)) hk (fun _ h => h.2)) (fun _ h => h.1))
   have _ := Q_ (KeepBut.blk hk (g' := J) (o := .cells #[.int .i64 0, .slice none 0 0, .slice none 0 0] 34 (0, 0)) (pk_ m.1) Z.1 (by simp))
   have _ := Q_ (KeepBut.blk hk (g' := x) (o := .cells #[.int .i64 (wrap64 (1 + M)), A, z] 34 (0, 0)) (pk_ l.1) W.1 (by simp))
   have _ := Q_ (KeepBut.blk hk (g' := s) (o := .cells #[.int .i64 0, .bool false, .int .i64 0, .int .i64 0] 78 (0, 0)) (pk_ I.1) ab.1 (by simp))
   have _ := Q_ (KeepBut.trans (qk3_ HK.1 C.1 F.1 Y.1) hk (.inl rfl))
   have _ := Q_ (hb)
   have _ := Q_ (hi)
   clear a d m l I HK HB u
   rename_i a d m l I HK HB u
   (try clear hb hk hi)
   refine hK.out _ _ (sb_ l.1) (fun hHeld => ?_)
   clear hK K
   refine no_ (some 40) ?_
   refine pu1_ 8 41 11 1023 ?_
   exact norm_ (by simp only [putAll, Act.put, List.setIfInBounds_toArray, List.set_cons_zero, List.set_cons_succ]) (hCont (s) _ ⟨hHeld, (pr_ a.1), (pr_ (Kd.R_mono d.1 (fun _ hk => hk.2))), (pk_ m.1), (pk_ l.1), (pk_ I.1), Y.1, ac.1, G.1, ab.1, P.1, Q.1, y.1, T.1, (qs87_3_ u.1 r.1 q.1 G.1), (qk3_ HK.1 C.1 F.1 Y.1), (qb4_ HB.1 (IsS87.ge u.1) L.1 O.1 ac.1)⟩)
 rintro s ar ⟨hS_, h0_, h1_, h2_, h3_, h4_, h5_, h6_, h7_, h8_, h9_, h10_, h11_, h12_, h13_, h14_, h15_⟩
 have n0_ : Aside0 (Kd.R Kd.bool 4 ar w.heap.size (fun _ => True) A B) := ⟨h0_⟩
 have n1_ : Aside0 (Kd.R k78 78 ar w.heap.size (fun k_ => k_ ≠ s) z D) := ⟨h1_⟩
 have n2_ : Aside0 (ar.heap[J]? = some (.cells #[.int .i64 0, .slice none 0 0, .slice none 0 0] 34 (0, 0))) := ⟨h2_⟩
 have n3_ : Aside0 (ar.heap[x]? = some (.cells #[.int .i64 (wrap64 (1 + M)), A, z] 34 (0, 0))) := ⟨h3_⟩
 have n4_ : Aside0 (ar.heap[s]? = some (.cells #[.int .i64 0, .bool false, .int .i64 0, .int .i64 0] 78 (0, 0))) := ⟨h4_⟩
 have n5_ : Aside0 (w.heap.size ≤ s) := ⟨h5_⟩
 have n6_ : Aside0 (w0.heap.size ≤ s) := ⟨h6_⟩
 have n7_ : Aside0 (g ≠ s) := ⟨h7_⟩
 have n8_ : Aside0 (s ≠ g) := ⟨h8_⟩
 have n9_ : Aside0 (J ≠ s) := ⟨h9_⟩
 have n10_ : Aside0 (s ≠ J) := ⟨h10_⟩
 have n11_ : Aside0 (x ≠ s) := ⟨h11_⟩
 have n12_ : Aside0 (s ≠ x) := ⟨h12_⟩
 have n13_ : Aside0 (IsS87 w0 ar g E an ao) := ⟨h13_⟩
 have n14_ : Aside0 (KeepBut w ar g none) := ⟨h14_⟩
 have n15_ : Aside0 (Below w0.heap.size w0 ar) := ⟨h15_⟩
 clear a
 clear d
 clear m
 clear l
 clear u
 clear HK
 clear HB
 clear h0_ h1_ h2_ h3_ h4_ h5_ h6_ h7_ h8_ h9_ h10_ h11_ h12_ h13_ h14_ h15_
 have a := n0_
 have d := n1_
 have m := n2_
 have l := n3_
 have I := n4_
 have Y := n5_
 have ac := n6_
 have G := n7_
 have ab := n8_
 have P := n9_
 have Q := n10_
 have y := n11_
 have T := n12_
 have u := n13_
 have HK := n14_
 have HB := n15_
 clear n0_ n1_ n2_ n3_ n4_ n5_ n6_ n7_ n8_ n9_ n10_ n11_ n12_ n13_ n14_ n15_
 have hHeld : ar.cell? ⟨x, 0, none⟩ = some (.int .i64 (wrap64 (1 + M))) ∧ ar.cell? ⟨x, 1, none⟩ = some (A) ∧ ar.cell? ⟨x, 2, none⟩ = some (z) := hS_
 refine norm_ (a' := ?_) ?_ ?_
 rotate_left
 ·simp only [putAll, Act.put, List.setIfInBounds_toArray, List.set_cons_zero, List.set_cons_succ]
  rfl
 refine on_ 10 (none) (tf_ 11 11) HT_ (fun K hK => ?_)
 have da : ar.cell? ⟨s, 0, none⟩ = some (.int .i64 0) := (blk_cell I.1 0).trans rfl
 have cq := blk_frozen I.1 0
 have b1 := P.1
 have b2 := y.1
 have bR := Q.1
 have bS := T.1
 have db : ar.cell? ⟨s, 1, none⟩ = some (.bool false) := (blk_cell I.1 1).trans rfl
 have cr := blk_frozen I.1 1
 have b3 := P.1
 have b4 := y.1
 have bT := Q.1
 have bU := T.1
 have dc : ar.cell? ⟨s, 2, none⟩ = some (.int .i64 0) := (blk_cell I.1 2).trans rfl
 have ct := blk_frozen I.1 2
 have b5 := P.1
 have b6 := y.1
 have bV := Q.1
 have bW := T.1
 have dd : ar.cell? ⟨s, 3, none⟩ = some (.int .i64 0) := (blk_cell I.1 3).trans rfl
 have cu := blk_frozen I.1 3
 have b7 := P.1
 have b8 := y.1
 have bX := Q.1
 have bY := T.1
 refine skip_ (w1 := ?_) (by rfl) rfl ?_ ?_
 rotate_left
 ·go_simp
  rfl
 refine hK.out _ _ ⟨((cell_far (p := ⟨s, _, none⟩) y.1 _).trans (((cell_far (p := ⟨s, _, none⟩) y.1 _).trans (((cell_far (p := ⟨s, _, none⟩) y.1 _).trans (((cell_far (p := ⟨s, _, none⟩) y.1 _).trans (hHeld.1)))))))), ((cell_far (p := ⟨s, _, none⟩) y.1 _).trans (((cell_far (p := ⟨s, _, none⟩) y.1 _).trans (((cell_far (p := ⟨s, _, none⟩) y.1 _).trans (((cell_far (p := ⟨s, _, none⟩) y.1 _).trans (hHeld.2.1)))))))), ((cell_far (p := ⟨s, _, none⟩) y.1 _).trans (((cell_far (p := ⟨s, _, none⟩) y.1 _).trans (((cell_far (p := ⟨s, _, none⟩) y.1 _).trans (((cell_far (p := ⟨s, _, none⟩) y.1 _).trans (hHeld.2.2))))))))⟩ (fun hHeld => ?_)
 clear hK K
 refine done_ (done_of HT_.1 (by kernel_rfl)) ?_
 go_upto_region 13 with (fail)
 have H := HS_.1
 clear HS_
 obtain ⟨br, cf, H⟩ := bs_ H
 (try dsimp only at H)
 have HS_ := Q_ H
 clear H
 have cA := ad.1
 have cP := aa.1
 have cB := y.1
 have cQ := T.1
 have cC := W.1
 have cR := q.1
 have cj := bc3_ l.1
 have cD := Q.1
 have cS := P.1
 have cE := ab.1
 have cT := G.1
 have ck := bc4_ I.1
 obtain ⟨a0, aR, bM⟩ := Kd.R_slice a.1
 subst bM
 obtain ⟨aB, aA, bN⟩ := Kd.R_slice d.1
 subst bN
 go_upto_if 48 with (first | ((with_reducible refine gate_callee (f := 68) rfl ?_); refine gl_ (some 47) Try.func68 #[.agg #[.int .i64 (wrap64 (1 + M)), .slice a0 B.length aR, .slice aB D.length aA], .int .i64 X, .bool af, .int .i64 ag] ?_; (with_reducible refine (spec_MoveOf.calls k3 (wrap64 (1 + M)) _ _ B _ _ D X af ag br _ ?side1 ?side2 ?side3 ?side4 cf.1).mono ?_); (case side1 => refine (Kd.R_reads' (e := 4) (base := w.heap.size) (ok := fun k_ => True) (n := B.length) (c := aR) ?_).2.2; exact (pr_ (rf4_ a.1 I.1))); (case side2 => exact (Kd.R_reads' a.1).2.1); (case side3 => refine (Kd.R_reads' (e := 78) (base := w.heap.size) (ok := fun k_ => k_ ≠ s) (n := D.length) (c := aA) ?_).2.2; exact (by (with_reducible repeat (first | apply Kd.R_alloc | apply Kd.R_drewN | apply Kd.R_drew)); exact (Kd.R_mono (Kd.R_far (p := ⟨s, 3, none⟩) (Kd.R_far (p := ⟨s, 2, none⟩) (Kd.R_far (p := ⟨s, 1, none⟩) (Kd.R_far (p := ⟨s, 0, none⟩) (Kd.R_mono d.1 (fun k_ hk => (⟨hk, hk⟩ : _ ∧ k_ ≠ s))) (fun _ hk => hk.2) (.int .i64 X)) (fun _ hk => hk.2) (.bool af)) (fun _ hk => hk.2) (.int .i64 ag)) (fun _ hk => hk.2) (.int .i64 ah)) (fun _ h_ => h_.1)))); (case side4 => exact (Kd.R_reads' d.1).2.1); rintro e du ⟨rfl, hb⟩; refine ⟨_, rfl, ?_⟩; have _ := Q_ (Kd.R_below (pr_ (rf4_ a.1 I.1)) hb); have _ := Q_ (Kd.R_below (by (with_reducible repeat (first | apply Kd.R_alloc | apply Kd.R_drewN | apply Kd.R_drew)); exact (Kd.R_mono (Kd.R_far (p := ⟨s, 3, none⟩) (Kd.R_far (p := ⟨s, 2, none⟩) (Kd.R_far (p := ⟨s, 1, none⟩) (Kd.R_far (p := ⟨s, 0, none⟩) (Kd.R_mono d.1 (fun k_ hk => (⟨hk, hk⟩ : _ ∧ k_ ≠ s))) (fun _ hk => hk.2) (.int .i64 X)) (fun _ hk => hk.2) (.bool af)) (fun _ hk => hk.2) (.int .i64 ag)) (fun _ hk => hk.2) (.int .i64 ah)) (fun _ h_ => h_.1))) hb); have _ := Q_ (blk_below (g := J) (o := .cells #[.int .i64 0, .slice none 0 0, .slice none 0 0] 34 (0, 0)) (pp_ m.1) hb); have _ := Q_ (blk_below (g := x) (o := .cells #[.int .i64 (wrap64 (1 + M)), .slice a0 B.length aR, .slice aB D.length aA] 34 (0, 0)) (pp_ l.1) hb); have _ := Q_ (IsS87.below (show IsS87 w0 ((((ar.setCell ⟨s, 0, none⟩ (.int .i64 X)).setCell ⟨s, 1, none⟩ (.bool af)).setCell ⟨s, 2, none⟩ (.int .i64 ag)).setCell ⟨s, 3, none⟩ (.int .i64 ah)) g E an ao from qs87_3_ u.1 r.1 q.1 G.1) hb); have _ := Q_ (blk_below (g := s) (o := .cells #[.int .i64 X, .bool af, .int .i64 ag, .int .i64 ah] 78 (0, 0)) (pp_ I.1) hb); have _ := Q_ (KeepBut.trans (qk3_ HK.1 C.1 F.1 Y.1) (KeepBut.of_below hb g none) (.inl rfl)); have _ := Q_ (below_step (qb4_ HB.1 (IsS87.ge u.1) L.1 O.1 ac.1) hb); clear a d m l u I HK HB; rename_i a d m l u I HK HB; (try clear hb)))
 (try simp only [Act.put, s1_, s2_, s3_])
 have H := HS_.1
 clear HS_
 by_cases aX : br < 0
 rotate_left
 ·rw [if_neg aX] at H
  have ax := decide_eq_false aX
  clear aX
  (first | rw [ax] | (simp only [i64_w, i32_w]; rw [ax]) | skip)
  have H' := Q_ H
  clear H
  go_wp2
  go_roundg k3
  case measure => have := az.1; have := au.1; have := aC.1; omega
  case rel => exact ⟨(wrap64 (ay + 1)), (an), (ao), (D), (.slice aB D.length aA), el_, H', ⟨by have := az.1; have := au.1; have := aC.1; omega⟩, ⟨pr_ a.1⟩, ⟨pr_ (Kd.R_mono d.1 (fun _ hk => trivial))⟩, ⟨pk_ m.1⟩, ⟨pk_ l.1⟩, ⟨qs87_3_ u.1 r.1 q.1 G.1⟩, ⟨qk3_ HK.1 C.1 F.1 Y.1⟩, ⟨qb4_ HB.1 (IsS87.ge u.1) L.1 O.1 ac.1⟩⟩
 rw [if_pos aX] at H
 have ax := decide_eq_true aX
 clear aX
 (first | rw [ax] | (simp only [i64_w, i32_w]; rw [ax]) | skip)
 by_cases bf : D.length < 4398046511104
 rotate_left
 ·rw [if_neg bf] at H
  exact nn_ H
 rw [if_pos bf] at H
 have bv := Q_ bf
 clear bf
 obtain ⟨aK, hy376⟩ : ∃ y_ : List (S78), y_ = (D ++ [(⟨X, af, ag, ah⟩ : S78)]) := ⟨_, rfl⟩
 replace H : (spec_l13Draw.l1 k3 X af ai (wrap64 (ay + 1)) E an ao (wrap64 (1 + M)) B aK) = some (r1, r2, r3, r4, r5) := hb_ hy376 H
 have bz := Q_ hy376
 clear hy376
 have H' := Q_ H
 clear H
 have cF := ad.1
 have cU := aa.1
 have cG := y.1
 have cV := T.1
 have cH := W.1
 have cW := q.1
 have cl := bc3_ l.1
 have cI := Q.1
 have cX := P.1
 have cJ := ab.1
 have cY := G.1
 have cm := bc4_ I.1
 go_wp2_with (first | ((with_reducible refine gate_builtin (b := .append) (xs := #[.tmp 50, .tmp 52]) rfl ?_); at_builtin; refine Kd.R_append k78 w.heap.size rfl (.tmp 50) (.tmp 52) 32 78 (.agg #[(.int .i64 0), (.bool false), (.int .i64 0), (.int .i64 0)]) 32 rfl Try.underlying32 info78 rfl (by decide) (by omega) (.slice aB D.length aA) D (⟨X, af, ag, ah⟩ : S78) [.int .i64 X, .bool af, .int .i64 ag, .int .i64 ah] (fun k_ => k_ ≠ s) (fun _ => False) rfl rfl ?aP (fun _ hk => hk.elim) ?aF ?aO (Below.refl _ _) ?aS ?aL ?_; (case aP => exact k78_mkM _ _ _ (⟨X, af, ag, ah⟩ : S78)); (case aF => exact (fun k_ hk => Kd.freshB (g := s) (o := .cells #[.int .i64 X, .bool af, .int .i64 ag, .int .i64 ah] 78 (0, 0)) (pk_ I.1) k_ hk)); (case aO => exact (pr_ d.1)); (case aS => exact (keep_size (w := w) (g := g) (row := none) (qk3_ HK.1 C.1 F.1 Y.1))); (case aL => have := bv.1; omega); intro dg dv ho hb hg hat; rw [← bz.1] at ho; have _ := Q_ (Kd.R_over' (pr_ a.1) (Kd.R_typed (pr_ d.1)) (by decide) hg); have _ := Q_ (blk_grown (g := J) (o := .cells #[.int .i64 0, .slice none 0 0, .slice none 0 0] 34 (0, 0)) (pk_ m.1) hg (Kd.R_ne d.1 m.1 (by decide))); have _ := Q_ (blk_grown (g := x) (o := .cells #[.int .i64 (wrap64 (1 + M)), .slice a0 B.length aR, .slice aB D.length aA] 34 (0, 0)) (pk_ l.1) hg (Kd.R_ne d.1 l.1 (by decide))); have _ := Q_ (IsS87.grown (qs87_3_ u.1 r.1 q.1 G.1) hg (IsS87.own_ne u.1 d.1 (by decide))); have _ := Q_ (blk_grown (g := s) (o := .cells #[.int .i64 X, .bool af, .int .i64 ag, .int .i64 ah] 78 (0, 0)) (pk_ I.1) hg (Kd.R_away d.1 (fun _ hk => hk))); have _ := Q_ (below_weaken (qb4_ HB.1 (IsS87.ge u.1) L.1 O.1 ac.1) HL.1 hb); have _ := Q_ (KeepBut.trans (qk3_ HK.1 C.1 F.1 Y.1) (KeepBut.of_grown hg g) (Kd.R_base2 d.1)); have _ := Q_ (ho); clear a m l u I HB HK d; rename_i a m l u I HB HK a5; clear ho hb hg hat; obtain ⟨a1, a8, bO⟩ := Kd.R_slice a5.1; subst bO; have cn := bc3_ l.1))
 go_roundg k3
 case measure => have := az.1; have := au.1; have := aC.1; omega
 case rel => exact ⟨(wrap64 (ay + 1)), (an), (ao), (aK), (.slice a1 aK.length a8), el_, H', ⟨by have := az.1; have := au.1; have := aC.1; omega⟩, ⟨pr_ (Kd.R_mono (Kd.R_far (p := ⟨x, 2, none⟩) (Kd.R_types a.1 l.1 (by decide)) (fun _ hk => hk.2) (.slice a1 aK.length a8)) (fun _ hk => trivial))⟩, ⟨pr_ (Kd.R_mono (Kd.R_far (p := ⟨x, 2, none⟩) (Kd.R_types a5.1 l.1 (by decide)) (fun _ hk => hk.2) (.slice a1 aK.length a8)) (fun _ hk => trivial))⟩, ⟨pp_ m.1⟩, ⟨pp_ l.1⟩, ⟨qs87_3_ u.1 r.1 q.1 G.1⟩, ⟨qk3_ HK.1 C.1 F.1 Y.1⟩, ⟨qb4_ HB.1 (IsS87.ge u.1) L.1 O.1 ac.1⟩⟩

end Go.Proofs.Ytldcchjbaglppaa.Print
