-- Written by a program of this session (printx.py) out of the translation; Lean checks it.
import Derived.Test.YtldcchjbaglppaaPrint0
import Derived.Test.YtldcchjbaglppaaPrint10
import Derived.Test.YtldcchjbaglppaaPrint11
import Derived.Test.YtldcchjbaglppaaPrint12
namespace Go.Proofs.Ytldcchjbaglppaa.Print
open Go.RowKit Go.Proofs.YtldcchjbaglppaaW.PrintWords Go.Proofs.YtldcchjbaglppaaW.PrintLast Go.Proofs.YtldcchjbaglppaaW.PrintMore Go.Proofs.Ytldcchjbaglppaa.Short
attribute [local go_sem] max2_int min2_int max_two min_two max_three min_three max_four min_four   -- for this text's walks alone
set_option linter.unusedVariables false
set_option maxHeartbeats 8000000
set_option maxRecDepth 100000
set_option linter.unusedSimpArgs false

/-! ### spec_l14Pair: function 52 -/
mutual
def spec_l14Pair.l0 : Nat → Int → List Int → Int → Int → Int → List Bool → List (S78) → Int → List Bool → List (S78) → Option (Int × List Bool × (List (S78)) × Int × List Bool × (List (S78)) × Int × Int)
 | 0, _, _, _, _, _, _, _, _, _, _ => none
 | k + 1, j, g, h, i, b, c, d, e, f, a => if j > 0 then (spec_l14Pair.j1 k j (decide ((a.length : Int) > 0)) g h i b c d e f a) else (spec_l14Pair.j1 k j false g h i b c d e f a)
def spec_l14Pair.j1 : Nat → Int → Bool → List Int → Int → Int → Int → List Bool → List (S78) → Int → List Bool → List (S78) → Option (Int × List Bool × (List (S78)) × Int × List Bool × (List (S78)) × Int × Int)
 | 0, _, _, _, _, _, _, _, _, _, _, _ => none
 | k + 1, u, v, j, n, o, g, h, i, c, e, a => if v = true then ((spec_l1Below.f j n o (a.length : Int)).bind fun b => ((spec_l1Below.f j b.2.1 b.2.2 4).bind fun d => (if d.1 = 0 then ((some (([] : List (S78)) : List (S78))).bind fun p => (if 0 ≤ b.1 then (if b.1 ≤ (a.length : Int) then ((some (a.take (b.1 : Int).toNat : List (S78))).bind fun q => (if p.length + q.length < 4398046511104 then ((some (p ++ q : List (S78))).bind fun r => (if 0 ≤ (wrap64 (b.1 + 1)) then (if (wrap64 (b.1 + 1)) ≤ (a.length : Int) then ((some (a.drop ((wrap64 (b.1 + 1)) : Int).toNat : List (S78))).bind fun s => (if r.length + s.length < 4398046511104 then (spec_l14Pair.l0 k (wrap64 (u - 1)) j d.2.1 d.2.2 g h i c e (r ++ s)) else (none))) else (none)) else (none))) else (none))) else (none)) else (none))) else (if d.1 = 1 then (if 0 ≤ b.1 then (if b.1 < (a.length : Int) then ((spec_l1Below.f j d.2.1 d.2.2 4).bind fun l => ((spec_MoveOf.f k c e a ((rd_T78 a b.1).f0) ((rd_T78 a b.1).f1) l.1).bind fun t => (if t < 0 then (if a.length < 4398046511104 then (spec_l14Pair.l0 k (wrap64 (u - 1)) j l.2.1 l.2.2 g h i c e (a ++ [(⟨(rd_T78 a b.1).f0, (rd_T78 a b.1).f1, l.1, (rd_T78 a b.1).f3⟩ : S78)])) else (none)) else (spec_l14Pair.l0 k (wrap64 (u - 1)) j l.2.1 l.2.2 g h i c e a)))) else (none)) else (none)) else (if d.1 = 2 then ((spec_l1Below.f j d.2.1 d.2.2 c).bind fun m => (if 0 ≤ b.1 then (if b.1 < (a.length : Int) then (spec_l14Pair.l0 k (wrap64 (u - 1)) j m.2.1 m.2.2 g h i c e (a.set (b.1 : Int).toNat (⟨(rd_T78 a b.1).f0, (rd_T78 a b.1).f1, (rd_T78 a b.1).f2, m.1⟩ : S78))) else (none)) else (none))) else (spec_l14Pair.l0 k (wrap64 (u - 1)) j d.2.1 d.2.2 g h i c e a)))))) else (some (g, h, i, c, e, a, n, o))
end
def spec_l14Pair.f (k : Nat) (d : List Int) (e : Int) (g : Int) : Option (Int × List Bool × (List (S78)) × Int × List Bool × (List (S78)) × Int × Int) := (spec_l13Draw.f k d e g).bind fun a => ((spec_DualOf.f k a.1 a.2.1 a.2.2.1).bind fun b => ((spec_l1Below.f d a.2.2.2.1 a.2.2.2.2 3).bind fun c => (spec_l14Pair.l0 k c.1 d c.2.1 c.2.2 a.1 a.2.1 a.2.2.1 b.1 b.2.1 b.2.2)))
theorem spec_l14Pair.mono_l : ∀ k, (∀ a b d e f g i j l m, LeO (spec_l14Pair.l0 k a b d e f g i j l m) (spec_l14Pair.l0 (k + 1) a b d e f g i j l m)) ∧ (∀ a b d e f g i j l m c, LeO (spec_l14Pair.j1 k a b d e f g i j l m c) (spec_l14Pair.j1 (k + 1) a b d e f g i j l m c))
 | 0 => ⟨fun _ _ _ _ _ _ _ _ _ _ r h => by simp [spec_l14Pair.l0] at h, fun _ _ _ _ _ _ _ _ _ _ _ r h => by simp [spec_l14Pair.j1] at h⟩
 | k + 1 => by
  obtain ⟨ih0, ih1⟩ := spec_l14Pair.mono_l k
  refine ⟨?_, ?_⟩
  ·intro a b d e f g i j l m
   unfold spec_l14Pair.l0
   exact mo5_ ih0 ih1 spec_DualOf.mono spec_MoveOf.mono spec_l13Draw.mono
  ·intro a b d e f g i j l m c
   unfold spec_l14Pair.j1
   exact mo5_ ih0 ih1 spec_DualOf.mono spec_MoveOf.mono spec_l13Draw.mono
theorem spec_l14Pair.mono : ∀ a b c k, LeO (spec_l14Pair.f k a b c) (spec_l14Pair.f (k + 1) a b c) := by
 intro a b c k
 obtain ⟨ih0, ih1⟩ := spec_l14Pair.mono_l k
 unfold spec_l14Pair.f
 exact mo5_ ih0 ih1 spec_DualOf.mono spec_MoveOf.mono spec_l13Draw.mono
def spec_l14Pair.T9 : Bool × List (List Nat × List Nat) := (true, [([], []), ([], []), ([1], [1]), ([], []), ([2, 3], [2, 3]), ([0, 4], [0, 4]), ([], []), ([6], [6]), ([], []), ([8], [8]), ([7, 9], [7, 9]), ([5, 10, 5], [5, 10]), ([0, 1, 2, 3, 4, 5, 6, 7, 8, 9, 10, 11], []), ([12, 11, 11, 0, 1, 2, 3, 4, 5, 6, 7, 8, 9, 10, 11], [11, 12])])
def spec_l14Pair.B9 : List Nat := [0, 0, 2, 0, 14, 31, 0, 64, 0, 256, 960, 2047, 4095, 8191]
theorem spec_l14Pair.tab9 : rtab .any (opsOf Try.f52 9) = spec_l14Pair.T9 := by kernel_rfl
theorem spec_l14Pair.bits9 : waitsOk spec_l14Pair.T9.2 spec_l14Pair.B9 = true := by kernel_rfl
def spec_l14Pair.T16 : Bool × List (List Nat × List Nat) := (true, [([], []), ([0], [0]), ([], []), ([], []), ([], []), ([4], [4]), ([3, 5], [3, 5]), ([1, 2, 0, 1, 2, 3, 4, 5, 6], [1, 2]), ([7, 0, 1, 2, 3, 4, 5, 6], [7]), ([8, 6, 6, 0, 1, 2, 3, 4, 5, 6], [6, 8])])
def spec_l14Pair.B16 : List Nat := [0, 1, 0, 0, 0, 16, 56, 127, 255, 511]
theorem spec_l14Pair.tab16 : rtab .any (opsOf Try.f52 16) = spec_l14Pair.T16 := by kernel_rfl
theorem spec_l14Pair.bits16 : waitsOk spec_l14Pair.T16.2 spec_l14Pair.B16 = true := by kernel_rfl
theorem spec_l14Pair.calls (k : Nat) (g : Nat) (Q : List Int) (bI : Int) (bJ : Int) (r1 : Int) (r2 : List Bool) (r3 : List (S78)) (r4 : Int) (r5 : List Bool) (r6 : List (S78)) (r7 : Int) (r8 : Int) (w0 w : World) (hI : IsS87 w0 w g Q bI bJ) (hB : Below w0.heap.size w0 w) (h : spec_l14Pair.f k Q bI bJ = some (r1, r2, r3, r4, r5, r6, r7, r8)) :
  Calls Try.prog 52 #[.pointer (some ⟨g, 0, none⟩)] w fun e w' => ∃ v1_ v2_ v4_ v5_ : Value, e = .returned (.tuple #[.agg #[.int .i64 r1, v1_, v2_], .agg #[.int .i64 r4, v4_, v5_]]) ∧ Kd.R Kd.bool 4 w' w.heap.size (fun k_ => some k_ ≠ (v4_ : Value).ownBlock) v1_ r2 ∧ Kd.R k78 78 w' w.heap.size (fun k_ => some k_ ≠ (v5_ : Value).ownBlock) v2_ r3 ∧ Kd.R Kd.bool 4 w' w.heap.size (fun k_ => some k_ ≠ (v1_ : Value).ownBlock) v4_ r5 ∧ Kd.R k78 78 w' w.heap.size (fun k_ => some k_ ≠ (v2_ : Value).ownBlock) v5_ r6 ∧ IsS87 w0 w' g Q r7 r8 ∧ Below w0.heap.size w0 w' ∧ KeepBut w w' g none := by
 have hu34 := Try.underlying34
 have hu78 := Try.underlying78
 have E := Q_ hI
 have HK := Q_ (KeepBut.refl w g none)
 have HL := Q_ hB.size
 clear hI
 have HW0 := Q_ hB.size
 have HB := Q_ hB
 clear hB
 have H : ((spec_l13Draw.f k Q bI bJ).bind fun bf => ((spec_DualOf.f k bf.1 bf.2.1 bf.2.2.1).bind fun bT => ((spec_l1Below.f Q bf.2.2.2.1 bf.2.2.2.2 3).bind fun bU => (spec_l14Pair.l0 k bU.1 Q bU.2.1 bU.2.2 bf.1 bf.2.1 bf.2.2.1 bT.1 bT.2.1 bT.2.2)))) = some (r1, r2, r3, r4, r5, r6, r7, r8) := h
 clear h
 obtain ⟨⟨af, X, bj, bk, bl⟩, A2, H⟩ := bs_ H
 (try dsimp only at H)
 obtain ⟨⟨ac, Y, bZ⟩, A3, H⟩ := bs_ H
 (try dsimp only at H)
 obtain ⟨⟨cN, cO, cP⟩, A4, H⟩ := bs_ H
 (try dsimp only at H)
 have H' := Q_ H
 clear H
 go_enter Try.func52, Try.ntmps52
 go_wp2_with (first | ((with_reducible refine gate_dst (N := 2) rfl ?_); (try (refine gate_guard (by rfl) ?_; dsimp only)); refine bx_ 2 #[.int .i64 0, .slice none 0 0, .slice none 0 0] 34 ?_; intro F hg w5 hbox hb; have _ := Q_ (IsS87.below (qs87_0_ E.1) hb); have _ := Q_ (KeepBut.trans (qk0_ HK.1) (KeepBut.of_below hb g none) (.inl rfl)); have _ := Q_ (below_step (qb1_ HB.1 (IsS87.ge E.1)) hb); have t := Q_ (hbox); have O := Q_ ((by rw [hg]; exact (keep_size (w := w) (g := g) (row := none) (qk0_ HK.1)) : w.heap.size ≤ F)); have ad := Q_ (Nat.le_trans HW0.1 O.1); have z := Q_ ((by rw [hg]; exact Nat.ne_of_lt (IsS87.lt (show IsS87 w0 _ g Q bI bJ from qs87_0_ E.1)) : g ≠ F)); have a5 := Q_ z.1.symm; clear E HK HB; rename_i E HK HB; clear hb hbox hg) | ((with_reducible refine gate_dst (N := 3) rfl ?_); (try (refine gate_guard (by rfl) ?_; dsimp only)); refine bx_ 3 #[.int .i64 0, .slice none 0 0, .slice none 0 0] 34 ?_; intro G hg w6 hbox hb; have _ := Q_ (IsS87.below (qs87_1_ E.1 z.1) hb); have _ := Q_ (bb_ t.1 hb); have _ := Q_ (KeepBut.trans (qk1_ HK.1 O.1) (KeepBut.of_below hb g none) (.inl rfl)); have _ := Q_ (below_step (qb2_ HB.1 (IsS87.ge E.1) ad.1) hb); have u := Q_ (hbox); have T := Q_ ((by rw [hg]; exact (keep_size (w := w) (g := g) (row := none) (qk1_ HK.1 O.1)) : w.heap.size ≤ G)); have ae := Q_ (Nat.le_trans HW0.1 T.1); have aD := Q_ (nb_ hg t); have aJ := Q_ aD.1.symm; have A := Q_ ((by rw [hg]; exact Nat.ne_of_lt (IsS87.lt (show IsS87 w0 _ g Q bI bJ from qs87_1_ E.1 z.1)) : g ≠ G)); have a6 := Q_ A.1.symm; clear E t HK HB; rename_i E t HK HB; clear hb hbox hg) | ((with_reducible refine gate_callee (f := 66) rfl ?_); refine gl_ (some 10) Try.func66 #[.pointer (some ⟨g, 0, none⟩)] ?_; (with_reducible refine (spec_l13Draw.calls k g Q bI bJ af X bj bk bl w0 _ ?side1 ?side2 A2.1).mono ?_); (case side1 => exact qs87_2_ E.1 z.1 A.1); (case side2 => exact qb3_ HB.1 (IsS87.ge E.1) ad.1 ae.1); rintro e w7 ⟨gJ, gK, rfl, b1, b2, hi, hb, hk⟩; refine ⟨_, rfl, ?_⟩; have _ := Q_ (KeepBut.blk hk (g' := F) (o := .cells #[.int .i64 0, .slice none 0 0, .slice none 0 0] 34 (0, 0)) (pk_ t.1) a5.1 (by simp)); have _ := Q_ (KeepBut.blk hk (g' := G) (o := .cells #[.int .i64 0, .slice none 0 0, .slice none 0 0] 34 (0, 0)) (pk_ u.1) a6.1 (by simp)); have _ := Q_ (Kd.R_lower b1 (keep_size (w := w) (g := g) (row := none) (qk2_ HK.1 O.1 T.1))); have _ := Q_ (Kd.R_lower b2 (keep_size (w := w) (g := g) (row := none) (qk2_ HK.1 O.1 T.1))); have _ := Q_ (KeepBut.trans (qk2_ HK.1 O.1 T.1) hk (.inl rfl)); have _ := Q_ (hb); have _ := Q_ (hi); clear t u HK HB E; rename_i t u av aw HK HB E; (try clear hb hk hi b1 b2)) | ((with_reducible refine gate_dst (N := 4) rfl ?_); (try (refine gate_guard (by rfl) ?_; dsimp only)); refine bx_ 4 #[.int .i64 0, .slice none 0 0, .slice none 0 0] 34 ?_; intro am hg w8 hbox hb; have _ := Q_ (Kd.R_below (pr_ av.1) hb); have _ := Q_ (Kd.R_below (pr_ aw.1) hb); have _ := Q_ (IsS87.below (qs87_2_ E.1 z.1 A.1) hb); have _ := Q_ (bb_ t.1 hb); have _ := Q_ (bb_ u.1 hb); have _ := Q_ (KeepBut.trans (qk2_ HK.1 O.1 T.1) (KeepBut.of_below hb g none) (.inl rfl)); have _ := Q_ (below_step (qb3_ HB.1 (IsS87.ge E.1) ad.1 ae.1) hb); have x := Q_ (hbox); have U := Q_ ((by rw [hg]; exact (keep_size (w := w) (g := g) (row := none) (qk2_ HK.1 O.1 T.1)) : w.heap.size ≤ am)); have aj := Q_ (Nat.le_trans HW0.1 U.1); have aT := Q_ (nb_ hg t); have Z := Q_ aT.1.symm; have aV := Q_ (nb_ hg u); have aa := Q_ aV.1.symm; have D := Q_ ((by rw [hg]; exact Nat.ne_of_lt (IsS87.lt (show IsS87 w0 _ g Q bk bl from qs87_2_ E.1 z.1 A.1)) : g ≠ am)); have a7 := Q_ D.1.symm; clear av aw E t u HK HB; rename_i av aw E t u HK HB; clear hb hbox hg; have gA := Z.1; have gB := aT.1; have fu := aa.1; have fW := aV.1; have fv := a7.1; have fX := D.1; have fh := bc3_ x.1; obtain ⟨aq, an, dd⟩ := Kd.R_slice av.1; subst dd; obtain ⟨bO, bF, de⟩ := Kd.R_slice aw.1; subst de) | ((with_reducible refine gate_callee (f := 53) rfl ?_); refine gl_ (some 12) Try.func53 #[.agg #[.int .i64 af, .slice aq X.length an, .slice bO bj.length bF]] ?_; (with_reducible refine (spec_DualOf.calls k af _ _ X _ _ bj ac Y bZ _ ?side1 ?side2 ?side3 ?side4 A3.1).mono ?_); (case side1 => refine (Kd.R_reads' (e := 4) (base := w.heap.size) (ok := fun k_ => True) (n := X.length) (c := an) ?_).2.2; exact (pr_ (rf3_ av.1 x.1))); (case side2 => exact (Kd.R_reads' av.1).2.1); (case side3 => refine (Kd.R_reads' (e := 78) (base := w.heap.size) (ok := fun k_ => True) (n := bj.length) (c := bF) ?_).2.2; exact (pr_ (rf3_ aw.1 x.1))); (case side4 => exact (Kd.R_reads' aw.1).2.1); rintro e g3 ⟨gL, gM, rfl, b1, b2, hb⟩; refine ⟨_, rfl, ?_⟩; have _ := Q_ (Kd.R_elder' (pr_ (rf3_ av.1 x.1)) (Kd.R_base b1) hb); have _ := Q_ (Kd.R_elder' (pr_ (rf3_ aw.1 x.1)) (Kd.R_base b2) hb); have _ := Q_ (Kd.R_lower (Kd.R_new' b1 (Kd.R_lt (pr_ (rf3_ av.1 x.1)))) (keep_size (w := w) (g := g) (row := none) (qk3_ HK.1 O.1 T.1 U.1))); have _ := Q_ (Kd.R_lower (Kd.R_new' b2 (Kd.R_lt (pr_ (rf3_ aw.1 x.1)))) (keep_size (w := w) (g := g) (row := none) (qk3_ HK.1 O.1 T.1 U.1))); have _ := Q_ (IsS87.below (show IsS87 w0 (((w8.setCell ⟨am, 0, none⟩ (.int .i64 af)).setCell ⟨am, 1, none⟩ (.slice aq X.length an)).setCell ⟨am, 2, none⟩ (.slice bO bj.length bF)) g Q bk bl from qs87_3_ E.1 z.1 A.1 D.1) hb); have _ := Q_ (blk_below (g := F) (o := .cells #[.int .i64 0, .slice none 0 0, .slice none 0 0] 34 (0, 0)) (pp_ t.1) hb); have _ := Q_ (blk_below (g := G) (o := .cells #[.int .i64 0, .slice none 0 0, .slice none 0 0] 34 (0, 0)) (pp_ u.1) hb); have _ := Q_ (blk_below (g := am) (o := .cells #[.int .i64 af, .slice aq X.length an, .slice bO bj.length bF] 34 (0, 0)) (pp_ x.1) hb); have _ := Q_ (KeepBut.trans (qk3_ HK.1 O.1 T.1 U.1) (KeepBut.of_below hb g none) (.inl rfl)); have _ := Q_ (below_step (qb4_ HB.1 (IsS87.ge E.1) ad.1 ae.1 aj.1) hb); clear av aw E t u x HK HB; rename_i av aw bc bd E t u x HK HB; (try clear hb b1 b2)) | ((with_reducible refine gate_dst (N := 5) rfl ?_); (try (refine gate_guard (by rfl) ?_; dsimp only)); refine bx_ 5 #[.int .i64 0, .slice none 0 0, .slice none 0 0] 34 ?_; intro V hg g4 hbox hb; have _ := Q_ (Kd.R_below (pr_ av.1) hb); have _ := Q_ (Kd.R_below (pr_ aw.1) hb); have _ := Q_ (Kd.R_below (pr_ bc.1) hb); have _ := Q_ (Kd.R_below (pr_ bd.1) hb); have _ := Q_ (IsS87.below (qs87_3_ E.1 z.1 A.1 D.1) hb); have _ := Q_ (bb_ t.1 hb); have _ := Q_ (bb_ u.1 hb); have _ := Q_ (bb_ x.1 hb); have _ := Q_ (KeepBut.trans (qk3_ HK.1 O.1 T.1 U.1) (KeepBut.of_below hb g none) (.inl rfl)); have _ := Q_ (below_step (qb4_ HB.1 (IsS87.ge E.1) ad.1 ae.1 aj.1) hb); have s := Q_ (hbox); have ab := Q_ ((by rw [hg]; exact (keep_size (w := w) (g := g) (row := none) (qk3_ HK.1 O.1 T.1 U.1)) : w.heap.size ≤ V)); have al := Q_ (Nat.le_trans HW0.1 ab.1); have ag := Q_ (nb_ hg t); have L := Q_ ag.1.symm; have ah := Q_ (nb_ hg u); have M := Q_ ah.1.symm; have ax := Q_ (nb_ hg x); have aE := Q_ ax.1.symm; have B := Q_ ((by rw [hg]; exact Nat.ne_of_lt (IsS87.lt (show IsS87 w0 _ g Q bk bl from qs87_3_ E.1 z.1 A.1 D.1)) : g ≠ V)); have ay := Q_ B.1.symm; clear av aw bc bd E t u x HK HB; rename_i av aw bc bd E t u x HK HB; clear hb hbox hg; have fw := L.1; have fY := ag.1; have fx := M.1; have fZ := ah.1; have fy := aE.1; have f4 := ax.1; have fz := ay.1; have f5 := B.1; have fi := bc3_ s.1; obtain ⟨au, ar, df⟩ := Kd.R_slice bc.1; subst df; obtain ⟨cA, cF, dg⟩ := Kd.R_slice bd.1; subst dg) | ((with_reducible refine gate_callee (f := 54) rfl ?_); refine gl_ (some 14) Try.func54 #[.pointer (some ⟨g, 0, none⟩), .int .i64 3] ?_; (with_reducible refine (spec_l1Below.calls g Q bk bl 3 cN cO cP w0 _ ?side1 ?side2 A4.1).mono ?_); (case side1 => exact qs87_4_ E.1 z.1 A.1 D.1 B.1); (case side2 => exact qb5_ HB.1 (IsS87.ge E.1) ad.1 ae.1 aj.1 al.1); rintro e g5 ⟨rfl, hi, hb, hk⟩; refine ⟨_, rfl, ?_⟩; have _ := Q_ (KeepBut.blk hk (g' := F) (o := .cells #[.int .i64 0, .slice none 0 0, .slice none 0 0] 34 (0, 0)) (pp_ t.1) a5.1 (by simp)); have _ := Q_ (KeepBut.blk hk (g' := G) (o := .cells #[.int .i64 0, .slice none 0 0, .slice none 0 0] 34 (0, 0)) (pp_ u.1) a6.1 (by simp)); have _ := Q_ (Kd.R_mono (Kd.R_keep (IsS87.apart (show IsS87 w0 _ g Q bk bl from qs87_4_ E.1 z.1 A.1 D.1 B.1) (pr_ (rf3_ av.1 s.1)) (by decide)) hk (fun _ h => h.2)) (fun _ h => h.1)); have _ := Q_ (Kd.R_mono (Kd.R_keep (IsS87.apart (show IsS87 w0 _ g Q bk bl from qs87_4_ E.1 z.1 A.1 D.1 B.1) (pr_ (rf3_ aw.1 s.1)) (by decide)) hk (fun _ h => h.2)) (fun _ h => h.1)); have _ := Q_ (KeepBut.blk hk (g' := am) (o := .cells #[.int .i64 af, .slice aq X.length an, .slice bO bj.length bF] 34 (0, 0)) (pp_ x.1) a7.1 (by simp)); have _ := Q_ (Kd.R_mono (Kd.R_keep (IsS87.apart (show IsS87 w0 _ g Q bk bl from qs87_4_ E.1 z.1 A.1 D.1 B.1) (pr_ (rf3_ bc.1 s.1)) (by decide)) hk (fun _ h => h.2)) (fun _ h => h.1)); have _ := Q_ (Kd.R_mono (Kd.R_keep (IsS87.apart (show IsS87 w0 _ g Q bk bl from qs87_4_ E.1 z.1 A.1 D.1 B.1) (pr_ (rf3_ bd.1 s.1)) (by decide)) hk (fun _ h => h.2)) (fun _ h => h.1)); have _ := Q_ (KeepBut.blk hk (g' := V) (o := .cells #[.int .i64 ac, .slice au Y.length ar, .slice cA bZ.length cF] 34 (0, 0)) (pp_ s.1) ay.1 (by simp)); have _ := Q_ (KeepBut.trans (qk4_ HK.1 O.1 T.1 U.1 ab.1) hk (.inl rfl)); have _ := Q_ (hb); have _ := Q_ (hi); clear t u av aw x bc bd s HK HB E; rename_i t u av aw x bc bd s HK HB E; (try clear hb hk hi)))
 (try simp only [Act.put, s1_, s2_, s3_])
 go_loopg [6] k (fun kq v6 w' => ∃ (aI : Int) (aB : Int) (aC : Int) (I : List (S78)) (a : List (S78)) (J : Value) (aZ : Value), v6 = .int .i64 aI ∧ Aside0 (spec_l14Pair.l0 kq aI Q aB aC af X I ac Y a = some (r1, r2, r3, r4, r5, r6, r7, r8)) ∧ Aside0 (kq ≤ k) ∧ Aside0 (Kd.R Kd.bool 4 w' w.heap.size (fun k_ => some k_ ≠ ((.slice au Y.length ar) : Value).ownBlock) (.slice aq X.length an) X) ∧ Aside0 (Kd.R k78 78 w' w.heap.size (fun k_ => some k_ ≠ (aZ : Value).ownBlock) J I) ∧ Aside0 (Kd.R Kd.bool 4 w' w.heap.size (fun k_ => some k_ ≠ ((.slice aq X.length an) : Value).ownBlock) (.slice au Y.length ar) Y) ∧ Aside0 (Kd.R k78 78 w' w.heap.size (fun k_ => some k_ ≠ (J : Value).ownBlock) aZ a) ∧ Aside0 (w'.heap[F]? = some (.cells #[.int .i64 0, (.slice none 0 0), (.slice none 0 0)] 34 (0, 0))) ∧ Aside0 (w'.heap[G]? = some (.cells #[.int .i64 0, (.slice none 0 0), (.slice none 0 0)] 34 (0, 0))) ∧ Aside0 (w'.heap[am]? = some (.cells #[.int .i64 af, (.slice aq X.length an), J] 34 (0, 0))) ∧ Aside0 (w'.heap[V]? = some (.cells #[.int .i64 ac, (.slice au Y.length ar), aZ] 34 (0, 0))) ∧ Aside0 (IsS87 w0 w' g Q aB aC) ∧ Aside0 (KeepBut w w' g none) ∧ Aside0 (Below w0.heap.size w0 w'))
 case atStart => exact ⟨(cN), (cO), (cP), (bj), (bZ), (.slice bO bj.length bF), (.slice cA bZ.length cF), el_, H', ⟨Nat.le_refl _⟩, ⟨pr_ (Kd.R_mono av.1 (fun _ hk => hk.2))⟩, ⟨pr_ (Kd.R_mono aw.1 (fun _ hk => hk.2))⟩, ⟨pr_ (Kd.R_mono bc.1 (fun _ hk => hk.2))⟩, ⟨pr_ (Kd.R_mono bd.1 (fun _ hk => hk.2))⟩, ⟨pk_ t.1⟩, ⟨pk_ u.1⟩, ⟨pk_ x.1⟩, ⟨pk_ s.1⟩, ⟨qs87_4_ E.1 z.1 A.1 D.1 B.1⟩, ⟨qk4_ HK.1 O.1 T.1 U.1 ab.1⟩, ⟨qb5_ HB.1 (IsS87.ge E.1) ad.1 ae.1 aj.1 al.1⟩⟩
 clear H'
 obtain ⟨aI, aB, aC, I, a, J, aZ, rfl, HA, bo, r, l, q, d, t, u, x, s, E, HK, HB⟩ := hrel
 rcases gk with _ | k1
 ·exact absurd HA.1 (by simp [spec_l14Pair.l0])
 have H := HA.1
 clear HA
 simp only [spec_l14Pair.l0] at H
 have cc := Q_ H
 clear H
 go_upto_region 4 with (fail)
 go_cut [22] (fun gu wc => ∃ (kq : Nat) (bp : Bool), gu = .bool bp ∧ Aside0 (spec_l14Pair.j1 kq aI bp Q aB aC af X I ac Y a = some (r1, r2, r3, r4, r5, r6, r7, r8)) ∧ Aside0 (kq ≤ k1) ∧ Aside0 (Kd.R Kd.bool 4 wc w.heap.size (fun k_ => some k_ ≠ ((.slice au Y.length ar) : Value).ownBlock) (.slice aq X.length an) X) ∧ Aside0 (Kd.R k78 78 wc w.heap.size (fun k_ => some k_ ≠ (aZ : Value).ownBlock) J I) ∧ Aside0 (Kd.R Kd.bool 4 wc w.heap.size (fun k_ => some k_ ≠ ((.slice aq X.length an) : Value).ownBlock) (.slice au Y.length ar) Y) ∧ Aside0 (Kd.R k78 78 wc w.heap.size (fun k_ => some k_ ≠ (J : Value).ownBlock) aZ a) ∧ Aside0 (wc.heap[F]? = some (.cells #[.int .i64 0, (.slice none 0 0), (.slice none 0 0)] 34 (0, 0))) ∧ Aside0 (wc.heap[G]? = some (.cells #[.int .i64 0, (.slice none 0 0), (.slice none 0 0)] 34 (0, 0))) ∧ Aside0 (wc.heap[am]? = some (.cells #[.int .i64 af, (.slice aq X.length an), J] 34 (0, 0))) ∧ Aside0 (wc.heap[V]? = some (.cells #[.int .i64 ac, (.slice au Y.length ar), aZ] 34 (0, 0))) ∧ Aside0 (IsS87 w0 wc g Q aB aC) ∧ Aside0 (KeepBut w wc g none) ∧ Aside0 (Below w0.heap.size w0 wc))
 case first =>
  have H := cc.1
  clear cc
  by_cases b0 : aI > 0
  rotate_left
  ·rw [if_neg b0] at H
   have bs := decide_eq_false b0
   clear b0
   (first | rw [bs] | (simp only [i64_w, i32_w]; rw [bs]) | skip)
   have H' := Q_ H
   clear H
   go_wp2
   go_meet
   case rel => exact ⟨_, (false), el_, H', ⟨by have := bo.1; first | omega | exact Nat.le_refl _⟩, ⟨pr_ r.1⟩, ⟨pr_ l.1⟩, ⟨pr_ q.1⟩, ⟨pr_ d.1⟩, ⟨pk_ t.1⟩, ⟨pk_ u.1⟩, ⟨pk_ x.1⟩, ⟨pk_ s.1⟩, ⟨qs87_4_ E.1 z.1 A.1 D.1 B.1⟩, ⟨qk4_ HK.1 O.1 T.1 U.1 ab.1⟩, ⟨qb5_ HB.1 (IsS87.ge E.1) ad.1 ae.1 aj.1 al.1⟩⟩
  rw [if_pos b0] at H
  have bs := decide_eq_true b0
  clear b0
  (first | rw [bs] | (simp only [i64_w, i32_w]; rw [bs]) | skip)
  have H' := Q_ H
  clear H
  have fA := L.1
  have f6 := ag.1
  have fB := M.1
  have f7 := ah.1
  have fC := aE.1
  have f8 := ax.1
  have fD := ay.1
  have f9 := B.1
  have fj := bc3_ s.1
  obtain ⟨gw, gy, dh⟩ := Kd.R_slice d.1
  subst dh
  go_wp2
  go_meet
  case rel => exact ⟨_, (decide ((a.length : Int) > 0)), el_, H', ⟨by have := bo.1; first | omega | exact Nat.le_refl _⟩, ⟨pr_ r.1⟩, ⟨pr_ l.1⟩, ⟨pr_ q.1⟩, ⟨pr_ d.1⟩, ⟨pk_ t.1⟩, ⟨pk_ u.1⟩, ⟨pk_ x.1⟩, ⟨pk_ s.1⟩, ⟨qs87_4_ E.1 z.1 A.1 D.1 B.1⟩, ⟨qk4_ HK.1 O.1 T.1 U.1 ab.1⟩, ⟨qb5_ HB.1 (IsS87.ge E.1) ad.1 ae.1 aj.1 al.1⟩⟩
 clear cc
 obtain ⟨kq, bp, rfl, HA, bg, r, l, q, d, t, u, x, s, E, HK, HB⟩ := hcut
 rcases kq with _ | kj24
 ·exact absurd HA.1 (by simp [spec_l14Pair.j1])
 have H := HA.1
 clear HA
 simp only [spec_l14Pair.j1] at H
 by_cases ct : bp = true
 rotate_left
 ·replace ct := bf_ ct
  subst ct
  rw [if_neg ff_] at H
  simp only [Option.some.injEq, Prod.mk.injEq] at H
  obtain ⟨rfl, rfl, rfl, rfl, rfl, rfl, rfl, rfl⟩ := H
  try go_wp2
  have _ := Q_ (Kd.R_drew r.1)
  have _ := Q_ (Kd.R_drew l.1)
  have _ := Q_ (Kd.R_drew q.1)
  have _ := Q_ (Kd.R_drew d.1)
  have _ := Q_ (blk_drew t.1)
  have _ := Q_ (blk_drew u.1)
  have _ := Q_ (blk_drew x.1)
  have _ := Q_ (blk_drew s.1)
  have _ := Q_ (IsS87.drew E.1)
  have _ := Q_ (keep_drew HK.1)
  have _ := Q_ (below_drew1 HB.1)
  clear r l q d t u x s E HK HB
  rename_i r l q d t u x s E HK HB
  obtain ⟨bC, bG, cG⟩ := Kd.R_slice l.1
  (first | subst cG | (injection cG with f1_ f2_ f3_; have f4_ := f1_.symm; have f5_ := f3_.symm; clear f1_ f2_ f3_; subst f4_; subst f5_))
  obtain ⟨bD, bH, cH⟩ := Kd.R_slice d.1
  (first | subst cH | (injection cH with f1_ f2_ f3_; have f4_ := f1_.symm; have f5_ := f3_.symm; clear f1_ f2_ f3_; subst f4_; subst f5_))
  refine start_ (n := 4) (S := fun w' => w'.cell? ⟨am, 0, none⟩ = some (.int .i64 af) ∧ w'.cell? ⟨am, 1, none⟩ = some (.slice aq X.length an) ∧ w'.cell? ⟨am, 2, none⟩ = some (.slice bC I.length bG) ∧ w'.cell? ⟨V, 0, none⟩ = some (.int .i64 ac) ∧ w'.cell? ⟨V, 1, none⟩ = some (.slice au Y.length ar) ∧ w'.cell? ⟨V, 2, none⟩ = some (.slice bD a.length bH)) (ds := []) (tf_ 0 4) (by kernel_rfl) rfl rfl ⟨(blk_cell x.1 0).trans rfl, (blk_cell x.1 1).trans rfl, (blk_cell x.1 2).trans rfl, (blk_cell s.1 0).trans rfl, (blk_cell s.1 1).trans rfl, (blk_cell s.1 2).trans rfl⟩ (fun hHeld => ?_)
  generalize wc.drew = cb at r l q d t u x s E HK HB hHeld ⊢
  refine take_ (i := 0) (N := some 83) (v := ?_) (a' := ?_) #[true, false, false, false] rfl rfl (by kernel_rfl) (fun _ _ _ h => h) (Or.inl ⟨by rfl, ?_⟩) hHeld ?_ ?_
  rotate_left
  ·rintro w' ⟨s0, s1, s2, s3, s4, s5⟩
   go_simp
   (try (simp only [Instr.field]; simp only [underlying, hu34, hu78]; go_simp; simp only [asAgg]; go_simp))
   with_reducible rfl
  rotate_left
  ·simp only [Act.put, List.setIfInBounds_toArray, List.set_cons_zero, List.set_cons_succ, i64_w, i32_w]
   rfl
  refine take_ (i := 1) (N := some 84) (v := ?_) (a' := ?_) #[true, true, false, false] rfl rfl (by kernel_rfl) (fun _ _ _ h => h) (Or.inl ⟨by rfl, ?_⟩) hHeld ?_ ?_
  rotate_left
  ·rintro w' ⟨s0, s1, s2, s3, s4, s5⟩
   go_simp
   (try (simp only [Instr.field]; simp only [underlying, hu34, hu78]; go_simp; simp only [asAgg]; go_simp))
   with_reducible rfl
  rotate_left
  ·simp only [Act.put, List.setIfInBounds_toArray, List.set_cons_zero, List.set_cons_succ, i64_w, i32_w]
   rfl
  refine one_ (i := 2) (N := none) #[true, true, true, false] rfl rfl (by kernel_rfl) (by decide) (fun K hK => ?_)
  have gC : cb.cell? ⟨F, 0, none⟩ = some (.int .i64 0) := (blk_cell t.1 0).trans rfl
  have fn := blk_frozen t.1 0
  have dG := aJ.1
  have dH := Z.1
  have dI := L.1
  have dj := aD.1
  have dk := aT.1
  have dl := ag.1
  have gD : cb.cell? ⟨F, 1, none⟩ = some (.slice none 0 0) := (blk_cell t.1 1).trans rfl
  have fo := blk_frozen t.1 1
  have dJ := aJ.1
  have dK := Z.1
  have dL := L.1
  have dm := aD.1
  have dn := aT.1
  have dp := ag.1
  have gE : cb.cell? ⟨F, 2, none⟩ = some (.slice none 0 0) := (blk_cell t.1 2).trans rfl
  have fp := blk_frozen t.1 2
  have dM := aJ.1
  have dN := Z.1
  have dO := L.1
  have dq := aD.1
  have dr := aT.1
  have dt := ag.1
  refine skip_ (w1 := ?_) (by rfl) rfl ?_ ?_
  rotate_left
  ·go_simp
   rfl
  refine hK.out _ _ ⟨((cell_far (p := ⟨F, _, none⟩) Z.1 _).trans (((cell_far (p := ⟨F, _, none⟩) Z.1 _).trans (((cell_far (p := ⟨F, _, none⟩) Z.1 _).trans (hHeld.1)))))), ((cell_far (p := ⟨F, _, none⟩) Z.1 _).trans (((cell_far (p := ⟨F, _, none⟩) Z.1 _).trans (((cell_far (p := ⟨F, _, none⟩) Z.1 _).trans (hHeld.2.1)))))), ((cell_far (p := ⟨F, _, none⟩) Z.1 _).trans (((cell_far (p := ⟨F, _, none⟩) Z.1 _).trans (((cell_far (p := ⟨F, _, none⟩) Z.1 _).trans (hHeld.2.2.1)))))), ((cell_far (p := ⟨F, _, none⟩) L.1 _).trans (((cell_far (p := ⟨F, _, none⟩) L.1 _).trans (((cell_far (p := ⟨F, _, none⟩) L.1 _).trans (hHeld.2.2.2.1)))))), ((cell_far (p := ⟨F, _, none⟩) L.1 _).trans (((cell_far (p := ⟨F, _, none⟩) L.1 _).trans (((cell_far (p := ⟨F, _, none⟩) L.1 _).trans (hHeld.2.2.2.2.1)))))), ((cell_far (p := ⟨F, _, none⟩) L.1 _).trans (((cell_far (p := ⟨F, _, none⟩) L.1 _).trans (((cell_far (p := ⟨F, _, none⟩) L.1 _).trans (hHeld.2.2.2.2.2))))))⟩ (fun hHeld => ?_)
  clear hK K
  refine one_ (i := 3) (N := none) #[true, true, true, true] rfl rfl (by kernel_rfl) (by decide) (fun K hK => ?_)
  have gF : cb.cell? ⟨G, 0, none⟩ = some (.int .i64 0) := (blk_cell u.1 0).trans rfl
  have fq := blk_frozen u.1 0
  have dP := aD.1
  have dQ := aa.1
  have dR := M.1
  have du := aJ.1
  have dv := aV.1
  have dw := ah.1
  have gG : cb.cell? ⟨G, 1, none⟩ = some (.slice none 0 0) := (blk_cell u.1 1).trans rfl
  have fr := blk_frozen u.1 1
  have dS := aD.1
  have dT := aa.1
  have dU := M.1
  have dx := aJ.1
  have dy := aV.1
  have dz := ah.1
  have gH : cb.cell? ⟨G, 2, none⟩ = some (.slice none 0 0) := (blk_cell u.1 2).trans rfl
  have fs := blk_frozen u.1 2
  have dV := aD.1
  have dW := aa.1
  have dX := M.1
  have dA := aJ.1
  have dB := aV.1
  have dC := ah.1
  refine skip_ (w1 := ?_) (by rfl) rfl ?_ ?_
  rotate_left
  ·go_simp
   rfl
  refine hK.out _ _ ⟨((cell_far (p := ⟨G, _, none⟩) aa.1 _).trans (((cell_far (p := ⟨G, _, none⟩) aa.1 _).trans (((cell_far (p := ⟨G, _, none⟩) aa.1 _).trans (hHeld.1)))))), ((cell_far (p := ⟨G, _, none⟩) aa.1 _).trans (((cell_far (p := ⟨G, _, none⟩) aa.1 _).trans (((cell_far (p := ⟨G, _, none⟩) aa.1 _).trans (hHeld.2.1)))))), ((cell_far (p := ⟨G, _, none⟩) aa.1 _).trans (((cell_far (p := ⟨G, _, none⟩) aa.1 _).trans (((cell_far (p := ⟨G, _, none⟩) aa.1 _).trans (hHeld.2.2.1)))))), ((cell_far (p := ⟨G, _, none⟩) M.1 _).trans (((cell_far (p := ⟨G, _, none⟩) M.1 _).trans (((cell_far (p := ⟨G, _, none⟩) M.1 _).trans (hHeld.2.2.2.1)))))), ((cell_far (p := ⟨G, _, none⟩) M.1 _).trans (((cell_far (p := ⟨G, _, none⟩) M.1 _).trans (((cell_far (p := ⟨G, _, none⟩) M.1 _).trans (hHeld.2.2.2.2.1)))))), ((cell_far (p := ⟨G, _, none⟩) M.1 _).trans (((cell_far (p := ⟨G, _, none⟩) M.1 _).trans (((cell_far (p := ⟨G, _, none⟩) M.1 _).trans (hHeld.2.2.2.2.2))))))⟩ (fun hHeld => ?_)
  clear hK K
  refine done_ (by kernel_rfl) ?_
  try go_wp2
  refine bodyPost_ret (results_cc rfl _ _ F G 34 34 #[.int .i64 af, .slice aq X.length an, .slice bC I.length bG] #[.int .i64 ac, .slice au Y.length ar, .slice bD a.length bH] (0, 0) (0, 0) _ _ rfl (pp_ t.1) Try.underlying34 rfl (by kernel_rfl) rfl (pp_ u.1) Try.underlying34 rfl (by kernel_rfl)) rfl ?_
  exact ⟨_, _, _, _, er_, pr_ (Kd.R_mono (Kd.R_far (p := ⟨G, 2, none⟩) (Kd.R_far (p := ⟨G, 1, none⟩) (Kd.R_far (p := ⟨G, 0, none⟩) (Kd.R_far (p := ⟨F, 2, none⟩) (Kd.R_far (p := ⟨F, 1, none⟩) (Kd.R_far (p := ⟨F, 0, none⟩) (Kd.R_types (Kd.R_types r.1 t.1 (by decide)) u.1 (by decide)) (fun _ hk => hk.1.2) (.int .i64 af)) (fun _ hk => hk.1.2) (.slice aq X.length an)) (fun _ hk => hk.1.2) (.slice bC I.length bG)) (fun _ hk => hk.2) (.int .i64 ac)) (fun _ hk => hk.2) (.slice au Y.length ar)) (fun _ hk => hk.2) (.slice bD a.length bH)) (fun _ hk => hk.1.1)), pr_ (Kd.R_mono (Kd.R_far (p := ⟨G, 2, none⟩) (Kd.R_far (p := ⟨G, 1, none⟩) (Kd.R_far (p := ⟨G, 0, none⟩) (Kd.R_far (p := ⟨F, 2, none⟩) (Kd.R_far (p := ⟨F, 1, none⟩) (Kd.R_far (p := ⟨F, 0, none⟩) (Kd.R_types (Kd.R_types l.1 t.1 (by decide)) u.1 (by decide)) (fun _ hk => hk.1.2) (.int .i64 af)) (fun _ hk => hk.1.2) (.slice aq X.length an)) (fun _ hk => hk.1.2) (.slice bC I.length bG)) (fun _ hk => hk.2) (.int .i64 ac)) (fun _ hk => hk.2) (.slice au Y.length ar)) (fun _ hk => hk.2) (.slice bD a.length bH)) (fun _ hk => hk.1.1)), pr_ (Kd.R_mono (Kd.R_far (p := ⟨G, 2, none⟩) (Kd.R_far (p := ⟨G, 1, none⟩) (Kd.R_far (p := ⟨G, 0, none⟩) (Kd.R_far (p := ⟨F, 2, none⟩) (Kd.R_far (p := ⟨F, 1, none⟩) (Kd.R_far (p := ⟨F, 0, none⟩) (Kd.R_types (Kd.R_types q.1 t.1 (by decide)) u.1 (by decide)) (fun _ hk => hk.1.2) (.int .i64 af)) (fun _ hk => hk.1.2) (.slice aq X.length an)) (fun _ hk => hk.1.2) (.slice bC I.length bG)) (fun _ hk => hk.2) (.int .i64 ac)) (fun _ hk => hk.2) (.slice au Y.length ar)) (fun _ hk => hk.2) (.slice bD a.length bH)) (fun _ hk => hk.1.1)), pr_ (Kd.R_mono (Kd.R_far (p := ⟨G, 2, none⟩) (Kd.R_far (p := ⟨G, 1, none⟩) (Kd.R_far (p := ⟨G, 0, none⟩) (Kd.R_far (p := ⟨F, 2, none⟩) (Kd.R_far (p := ⟨F, 1, none⟩) (Kd.R_far (p := ⟨F, 0, none⟩) (Kd.R_types (Kd.R_types d.1 t.1 (by decide)) u.1 (by decide)) (fun _ hk => hk.1.2) (.int .i64 af)) (fun _ hk => hk.1.2) (.slice aq X.length an)) (fun _ hk => hk.1.2) (.slice bC I.length bG)) (fun _ hk => hk.2) (.int .i64 ac)) (fun _ hk => hk.2) (.slice au Y.length ar)) (fun _ hk => hk.2) (.slice bD a.length bH)) (fun _ hk => hk.1.1)), qs87_4_ E.1 z.1 A.1 D.1 B.1, qb5_ HB.1 (IsS87.ge E.1) ad.1 ae.1 aj.1 al.1, qk4_ HK.1 O.1 T.1 U.1 ab.1⟩
 subst ct
 rw [if_pos rfl] at H
 obtain ⟨⟨y, bK, bL⟩, eY, H⟩ := bs_ H
 (try dsimp only at H)
 have HS_ := Q_ H
 clear H
 have fE := L.1
 have ga := ag.1
 have fF := M.1
 have gb := ah.1
 have fG := aE.1
 have gc := ax.1
 have fH := ay.1
 have gd := B.1
 have fk := bc3_ s.1
 obtain ⟨az, ai, di⟩ := Kd.R_slice d.1
 subst di
 go_upto_region 7 with (first | ((with_reducible refine gate_callee (f := 54) rfl ?_); refine gl_ (some 29) Try.func54 #[.pointer (some ⟨g, 0, none⟩), .int .i64 (a.length : Int)] ?_; (with_reducible refine (spec_l1Below.calls g Q aB aC (a.length : Int) y bK bL w0 _ ?side1 ?side2 eY.1).mono ?_); (case side1 => exact qs87_4_ E.1 z.1 A.1 D.1 B.1); (case side2 => exact qb5_ HB.1 (IsS87.ge E.1) ad.1 ae.1 aj.1 al.1); rintro e g6 ⟨rfl, hi, hb, hk⟩; refine ⟨_, rfl, ?_⟩; have _ := Q_ (Kd.R_mono (Kd.R_keep (IsS87.apart (show IsS87 w0 _ g Q aB aC from qs87_4_ E.1 z.1 A.1 D.1 B.1) (pr_ r.1) (by decide)) hk (fun _ h => h.2)) (fun _ h => h.1)); have _ := Q_ (Kd.R_mono (Kd.R_keep (IsS87.apart (show IsS87 w0 _ g Q aB aC from qs87_4_ E.1 z.1 A.1 D.1 B.1) (pr_ l.1) (by decide)) hk (fun _ h => h.2)) (fun _ h => h.1)); have _ := Q_ (Kd.R_mono (Kd.R_keep (IsS87.apart (show IsS87 w0 _ g Q aB aC from qs87_4_ E.1 z.1 A.1 D.1 B.1) (pr_ q.1) (by decide)) hk (fun _ h => h.2)) (fun _ h => h.1)); have _ := Q_ (Kd.R_mono (Kd.R_keep (IsS87.apart (show IsS87 w0 _ g Q aB aC from qs87_4_ E.1 z.1 A.1 D.1 B.1) (pr_ d.1) (by decide)) hk (fun _ h => h.2)) (fun _ h => h.1)); have _ := Q_ (KeepBut.blk hk (g' := F) (o := .cells #[.int .i64 0, .slice none 0 0, .slice none 0 0] 34 (0, 0)) (pk_ t.1) a5.1 (by simp)); have _ := Q_ (KeepBut.blk hk (g' := G) (o := .cells #[.int .i64 0, .slice none 0 0, .slice none 0 0] 34 (0, 0)) (pk_ u.1) a6.1 (by simp)); have _ := Q_ (KeepBut.blk hk (g' := am) (o := .cells #[.int .i64 af, .slice aq X.length an, J] 34 (0, 0)) (pk_ x.1) a7.1 (by simp)); have _ := Q_ (KeepBut.blk hk (g' := V) (o := .cells #[.int .i64 ac, .slice au Y.length ar, .slice az a.length ai] 34 (0, 0)) (pk_ s.1) ay.1 (by simp)); have _ := Q_ (KeepBut.trans (qk4_ HK.1 O.1 T.1 U.1 ab.1) hk (.inl rfl)); have _ := Q_ (hb); have _ := Q_ (hi); clear r l q d t u x s HK HB E; rename_i r l q d t u x s HK HB E; (try clear hb hk hi)))
 (try simp only [Act.put, s1_, s2_, s3_])
 have H := HS_.1
 clear HS_
 obtain ⟨⟨aM, aG, aH⟩, eZ, H⟩ := bs_ H
 (try dsimp only at H)
 have HS_ := Q_ H
 clear H
 go_upto_if 32 with (first | ((with_reducible refine gate_callee (f := 54) rfl ?_); refine gl_ (some 31) Try.func54 #[.pointer (some ⟨g, 0, none⟩), .int .i64 4] ?_; (with_reducible refine (spec_l1Below.calls g Q bK bL 4 aM aG aH w0 _ ?side1 ?side2 eZ.1).mono ?_); (case side1 => exact qs87_4_ E.1 z.1 A.1 D.1 B.1); (case side2 => exact qb5_ HB.1 (IsS87.ge E.1) ad.1 ae.1 aj.1 al.1); rintro e d8 ⟨rfl, hi, hb, hk⟩; refine ⟨_, rfl, ?_⟩; have _ := Q_ (Kd.R_mono (Kd.R_keep (IsS87.apart (show IsS87 w0 _ g Q bK bL from qs87_4_ E.1 z.1 A.1 D.1 B.1) (pr_ r.1) (by decide)) hk (fun _ h => h.2)) (fun _ h => h.1)); have _ := Q_ (Kd.R_mono (Kd.R_keep (IsS87.apart (show IsS87 w0 _ g Q bK bL from qs87_4_ E.1 z.1 A.1 D.1 B.1) (pr_ l.1) (by decide)) hk (fun _ h => h.2)) (fun _ h => h.1)); have _ := Q_ (Kd.R_mono (Kd.R_keep (IsS87.apart (show IsS87 w0 _ g Q bK bL from qs87_4_ E.1 z.1 A.1 D.1 B.1) (pr_ q.1) (by decide)) hk (fun _ h => h.2)) (fun _ h => h.1)); have _ := Q_ (Kd.R_mono (Kd.R_keep (IsS87.apart (show IsS87 w0 _ g Q bK bL from qs87_4_ E.1 z.1 A.1 D.1 B.1) (pr_ d.1) (by decide)) hk (fun _ h => h.2)) (fun _ h => h.1)); have _ := Q_ (KeepBut.blk hk (g' := F) (o := .cells #[.int .i64 0, .slice none 0 0, .slice none 0 0] 34 (0, 0)) (pk_ t.1) a5.1 (by simp)); have _ := Q_ (KeepBut.blk hk (g' := G) (o := .cells #[.int .i64 0, .slice none 0 0, .slice none 0 0] 34 (0, 0)) (pk_ u.1) a6.1 (by simp)); have _ := Q_ (KeepBut.blk hk (g' := am) (o := .cells #[.int .i64 af, .slice aq X.length an, J] 34 (0, 0)) (pk_ x.1) a7.1 (by simp)); have _ := Q_ (KeepBut.blk hk (g' := V) (o := .cells #[.int .i64 ac, .slice au Y.length ar, .slice az a.length ai] 34 (0, 0)) (pk_ s.1) ay.1 (by simp)); have _ := Q_ (KeepBut.trans (qk4_ HK.1 O.1 T.1 U.1 ab.1) hk (.inl rfl)); have _ := Q_ (hb); have _ := Q_ (hi); clear r l q d t u x s HK HB E; rename_i r l q d t u x s HK HB E; (try clear hb hk hi)))
 (try simp only [Act.put, s1_, s2_, s3_])
 have H := HS_.1
 clear HS_
 by_cases bV : aM = 0
 ·rw [if_pos bV] at H
  have bt : (aM == 0) = true := beq_iff_eq.mpr bV
  have bu : (aM != 0) = false := bne_eq_false_iff_eq.mpr bV
  clear bV
  (first | rw [bt] | (simp only [i64_w, i32_w]; rw [bt]) | rw [bu] | (have c_ := bu; rw [bne] at c_; rw [c_]; clear c_) | skip)
  obtain ⟨bz, hy579⟩ : ∃ y_ : List (S78), y_ = (([] : List (S78))) := ⟨_, rfl⟩
  replace H : (if 0 ≤ y then (if y ≤ (a.length : Int) then ((some (a.take (y : Int).toNat : List (S78))).bind fun a2 => (if bz.length + a2.length < 4398046511104 then ((some (bz ++ a2 : List (S78))).bind fun a0 => (if 0 ≤ (wrap64 (y + 1)) then (if (wrap64 (y + 1)) ≤ (a.length : Int) then ((some (a.drop ((wrap64 (y + 1)) : Int).toNat : List (S78))).bind fun ao => (if a0.length + ao.length < 4398046511104 then (spec_l14Pair.l0 kj24 (wrap64 (aI - 1)) Q aG aH af X I ac Y (a0 ++ ao)) else (none))) else (none)) else (none))) else (none))) else (none)) else (none)) = some (r1, r2, r3, r4, r5, r6, r7, r8) := hb_ hy579 H
  have cf := Q_ hy579
  clear hy579
  by_cases cg : 0 ≤ y
  rotate_left
  ·rw [if_neg cg] at H
   exact nn_ H
  rw [if_pos cg] at H
  have e4 := eq_true cg
  have e5 : decide (0 ≤ y) = true := decide_eq_true cg
  clear cg
  by_cases ch : y ≤ (a.length : Int)
  rotate_left
  ·rw [if_neg ch] at H
   exact nn_ H
  rw [if_pos ch] at H
  have e6 := eq_true ch
  have e7 : decide (y ≤ (a.length : Int)) = true := decide_eq_true ch
  clear ch
  obtain ⟨a2, hy582⟩ : ∃ y_ : List (S78), y_ = (a.take (y : Int).toNat) := ⟨_, rfl⟩
  replace H : (if bz.length + a2.length < 4398046511104 then ((some (bz ++ a2 : List (S78))).bind fun a0 => (if 0 ≤ (wrap64 (y + 1)) then (if (wrap64 (y + 1)) ≤ (a.length : Int) then ((some (a.drop ((wrap64 (y + 1)) : Int).toNat : List (S78))).bind fun ao => (if a0.length + ao.length < 4398046511104 then (spec_l14Pair.l0 kj24 (wrap64 (aI - 1)) Q aG aH af X I ac Y (a0 ++ ao)) else (none))) else (none)) else (none))) else (none)) = some (r1, r2, r3, r4, r5, r6, r7, r8) := hb_ hy582 H
  have bM := Q_ hy582
  clear hy582
  by_cases cu : bz.length + a2.length < 4398046511104
  rotate_left
  ·rw [if_neg cu] at H
   exact nn_ H
  rw [if_pos cu] at H
  have cT := Q_ cu
  clear cu
  obtain ⟨a0, hy586⟩ : ∃ y_ : List (S78), y_ = (bz ++ a2) := ⟨_, rfl⟩
  replace H : (if 0 ≤ (wrap64 (y + 1)) then (if (wrap64 (y + 1)) ≤ (a.length : Int) then ((some (a.drop ((wrap64 (y + 1)) : Int).toNat : List (S78))).bind fun ao => (if a0.length + ao.length < 4398046511104 then (spec_l14Pair.l0 kj24 (wrap64 (aI - 1)) Q aG aH af X I ac Y (a0 ++ ao)) else (none))) else (none)) else (none)) = some (r1, r2, r3, r4, r5, r6, r7, r8) := hb_ hy586 H
  have cV := Q_ hy586
  clear hy586
  obtain ⟨aA, hji57⟩ : ∃ j_ : Int, (wrap64 (y + 1)) = j_ := ⟨_, rfl⟩
  replace H : (if 0 ≤ (aA) then (if (aA) ≤ (a.length : Int) then ((some (a.drop ((aA) : Int).toNat : List (S78))).bind fun ao => (if a0.length + ao.length < 4398046511104 then (spec_l14Pair.l0 kj24 (wrap64 (aI - 1)) Q aG aH af X I ac Y (a0 ++ ao)) else (none))) else (none)) else (none)) = some (r1, r2, r3, r4, r5, r6, r7, r8) := by first | (rw [hji57] at H; exact H) | (simp only [hji57] at H ⊢; exact H)
  have hji57w : (IntKind.i64.wrap (y + 1)) = aA := (i64_w _).trans hji57
  by_cases ci : 0 ≤ (aA)
  rotate_left
  ·rw [if_neg ci] at H
   exact nn_ H
  rw [if_pos ci] at H
  have e8 := eq_true ci
  have e9 : decide (0 ≤ (aA)) = true := decide_eq_true ci
  clear ci
  by_cases cj : (aA) ≤ (a.length : Int)
  rotate_left
  ·rw [if_neg cj] at H
   exact nn_ H
  rw [if_pos cj] at H
  have fa := eq_true cj
  have fb : decide ((aA) ≤ (a.length : Int)) = true := decide_eq_true cj
  clear cj
  obtain ⟨ao, hy589⟩ : ∃ y_ : List (S78), y_ = (a.drop ((aA) : Int).toNat) := ⟨_, rfl⟩
  replace H : (if a0.length + ao.length < 4398046511104 then (spec_l14Pair.l0 kj24 (wrap64 (aI - 1)) Q aG aH af X I ac Y (a0 ++ ao)) else (none)) = some (r1, r2, r3, r4, r5, r6, r7, r8) := hb_ hy589 H
  have bN := Q_ hy589
  clear hy589
  by_cases cv : a0.length + ao.length < 4398046511104
  rotate_left
  ·rw [if_neg cv] at H
   exact nn_ H
  rw [if_pos cv] at H
  have cU := Q_ cv
  clear cv
  obtain ⟨bA, hy593⟩ : ∃ y_ : List (S78), y_ = (a0 ++ ao) := ⟨_, rfl⟩
  replace H : (spec_l14Pair.l0 kj24 (wrap64 (aI - 1)) Q aG aH af X I ac Y bA) = some (r1, r2, r3, r4, r5, r6, r7, r8) := hb_ hy593 H
  have cW := Q_ hy593
  clear hy593
  have H' := Q_ H
  clear H
  try go_wp2
  have _ := Q_ (Kd.R_drew r.1)
  have _ := Q_ (Kd.R_drew l.1)
  have _ := Q_ (Kd.R_drew q.1)
  have _ := Q_ (Kd.R_drew d.1)
  have _ := Q_ (blk_drew t.1)
  have _ := Q_ (blk_drew u.1)
  have _ := Q_ (blk_drew x.1)
  have _ := Q_ (blk_drew s.1)
  have _ := Q_ (IsS87.drew E.1)
  have _ := Q_ (keep_drew HK.1)
  have _ := Q_ (below_drew1 HB.1)
  clear r l q d t u x s E HK HB
  rename_i r l q d t u x s E HK HB
  have c6 : (y : Int) ≤ ((a.length : Int) : Int) := dt_
  obtain ⟨i062, cm, _, hsz62, _⟩ := info_parts info78
  have hroom62 : a.length ≤ ai := (Kd.R_reads' d.1).2.1
  have hC62 : Kd.C k78 _ az a.length a := (Kd.R_reads' d.1).2.2
  have hcut62 := cut_to (P := Try.prog) 32 78 .i64 Try.underlying32 cm az a.length ai y dt_ c6 hroom62
  have hr62 := Kd.C_take (m := (y : Int).toNat) hC62 (by omega)
  have hy62 : a2.length = (y : Int).toNat := (by rw [bM.1, List.length_take]; omega)
  rw [← bM.1] at hr62
  rw [← hy62] at hcut62
  have aN := Q_ hr62
  have e2 := Q_ (show a2.length ≤ ai from by omega)
  clear hr62 hC62 hroom62 cm hsz62
  have KY62 := Q_ hy62
  clear hy62
  have cD := Q_ (show (y : Int).toNat ≤ a.length from by omega)
  replace c6 := eq_true c6
  have c7 : ((aA) : Int) ≤ ((a.length : Int) : Int) := dt_
  obtain ⟨i063, cn, _, hsz63, _⟩ := info_parts info78
  have hroom63 : a.length ≤ ai := (Kd.R_reads' d.1).2.1
  have hC63 : Kd.C k78 _ az a.length a := (Kd.R_reads' d.1).2.2
  have d5 : (0 : Int) ≤ ((aA) : Int) := dt_
  have hcut63 := cut_from (P := Try.prog) 32 78 .i64 Try.underlying32 cn 4 hsz63 az a.length ai (aA) d5 c7
  have hr63 := Kd.C_drop (m := ((aA) : Int).toNat) (c := ai) hC63 (by omega) hroom63
  obtain ⟨cS, hA63⟩ : ∃ A1, A1 = (if ai = ((aA) : Int).toNat then az else (az : Option Addr).map (·.add (((aA) : Int).toNat * 4))) := ⟨_, rfl⟩
  obtain ⟨fc, ck⟩ : ∃ c1, c1 = ai - ((aA) : Int).toNat := ⟨_, rfl⟩
  have hy63 : ao.length = a.length - ((aA) : Int).toNat := (by rw [bN.1, List.length_drop] <;> omega)
  rw [show (a).drop ((aA) : Int).toNat = ao from bN.1.symm] at hr63
  replace hr63 : Kd.C k78 _ cS ao.length ao := (by rw [hA63]; exact hr63)
  rw [← hy63, ← hA63, ← ck] at hcut63
  have aQ := Q_ hr63
  have e3 := Q_ (show ao.length ≤ fc from by rw [hy63, ck]; exact Nat.sub_le_sub_right hroom63 _)
  clear hr63 hC63 hroom63 cn hsz63 ck
  have KY63 := Q_ hy63
  have KA63 := Q_ hA63
  clear hy63 hA63
  have cE := Q_ (show ((aA) : Int).toNat ≤ a.length from by omega)
  replace c7 := eq_true c7
  refine start_ (n := 14) (S := fun w' => w'.cell? ⟨V, 0, none⟩ = some (.int .i64 ac) ∧ w'.cell? ⟨V, 1, none⟩ = some (.slice au Y.length ar) ∧ w'.cell? ⟨V, 2, none⟩ = some (.slice az a.length ai)) (ds := [13]) #[false, false, false, false, false, false, false, false, false, false, false, false, false, false] (by kernel_rfl) rfl rfl (sb_ s.1) (fun hHeld => ?_); refine with_tabW spec_l14Pair.tab9 spec_l14Pair.bits9 (fun HT_ HW_ => ?_)
  generalize d8.drew = g7 at r l q d t u x s E HK HB aN aQ hHeld ⊢
  refine pu1_ 1 35 14 2 ?_
  refine pu1_ 3 37 14 10 ?_
  refine pu1_ 6 40 14 74 ?_
  refine pu1_ 8 42 14 330 ?_
  refine pu1_ 9 43 14 842 ?_
  refine ta1_ 2 36 14 846 hHeld ?_
  refine pu1_ 4 38 14 862 ?_
  refine ta1_ 7 41 14 990 hHeld ?_
  refine pu1_ 10 44 14 2014 ?_
  refine on_ 0 (some 34) (tm_ 14 2015) HT_ (fun K hK => ?_)
  refine Kd.R_lit_step k78 _ 78 ?hg (N := 34) ?hd (xs := ([] : List (S78))) (inner := []) (ok := fun _ => True) (okp := fun _ => True) ?hr ?hp (fun _ hk => hk) trivial (Below.refl _ _) (Nat.le_refl _) (by simp) ?_; (case hd => rfl); (case hg => rfl); (case hr => first | (go_simp; done) | (go_simp; rfl)); (case hp => exact (Reps.none _ _))
  intro d6 g8 bx hb hg_ hnew_
  clear hg_ hnew_
  (first | rw [← cf.1] at bx | (simp only [Int.reduceToNat] at bx; rw [← cf.1] at bx))
  have _ := Q_ (Kd.R_below (pr_ r.1) hb)
  have _ := Q_ (Kd.R_elder' (pr_ l.1) (Kd.R_base bx) hb)
  have _ := Q_ (Kd.R_below (pr_ q.1) hb)
  have _ := Q_ (Kd.R_elder' (pr_ d.1) (Kd.R_base bx) hb)
  have _ := Q_ (Kd.R_lower (Kd.R_new' (Kd.R_new' bx (Kd.R_lt (pr_ l.1))) (Kd.R_lt (pr_ d.1))) (keep_size (w := w) (g := g) (row := none) (qk4_ HK.1 O.1 T.1 U.1 ab.1)))
  have _ := Q_ (bb_ t.1 hb)
  have _ := Q_ (bb_ u.1 hb)
  have _ := Q_ (bb_ x.1 hb)
  have _ := Q_ (bb_ s.1 hb)
  have _ := Q_ (IsS87.below (qs87_4_ E.1 z.1 A.1 D.1 B.1) hb)
  have _ := Q_ (Kd.C_below (by repeat (first | (with_reducible exact aN.1) | (with_reducible refine Kd.C_alloc ?_ _) | (with_reducible refine Kd.C_drewN ?_ _) | (with_reducible refine Kd.C_drew ?_) | exact aN.1)) hb)
  have _ := Q_ (Kd.C_below (by repeat (first | (with_reducible exact aQ.1) | (with_reducible refine Kd.C_alloc ?_ _) | (with_reducible refine Kd.C_drewN ?_ _) | (with_reducible refine Kd.C_drew ?_) | exact aQ.1)) hb)
  have _ := Q_ (KeepBut.trans (qk4_ HK.1 O.1 T.1 U.1 ab.1) (KeepBut.of_below hb g none) (.inl rfl))
  have _ := Q_ (below_step (qb5_ HB.1 (IsS87.ge E.1) ad.1 ae.1 aj.1 al.1) hb)
  clear r l q d t u x s E aN aQ HK HB
  rename_i r l q d a3 t u x s E aN aQ HK HB
  clear hb bx
  refine hK.out _ _ (sb_ s.1) (fun hHeld => ?_)
  clear hK K
  refine no_ (some 34) ?_
  refine on_ 5 (some 39) (tf_ 11 14) HT_ (fun K hK => ?_)
  refine Kd.R_append_rows_step k78 w.heap.size (by rfl) (.tmp 34) (.tmp 38) 32 78 (.agg #[(.int .i64 0), (.bool false), (.int .i64 0), (.int .i64 0)]) 32 rfl Try.underlying32 info78 rfl (by decide) (by omega) d6 bz a2 _ _ _ (fun k_ => some k_ ≠ (J : Value).ownBlock ∧ some k_ ≠ (.slice az a.length ai : Value).ownBlock) (fun _ => False) rfl rfl ?aO ?aR (fun _ _ h => h) (fun _ h => h.elim) ?aF (Below.refl _ _) ?aS ?aL ?_
  (case aR => repeat (first | exact (by repeat (first | (with_reducible exact aN.1) | (with_reducible refine Kd.C_alloc ?_ _) | (with_reducible refine Kd.C_drewN ?_ _) | (with_reducible refine Kd.C_drew ?_) | exact aN.1)) | (with_reducible refine Kd.C_alloc ?_ _) | (with_reducible refine Kd.C_drewN ?_ _) | (with_reducible refine Kd.C_drew ?_)))
  (case aF => exact (fun k_ hk => ⟨Kd.fresh' (Kd.R_lt (pr_ l.1)) k_ hk, Kd.fresh' (Kd.R_lt (pr_ d.1)) k_ hk⟩))
  (case aO => exact (by (with_reducible repeat (first | apply Kd.R_alloc | apply Kd.R_drewN | apply Kd.R_drew)); exact Kd.R_mono a3.1 (fun _ hk => ⟨hk.1.2, hk.2⟩)))
  (case aS => exact (keep_size (w := w) (g := g) (row := none) (qk4_ HK.1 O.1 T.1 U.1 ab.1)))
  (case aL => have := cT.1; omega)
  intro d7 d9 ho hb hg hat
  rw [← cV.1] at ho
  have _ := Q_ (Kd.R_over' (pr_ r.1) (Kd.R_typed (pr_ a3.1)) (by decide) hg)
  have _ := Q_ (Kd.R_after (ok := (fun k_ => some k_ ≠ (.slice az a.length ai : Value).ownBlock)) (pr_ l.1) hg hat)
  have _ := Q_ (Kd.R_over' (pr_ q.1) (Kd.R_typed (pr_ a3.1)) (by decide) hg)
  have _ := Q_ (Kd.R_after (ok := (fun k_ => some k_ ≠ (J : Value).ownBlock)) (pr_ d.1) hg hat)
  have _ := Q_ (blk_grown (g := F) (o := .cells #[.int .i64 0, .slice none 0 0, .slice none 0 0] 34 (0, 0)) (pk_ t.1) hg (Kd.R_ne a3.1 t.1 (by decide)))
  have _ := Q_ (blk_grown (g := G) (o := .cells #[.int .i64 0, .slice none 0 0, .slice none 0 0] 34 (0, 0)) (pk_ u.1) hg (Kd.R_ne a3.1 u.1 (by decide)))
  have _ := Q_ (blk_grown (g := am) (o := .cells #[.int .i64 af, .slice aq X.length an, J] 34 (0, 0)) (pk_ x.1) hg (Kd.R_ne a3.1 x.1 (by decide)))
  have _ := Q_ (blk_grown (g := V) (o := .cells #[.int .i64 ac, .slice au Y.length ar, .slice az a.length ai] 34 (0, 0)) (pk_ s.1) hg (Kd.R_ne a3.1 s.1 (by decide)))
  have _ := Q_ (IsS87.grown (qs87_4_ E.1 z.1 A.1 D.1 B.1) hg (IsS87.own_ne E.1 a3.1 (by decide)))
  have _ := Q_ (below_weaken (qb5_ HB.1 (IsS87.ge E.1) ad.1 ae.1 aj.1 al.1) HL.1 hb)
  have _ := Q_ (KeepBut.trans (qk4_ HK.1 O.1 T.1 U.1 ab.1) (KeepBut.of_grown hg g) (Kd.R_base2 a3.1))
  have _ := Q_ ((show Kd.C k78 d9 az a2.length a2 from by rw [bM.1]; exact Kd.C_take (m := (y : Int).toNat) ((Kd.R_reads' (Kd.R_after (ok := (fun k_ => some k_ ≠ (J : Value).ownBlock)) (pr_ d.1) hg hat)).2.2) cD.1))
  have _ := Q_ ((show Kd.C k78 d9 cS ao.length ao from by rw [bN.1, KA63.1]; exact Kd.C_drop (m := ((aA) : Int).toNat) (c := ai) ((Kd.R_reads' (Kd.R_after (ok := (fun k_ => some k_ ≠ (J : Value).ownBlock)) (pr_ d.1) hg hat)).2.2) cE.1 ((Kd.R_reads' (Kd.R_after (ok := (fun k_ => some k_ ≠ (J : Value).ownBlock)) (pr_ d.1) hg hat)).2.1)))
  have _ := Q_ (ho)
  clear r l q d t u x s E HB HK aN aQ a3
  rename_i r l q d t u x s E HB HK aN aQ a4
  clear ho hb hg hat
  refine hK.out _ _ (sb_ s.1) (fun hHeld => ?_)
  clear hK K
  refine no_ (some 39) ?_
  refine on_ 11 (some 45) (tf_ 12 14) HT_ (fun K hK => ?_)
  refine Kd.R_append_rows_step k78 w.heap.size (by rfl) (.tmp 39) (.tmp 44) 32 78 (.agg #[(.int .i64 0), (.bool false), (.int .i64 0), (.int .i64 0)]) 32 rfl Try.underlying32 info78 rfl (by decide) (by omega) d7 a0 ao _ _ _ (fun k_ => some k_ ≠ (J : Value).ownBlock ∧ some k_ ≠ (.slice az a.length ai : Value).ownBlock) (fun _ => False) rfl rfl ?aO ?aR (fun _ _ h => h) (fun _ h => h.elim) ?aF (Below.refl _ _) ?aS ?aL ?_
  (case aR => repeat (first | exact (by repeat (first | (with_reducible exact aQ.1) | (with_reducible refine Kd.C_alloc ?_ _) | (with_reducible refine Kd.C_drewN ?_ _) | (with_reducible refine Kd.C_drew ?_) | exact aQ.1)) | (with_reducible refine Kd.C_alloc ?_ _) | (with_reducible refine Kd.C_drewN ?_ _) | (with_reducible refine Kd.C_drew ?_)))
  (case aF => exact (fun k_ hk => ⟨Kd.fresh' (Kd.R_lt (pr_ l.1)) k_ hk, Kd.fresh' (Kd.R_lt (pr_ d.1)) k_ hk⟩))
  (case aO => exact (pr_ a4.1))
  (case aS => exact (keep_size (w := w) (g := g) (row := none) (qk4_ HK.1 O.1 T.1 U.1 ab.1)))
  (case aL => have := cU.1; omega)
  intro gN c9 ho hb hg hat
  rw [← cW.1] at ho
  have _ := Q_ (Kd.R_over' (pr_ r.1) (Kd.R_typed (pr_ a4.1)) (by decide) hg)
  have _ := Q_ (Kd.R_after (ok := (fun k_ => some k_ ≠ (.slice az a.length ai : Value).ownBlock)) (pr_ l.1) hg hat)
  have _ := Q_ (Kd.R_over' (pr_ q.1) (Kd.R_typed (pr_ a4.1)) (by decide) hg)
  have _ := Q_ (Kd.R_after (ok := (fun k_ => some k_ ≠ (J : Value).ownBlock)) (pr_ d.1) hg hat)
  have _ := Q_ (blk_grown (g := F) (o := .cells #[.int .i64 0, .slice none 0 0, .slice none 0 0] 34 (0, 0)) (pk_ t.1) hg (Kd.R_ne a4.1 t.1 (by decide)))
  have _ := Q_ (blk_grown (g := G) (o := .cells #[.int .i64 0, .slice none 0 0, .slice none 0 0] 34 (0, 0)) (pk_ u.1) hg (Kd.R_ne a4.1 u.1 (by decide)))
  have _ := Q_ (blk_grown (g := am) (o := .cells #[.int .i64 af, .slice aq X.length an, J] 34 (0, 0)) (pk_ x.1) hg (Kd.R_ne a4.1 x.1 (by decide)))
  have _ := Q_ (blk_grown (g := V) (o := .cells #[.int .i64 ac, .slice au Y.length ar, .slice az a.length ai] 34 (0, 0)) (pk_ s.1) hg (Kd.R_ne a4.1 s.1 (by decide)))
  have _ := Q_ (IsS87.grown (qs87_4_ E.1 z.1 A.1 D.1 B.1) hg (IsS87.own_ne E.1 a4.1 (by decide)))
  have _ := Q_ (below_weaken (qb5_ HB.1 (IsS87.ge E.1) ad.1 ae.1 aj.1 al.1) HL.1 hb)
  have _ := Q_ (KeepBut.trans (qk4_ HK.1 O.1 T.1 U.1 ab.1) (KeepBut.of_grown hg g) (Kd.R_base2 a4.1))
  have _ := Q_ ((show Kd.C k78 c9 az a2.length a2 from by rw [bM.1]; exact Kd.C_take (m := (y : Int).toNat) ((Kd.R_reads' (Kd.R_after (ok := (fun k_ => some k_ ≠ (J : Value).ownBlock)) (pr_ d.1) hg hat)).2.2) cD.1))
  have _ := Q_ ((show Kd.C k78 c9 cS ao.length ao from by rw [bN.1, KA63.1]; exact Kd.C_drop (m := ((aA) : Int).toNat) (c := ai) ((Kd.R_reads' (Kd.R_after (ok := (fun k_ => some k_ ≠ (J : Value).ownBlock)) (pr_ d.1) hg hat)).2.2) cE.1 ((Kd.R_reads' (Kd.R_after (ok := (fun k_ => some k_ ≠ (J : Value).ownBlock)) (pr_ d.1) hg hat)).2.1)))
  have _ := Q_ (ho)
  clear r l q d t u x s E HB HK aN aQ a4
  rename_i r l q d t u x s E HB HK aN aQ cd
  clear ho hb hg hat
  obtain ⟨bP, bQ, cI⟩ := Kd.R_slice cd.1
  (first | subst cI | (injection cI with f1_ f2_ f3_; have f4_ := f1_.symm; have f5_ := f3_.symm; clear f1_ f2_ f3_; subst f4_; subst f5_))
  refine hK.out _ _ (sb_ s.1) (fun hHeld => ?_)
  clear hK K
  refine no_ (some 45) ?_
  refine pu1_ 12 46 14 8191 ?_
  refine last_ (i := 13) (N := none) #[true, true, true, true, true, true, true, true, true, true, true, true, true, true] rfl rfl (one_of HT_.1 (by kernel_rfl)) (by decide) (fun K hK => ?_)
  have gI : c9.cell? ⟨V, 2, none⟩ = some (.slice az a.length ai) := (blk_cell s.1 2).trans rfl
  have ft := blk_frozen s.1 2
  have dY := ag.1
  have dZ := ah.1
  have d0 := ax.1
  have dD := L.1
  have dE := M.1
  have dF := aE.1
  refine skip_ (w1 := ?_) (by rfl) rfl ?_ ?_
  rotate_left
  ·go_simp
   rfl
  refine hK.out _ _ ?_
  clear hK K
  refine done_ (done_of HT_.1 (by kernel_rfl)) ?_
  try go_wp2
  go_roundg kj24
  case measure => have := bo.1; have := bg.1; omega
  case rel => exact ⟨(wrap64 (aI - 1)), (aG), (aH), (I), (bA), (J), (.slice bP bA.length bQ), el_, H', ⟨by have := bo.1; have := bg.1; omega⟩, ⟨pr_ (Kd.R_mono (Kd.R_far (p := ⟨V, 2, none⟩) (Kd.R_types r.1 s.1 (by decide)) (fun _ hk => hk.2) (.slice bP bA.length bQ)) (fun _ hk => hk.1))⟩, ⟨pr_ (Kd.R_mono (Kd.R_far (p := ⟨V, 2, none⟩) (Kd.R_types l.1 s.1 (by decide)) (fun _ hk => hk.2) (.slice bP bA.length bQ)) (fun _ hk => hk.1.2))⟩, ⟨pr_ (Kd.R_mono (Kd.R_far (p := ⟨V, 2, none⟩) (Kd.R_types q.1 s.1 (by decide)) (fun _ hk => hk.2) (.slice bP bA.length bQ)) (fun _ hk => hk.1))⟩, ⟨pr_ (Kd.R_mono (Kd.R_far (p := ⟨V, 2, none⟩) (Kd.R_types cd.1 s.1 (by decide)) (fun _ hk => hk.2) (.slice bP bA.length bQ)) (fun _ hk => hk.1.1))⟩, ⟨pp_ t.1⟩, ⟨pp_ u.1⟩, ⟨pp_ x.1⟩, ⟨pp_ s.1⟩, ⟨qs87_4_ E.1 z.1 A.1 D.1 B.1⟩, ⟨qk4_ HK.1 O.1 T.1 U.1 ab.1⟩, ⟨qb5_ HB.1 (IsS87.ge E.1) ad.1 ae.1 aj.1 al.1⟩⟩
 rw [if_neg bV] at H
 have bt : (aM == 0) = false := beq_eq_false_iff_ne.mpr bV
 have bu : (aM != 0) = true := bne_iff_ne.mpr bV
 (first | rw [bt] | (simp only [i64_w, i32_w]; rw [bt]) | rw [bu] | (have c_ := bu; rw [bne] at c_; rw [c_]; clear c_) | skip)
 by_cases bW : aM = 1
 rotate_left
 ·rw [if_neg bW] at H
  have cZ : (aM == 1) = false := beq_eq_false_iff_ne.mpr bW
  have c0 : (aM != 1) = true := bne_iff_ne.mpr bW
  by_cases bX : aM = 2
  rotate_left
  ·rw [if_neg bX] at H
   have c2 : (aM == 2) = false := beq_eq_false_iff_ne.mpr bX
   have c3 : (aM != 2) = true := bne_iff_ne.mpr bX
   have H' := Q_ H
   clear H
   go_wp2
   go_roundg kj24
   case measure => have := bo.1; have := bg.1; omega
   case rel => exact ⟨(wrap64 (aI - 1)), (aG), (aH), (I), (a), (J), (.slice az a.length ai), el_, H', ⟨by have := bo.1; have := bg.1; omega⟩, ⟨pr_ r.1⟩, ⟨pr_ l.1⟩, ⟨pr_ q.1⟩, ⟨pr_ d.1⟩, ⟨pk_ t.1⟩, ⟨pk_ u.1⟩, ⟨pk_ x.1⟩, ⟨pk_ s.1⟩, ⟨qs87_4_ E.1 z.1 A.1 D.1 B.1⟩, ⟨qk4_ HK.1 O.1 T.1 U.1 ab.1⟩, ⟨qb5_ HB.1 (IsS87.ge E.1) ad.1 ae.1 aj.1 al.1⟩⟩
  rw [if_pos bX] at H
  have c2 : (aM == 2) = true := beq_iff_eq.mpr bX
  have c3 : (aM != 2) = false := bne_eq_false_iff_eq.mpr bX
  clear bX
  obtain ⟨⟨bn, cq, cr⟩, e0, H⟩ := bs_ H
  (try dsimp only at H)
  by_cases cw : 0 ≤ y
  rotate_left
  ·rw [if_neg cw] at H
   exact nn_ H
  rw [if_pos cw] at H
  have fd := decide_eq_true cw
  clear cw
  by_cases cx : y < (a.length : Int)
  rotate_left
  ·rw [if_neg cx] at H
   exact nn_ H
  rw [if_pos cx] at H
  have fe := decide_eq_true cx
  clear cx
  obtain ⟨cR, hy608⟩ : ∃ y_ : List (S78), y_ = (a.set (y : Int).toNat (⟨(rd_T78 a y).f0, (rd_T78 a y).f1, (rd_T78 a y).f2, bn⟩ : S78)) := ⟨_, rfl⟩
  replace H : (spec_l14Pair.l0 kj24 (wrap64 (aI - 1)) Q cq cr af X I ac Y cR) = some (r1, r2, r3, r4, r5, r6, r7, r8) := hb_ hy608 H
  have cY := Q_ hy608
  clear hy608
  have H' := Q_ H
  clear H
  try go_wp2
  have _ := Q_ (Kd.R_drew r.1)
  have _ := Q_ (Kd.R_drew l.1)
  have _ := Q_ (Kd.R_drew q.1)
  have _ := Q_ (Kd.R_drew d.1)
  have _ := Q_ (blk_drew t.1)
  have _ := Q_ (blk_drew u.1)
  have _ := Q_ (blk_drew x.1)
  have _ := Q_ (blk_drew s.1)
  have _ := Q_ (IsS87.drew E.1)
  have _ := Q_ (keep_drew HK.1)
  have _ := Q_ (below_drew1 HB.1)
  clear r l q d t u x s E HK HB
  rename_i r l q d t u x s E HK HB
  refine start_ (n := 10) (S := fun w' => w'.cell? ⟨V, 0, none⟩ = some (.int .i64 ac) ∧ w'.cell? ⟨V, 1, none⟩ = some (.slice au Y.length ar) ∧ w'.cell? ⟨V, 2, none⟩ = some (.slice az a.length ai)) (ds := [9]) #[false, false, false, false, false, false, false, false, false, false] (by kernel_rfl) rfl rfl (sb_ s.1) (fun hHeld => ?_); refine with_tabW spec_l14Pair.tab16 spec_l14Pair.bits16 (fun HT_ HW_ => ?_)
  generalize d8.drew = g9 at r l q d t u x s E HK HB hHeld ⊢
  refine pu1_ 0 74 10 1 ?_
  refine pu1_ 2 76 10 5 ?_
  refine pu1_ 3 77 10 13 ?_
  refine pu1_ 4 78 10 29 ?_
  refine ta1_ 1 75 10 31 hHeld ?_
  refine ta1_ 5 79 10 63 hHeld ?_
  refine on_ 6 (some 80) (tf_ 7 10) HT_ (fun K hK => ?_)
  refine goes_ Try.func54 (by kernel_rfl) rfl #[.pointer (some ⟨g, 0, none⟩), .int .i64 ac] (by rfl) rfl rfl mp_ ?_
  with_reducible refine (spec_l1Below.calls g Q aG aH ac bn cq cr w0 _ ?side1 ?side2 e0.1).mono ?_
  (case side1 => exact qs87_4_ E.1 z.1 A.1 D.1 B.1)
  (case side2 => exact qb5_ HB.1 (IsS87.ge E.1) ad.1 ae.1 aj.1 al.1)
  rintro e ha ⟨rfl, hi, hb, hk⟩
  refine ⟨_, rfl, ?_⟩
  have _ := Q_ (Kd.R_mono (Kd.R_keep (IsS87.apart (show IsS87 w0 _ g Q aG aH from qs87_4_ E.1 z.1 A.1 D.1 B.1) (pr_ r.1) (by decide)) hk (fun _ h => h.2)) (fun _ h => h.1))
  have _ := Q_ (Kd.R_mono (Kd.R_keep (IsS87.apart (show IsS87 w0 _ g Q aG aH from qs87_4_ E.1 z.1 A.1 D.1 B.1) (pr_ l.1) (by decide)) hk (fun _ h => h.2)) (fun _ h => h.1))
  have _ := Q_ (Kd.R_mono (Kd.R_keep (IsS87.apart (show IsS87 w0 _ g Q aG aH from qs87_4_ E.1 z.1 A.1 D.1 B.1) (pr_ q.1) (by decide)) hk (fun _ h => h.2)) (fun _ h => h.1))
  have _ := Q_ (Kd.R_mono (Kd.R_keep (IsS87.apart (show IsS87 w0 _ g Q aG aH from qs87_4_ E.1 z.1 A.1 D.1 B.1) (pr_ d.1) (by decide)) hk (fun _ h => h.2)) (fun _ h => h.1))
  have _ := Q_ (KeepBut.blk hk (g' := F) (o := .cells #[.int .i64 0, .slice none 0 0, .slice none 0 0] 34 (0, 0)) (pk_ t.1) a5.1 (by simp))
  have _ := Q_ (KeepBut.blk hk (g' := G) (o := .cells #[.int .i64 0, .slice none 0 0, .slice none 0 0] 34 (0, 0)) (pk_ u.1) a6.1 (by simp))
  have _ := Q_ (KeepBut.blk hk (g' := am) (o := .cells #[.int .i64 af, .slice aq X.length an, J] 34 (0, 0)) (pk_ x.1) a7.1 (by simp))
  have _ := Q_ (KeepBut.blk hk (g' := V) (o := .cells #[.int .i64 ac, .slice au Y.length ar, .slice az a.length ai] 34 (0, 0)) (pk_ s.1) ay.1 (by simp))
  have _ := Q_ (KeepBut.trans (qk4_ HK.1 O.1 T.1 U.1 ab.1) hk (.inl rfl))
  have _ := Q_ (hb)
  have _ := Q_ (hi)
  clear r l q d t u x s HK HB E
  rename_i r l q d t u x s HK HB E
  (try clear hb hk hi)
  have c5 : 0 ≤ (y : Int) := dt_
  have c8 : (y : Int) < ((a.length : Int) : Int) := dt_
  obtain ⟨a1, gz, cJ, cK, gl75, gx, HG75⟩ := Kd.R_form d.1 (by omega)
  (first | cases cJ | (injection cJ with ea_ en_ ec_; (first | subst ea_ | (injection ea_ with ea_; subst ea_)); subst ec_; clear en_))
  have cB := Q_ cK
  have cC := Q_ HG75
  clear cK gl75 HG75
  obtain ⟨ce75, hcl75, cL, bw, hfr75⟩ := Kd.R_elem d.1 z78 (y : Int) c5 c8
  obtain rfl := k78_openM cL
  have eU : World.cell? _ ⟨a1, (y : Int).toNat * 4, none⟩ = some (.int .i64 ((rd_T78 a y).f0)) := bw 0 _ rfl
  have eV : World.cell? _ ⟨a1, (y : Int).toNat * 4 + 1, none⟩ = some (.bool ((rd_T78 a y).f1)) := bw 1 _ rfl
  have eW : World.cell? _ ⟨a1, (y : Int).toNat * 4 + 2, none⟩ = some (.int .i64 ((rd_T78 a y).f2)) := bw 2 _ rfl
  have eX : World.cell? _ ⟨a1, (y : Int).toNat * 4 + 3, none⟩ = some (.int .i64 ((rd_T78 a y).f3)) := bw 3 _ rfl
  have eg : World.frozen? _ ⟨a1, (y : Int).toNat * 4, none⟩ = false := hfr75 0
  have eh : World.frozen? _ ⟨a1, (y : Int).toNat * 4 + 1, none⟩ = false := hfr75 1
  have ei : World.frozen? _ ⟨a1, (y : Int).toNat * 4 + 2, none⟩ = false := hfr75 2
  have ej : World.frozen? _ ⟨a1, (y : Int).toNat * 4 + 3, none⟩ = false := hfr75 3
  clear hcl75 bw hfr75; (try clear cL)
  replace c5 := eq_true c5
  replace c8 := eq_true c8
  have HN0_go75 := Q_ (show g ≠ a1 from by have h_ := IsS87.own_ne E.1 d.1 (by decide); intro e_; exact h_ (by rw [e_]; rfl))
  obtain ⟨ce78, hcl78, cM, cl, hfr78⟩ := Kd.R_elem d.1 z78 (y : Int) dt_ (by have h_ : (y : Int) < ((a.length : Int) : Int) := dt_; first | exact h_ | (have e_ := (Kd.R_reads' d.1).1; omega) | simpa using h_)
  obtain rfl := k78_openM cM
  have HP78 := (Kd.R_seg d.1 (y : Int) dt_ (by have h_ : (y : Int) < ((a.length : Int) : Int) := dt_; first | exact h_ | (have e_ := (Kd.R_reads' d.1).1; omega) | simpa using h_) (seg := [.int .i64 bn]) (j := 3) hcl78 cl (show 4 ≤ 4 from by decide) (x' := (⟨(rd_T78 a y).f0, (rd_T78 a y).f1, (rd_T78 a y).f2, bn⟩ : S78)) (k78_mkM _ _ _ (⟨(rd_T78 a y).f0, (rd_T78 a y).f1, (rd_T78 a y).f2, bn⟩ : S78) ) (fun _ hk => hk)).1
  rw [← cY.1] at HP78
  have db := Q_ HP78
  clear hcl78 cl hfr78 HP78; (try clear cM)
  refine hK.out _ _ (sb_ s.1) (fun hHeld => ?_)
  clear hK K
  refine no_ (some 80) ?_
  refine pu1_ 7 81 10 255 ?_
  refine pu1_ 8 82 10 511 ?_
  refine last_ (i := 9) (N := none) #[true, true, true, true, true, true, true, true, true, true] rfl rfl (one_of HT_.1 (by kernel_rfl)) (by decide) (fun K hK => ?_)
  refine skip_ (w1 := ?_) (by rfl) rfl ?_ ?_
  rotate_left
  ·go_simp
   rfl
  refine hK.out _ _ ?_
  clear hK K
  refine done_ (done_of HT_.1 (by kernel_rfl)) ?_
  try go_wp2
  go_roundg kj24
  case measure => have := bo.1; have := bg.1; omega
  case rel => exact ⟨(wrap64 (aI - 1)), (cq), (cr), (I), (cR), (J), (.slice (some ⟨a1, 0, none⟩) a.length ai), el_, H', ⟨by have := bo.1; have := bg.1; omega⟩, ⟨pr_ (Kd.R_mono (Kd.R_far (p := ⟨a1, (y : Int).toNat * 4 + 3, none⟩) (Kd.R_types r.1 cC.1 (by decide)) (fun _ hk => hk.2) (.int .i64 bn)) (fun _ hk => hk.1))⟩, ⟨by (with_reducible repeat (first | apply Kd.R_alloc | apply Kd.R_drewN | apply Kd.R_drew)); exact Kd.R_mono (Kd.R_far (p := ⟨a1, (y : Int).toNat * 4 + 3, none⟩) (Kd.R_mono l.1 (fun k_ hk => (⟨hk, fun e_ => hk (by rw [e_]; rfl)⟩ : _ ∧ k_ ≠ a1))) (fun _ hk => hk.2) (.int .i64 bn)) (fun _ hk => hk.1)⟩, ⟨pr_ (Kd.R_mono (Kd.R_far (p := ⟨a1, (y : Int).toNat * 4 + 3, none⟩) (Kd.R_types q.1 cC.1 (by decide)) (fun _ hk => hk.2) (.int .i64 bn)) (fun _ hk => hk.1))⟩, ⟨pr_ db.1⟩, ⟨by (with_reducible repeat (first | refine blk_drewN ?_ _ | refine blk_drew ?_ | refine blk_alloc ?_ _)); refine blk_far ?_ (by have h_ := Kd.R_ne d.1 t.1 (by decide); intro e_; exact h_ (by rw [e_]; rfl)) _; exact pk_ t.1⟩, ⟨by (with_reducible repeat (first | refine blk_drewN ?_ _ | refine blk_drew ?_ | refine blk_alloc ?_ _)); refine blk_far ?_ (by have h_ := Kd.R_ne d.1 u.1 (by decide); intro e_; exact h_ (by rw [e_]; rfl)) _; exact pk_ u.1⟩, ⟨by (with_reducible repeat (first | refine blk_drewN ?_ _ | refine blk_drew ?_ | refine blk_alloc ?_ _)); refine blk_far ?_ (by have h_ := Kd.R_ne d.1 x.1 (by decide); intro e_; exact h_ (by rw [e_]; rfl)) _; exact pk_ x.1⟩, ⟨by (with_reducible repeat (first | refine blk_drewN ?_ _ | refine blk_drew ?_ | refine blk_alloc ?_ _)); refine blk_far ?_ (by have h_ := Kd.R_ne d.1 s.1 (by decide); intro e_; exact h_ (by rw [e_]; rfl)) _; exact pk_ s.1⟩, ⟨qs87_5_ E.1 HN0_go75.1 z.1 A.1 D.1 B.1⟩, ⟨qk5_ HK.1 cB.1 O.1 T.1 U.1 ab.1⟩, ⟨qb6_ HB.1 (Nat.le_trans HL.1 cB.1) (IsS87.ge E.1) ad.1 ae.1 aj.1 al.1⟩⟩
 rw [if_pos bW] at H
 have cZ : (aM == 1) = true := beq_iff_eq.mpr bW
 have c0 : (aM != 1) = false := bne_eq_false_iff_eq.mpr bW
 clear bW
 by_cases cy : 0 ≤ y
 rotate_left
 ·rw [if_neg cy] at H
  exact nn_ H
 rw [if_pos cy] at H
 have ff := decide_eq_true cy
 clear cy
 by_cases cz : y < (a.length : Int)
 rotate_left
 ·rw [if_neg cz] at H
  exact nn_ H
 rw [if_pos cz] at H
 have fg := decide_eq_true cz
 clear cz
 have HS_ := Q_ H
 clear H
 have fI := L.1
 have gf := ag.1
 have fJ := M.1
 have gg := ah.1
 have fK := aE.1
 have gh := ax.1
 have fL := ay.1
 have gi := B.1
 have fl := bc3_ s.1
 have co : 0 ≤ (y : Int) := dt_
 have cp : y < (a.length : Int) := dt_
 obtain ⟨bm, dc, d1, d2, d3, d4⟩ := at_T78 (Kd.R_reads' d.1).2.2 y co cp
 cases dc
 replace co := eq_true co
 replace cp := eq_true cp
 go_upto_region 12 with (first | ((with_reducible refine gate_dst (N := 8) rfl ?_); (try (refine gate_guard (by rfl) ?_; dsimp only)); refine bx_ 8 #[.int .i64 0, .bool false, .int .i64 0, .int .i64 0] 78 ?_; intro W hg he hbox hb; have _ := Q_ (Kd.R_below (pr_ r.1) hb); have _ := Q_ (Kd.R_below (Kd.R_elderB (pr_ l.1) W (Nat.le_of_eq hg.symm)) hb); have _ := Q_ (Kd.R_below (pr_ q.1) hb); have _ := Q_ (Kd.R_below (Kd.R_elderB (pr_ d.1) W (Nat.le_of_eq hg.symm)) hb); have _ := Q_ (bb_ t.1 hb); have _ := Q_ (bb_ u.1 hb); have _ := Q_ (bb_ x.1 hb); have _ := Q_ (bb_ s.1 hb); have _ := Q_ (IsS87.below (qs87_4_ E.1 z.1 A.1 D.1 B.1) hb); have _ := Q_ (KeepBut.trans (qk4_ HK.1 O.1 T.1 U.1 ab.1) (KeepBut.of_below hb g none) (.inl rfl)); have _ := Q_ (below_step (qb5_ HB.1 (IsS87.ge E.1) ad.1 ae.1 aj.1 al.1) hb); have ap := Q_ (hbox); have bh := Q_ ((by rw [hg]; exact (keep_size (w := w) (g := g) (row := none) (qk4_ HK.1 O.1 T.1 U.1 ab.1)) : w.heap.size ≤ W)); have br := Q_ (Nat.le_trans HW0.1 bh.1); have aU := Q_ (nb_ hg t); have a8 := Q_ aU.1.symm; have aW := Q_ (nb_ hg u); have a9 := Q_ aW.1.symm; have aX := Q_ (nb_ hg x); have ba := Q_ aX.1.symm; have aY := Q_ (nb_ hg s); have bb := Q_ aY.1.symm; have ak := Q_ ((by rw [hg]; exact Nat.ne_of_lt (IsS87.lt (show IsS87 w0 _ g Q aG aH from qs87_4_ E.1 z.1 A.1 D.1 B.1)) : g ≠ W)); have be := Q_ ak.1.symm; clear r l q d t u x s E HK HB; rename_i r l q d t u x s E HK HB; clear hb hbox hg; have fM := a8.1; have gj := aU.1; have fN := a9.1; have gl := aW.1; have fO := ba.1; have gm := aX.1; have fP := bb.1; have gn := aY.1; have fQ := be.1; have go := ak.1; have fm := bc4_ ap.1))
 (try simp only [Act.put, s1_, s2_, s3_])
 have H := HS_.1
 clear HS_
 obtain ⟨⟨aK, bR, bS⟩, e1, H⟩ := bs_ H
 (try dsimp only at H)
 have HS_ := Q_ H
 clear H
 go_upto_region 13 with (first | ((with_reducible refine gate_callee (f := 54) rfl ?_); refine gl_ (some 55) Try.func54 #[.pointer (some ⟨g, 0, none⟩), .int .i64 4] ?_; (with_reducible refine (spec_l1Below.calls g Q aG aH 4 aK bR bS w0 _ ?side1 ?side2 e1.1).mono ?_); (case side1 => exact qs87_5_ E.1 z.1 A.1 D.1 B.1 ak.1); (case side2 => exact qb6_ HB.1 (IsS87.ge E.1) ad.1 ae.1 aj.1 al.1 br.1); rintro e gv ⟨rfl, hi, hb, hk⟩; refine ⟨_, rfl, ?_⟩; have _ := Q_ (Kd.R_mono (Kd.R_keep (IsS87.apart (show IsS87 w0 _ g Q aG aH from qs87_5_ E.1 z.1 A.1 D.1 B.1 ak.1) (pr_ (rf4_ r.1 ap.1)) (by decide)) hk (fun _ h => h.2)) (fun _ h => h.1)); have _ := Q_ (Kd.R_mono (Kd.R_keep (IsS87.apart (show IsS87 w0 _ g Q aG aH from qs87_5_ E.1 z.1 A.1 D.1 B.1 ak.1) (by (with_reducible repeat (first | apply Kd.R_alloc | apply Kd.R_drewN | apply Kd.R_drew)); exact (Kd.R_mono (Kd.R_far (p := ⟨W, 3, none⟩) (Kd.R_far (p := ⟨W, 2, none⟩) (Kd.R_far (p := ⟨W, 1, none⟩) (Kd.R_far (p := ⟨W, 0, none⟩) (Kd.R_mono l.1 (fun k_ hk => (⟨hk, hk.2⟩ : _ ∧ k_ ≠ W))) (fun _ hk => hk.2) (.int .i64 ((rd_T78 a y).f0))) (fun _ hk => hk.2) (.bool ((rd_T78 a y).f1))) (fun _ hk => hk.2) (.int .i64 ((rd_T78 a y).f2))) (fun _ hk => hk.2) (.int .i64 ((rd_T78 a y).f3))) (fun _ h_ => h_.1))) (by decide)) hk (fun _ h => h.2)) (fun _ h => h.1)); have _ := Q_ (Kd.R_mono (Kd.R_keep (IsS87.apart (show IsS87 w0 _ g Q aG aH from qs87_5_ E.1 z.1 A.1 D.1 B.1 ak.1) (pr_ (rf4_ q.1 ap.1)) (by decide)) hk (fun _ h => h.2)) (fun _ h => h.1)); have _ := Q_ (Kd.R_mono (Kd.R_keep (IsS87.apart (show IsS87 w0 _ g Q aG aH from qs87_5_ E.1 z.1 A.1 D.1 B.1 ak.1) (by (with_reducible repeat (first | apply Kd.R_alloc | apply Kd.R_drewN | apply Kd.R_drew)); exact (Kd.R_mono (Kd.R_far (p := ⟨W, 3, none⟩) (Kd.R_far (p := ⟨W, 2, none⟩) (Kd.R_far (p := ⟨W, 1, none⟩) (Kd.R_far (p := ⟨W, 0, none⟩) (Kd.R_mono d.1 (fun k_ hk => (⟨hk, hk.2⟩ : _ ∧ k_ ≠ W))) (fun _ hk => hk.2) (.int .i64 ((rd_T78 a y).f0))) (fun _ hk => hk.2) (.bool ((rd_T78 a y).f1))) (fun _ hk => hk.2) (.int .i64 ((rd_T78 a y).f2))) (fun _ hk => hk.2) (.int .i64 ((rd_T78 a y).f3))) (fun _ h_ => h_.1))) (by decide)) hk (fun _ h => h.2)) (fun _ h => h.1)); have _ := Q_ (KeepBut.blk hk (g' := F) (o := .cells #[.int .i64 0, .slice none 0 0, .slice none 0 0] 34 (0, 0)) (pp_ t.1) a5.1 (by simp)); have _ := Q_ (KeepBut.blk hk (g' := G) (o := .cells #[.int .i64 0, .slice none 0 0, .slice none 0 0] 34 (0, 0)) (pp_ u.1) a6.1 (by simp)); have _ := Q_ (KeepBut.blk hk (g' := am) (o := .cells #[.int .i64 af, .slice aq X.length an, J] 34 (0, 0)) (pp_ x.1) a7.1 (by simp)); have _ := Q_ (KeepBut.blk hk (g' := V) (o := .cells #[.int .i64 ac, .slice au Y.length ar, .slice (some bm) a.length ai] 34 (0, 0)) (pp_ s.1) ay.1 (by simp)); have _ := Q_ (KeepBut.blk hk (g' := W) (o := .cells #[.int .i64 ((rd_T78 a y).f0), .bool ((rd_T78 a y).f1), .int .i64 ((rd_T78 a y).f2), .int .i64 ((rd_T78 a y).f3)] 78 (0, 0)) (pp_ ap.1) be.1 (by simp)); have _ := Q_ (KeepBut.trans (qk5_ HK.1 O.1 T.1 U.1 ab.1 bh.1) hk (.inl rfl)); have _ := Q_ (hb); have _ := Q_ (hi); clear r l q d t u x s ap HK HB E; rename_i r l q d t u x s ap HK HB E; (try clear hb hk hi); have fR := a8.1; have gp := aU.1; have fS := a9.1; have gq := aW.1; have fT := ba.1; have gr := aX.1; have fU := bb.1; have gs := aY.1; have fV := be.1; have gt := ak.1; have ea := bc4_ ap.1))
 (try simp only [Act.put, s1_, s2_, s3_])
 have H := HS_.1
 clear HS_
 obtain ⟨cQ, da, H⟩ := bs_ H
 (try dsimp only at H)
 have HS_ := Q_ H
 clear H
 have ek := L.1
 have eC := ag.1
 have el := M.1
 have eD := ah.1
 have em := aE.1
 have eE := ax.1
 have en := aY.1
 have eF := bb.1
 have eo := ay.1
 have eG := B.1
 have eb := bc3_ s.1
 have ep := a8.1
 have eH := aU.1
 have eq := a9.1
 have eI := aW.1
 have er := ba.1
 have eJ := aX.1
 have es := be.1
 have eK := ak.1
 have ec := bc4_ ap.1
 go_upto_if 65 with (first | ((with_reducible refine gate_callee (f := 68) rfl ?_); refine gl_ (some 64) Try.func68 #[.agg #[.int .i64 ac, .slice au Y.length ar, .slice (some bm) a.length ai], .int .i64 ((rd_T78 a y).f0), .bool ((rd_T78 a y).f1), .int .i64 aK] ?_; (with_reducible refine (spec_MoveOf.calls kj24 ac _ _ Y _ _ a ((rd_T78 a y).f0) ((rd_T78 a y).f1) aK cQ _ ?side1 ?side2 ?side3 ?side4 da.1).mono ?_); (case side1 => refine (Kd.R_reads' (e := 4) (base := w.heap.size) (ok := fun k_ => some k_ ≠ (.slice aq X.length an : Value).ownBlock) (n := Y.length) (c := ar) ?_).2.2; exact (pr_ (Kd.R_mono (Kd.R_far (p := ⟨W, 2, none⟩) (Kd.R_types q.1 ap.1 (by decide)) (fun _ hk => hk.2) (.int .i64 aK)) (fun _ h_ => h_.1)))); (case side2 => exact (Kd.R_reads' q.1).2.1); (case side3 => refine (Kd.R_reads' (e := 78) (base := w.heap.size) (ok := fun k_ => (some k_ ≠ (J : Value).ownBlock ∧ k_ ≠ W)) (n := a.length) (c := ai) ?_).2.2; exact (by (with_reducible repeat (first | apply Kd.R_alloc | apply Kd.R_drewN | apply Kd.R_drew)); exact (Kd.R_mono (Kd.R_far (p := ⟨W, 2, none⟩) (Kd.R_mono d.1 (fun k_ hk => (⟨hk, hk.2⟩ : _ ∧ k_ ≠ W))) (fun _ hk => hk.2) (.int .i64 aK)) (fun _ h_ => h_.1)))); (case side4 => exact (Kd.R_reads' d.1).2.1); rintro e gP ⟨rfl, hb⟩; refine ⟨_, rfl, ?_⟩; have _ := Q_ (Kd.R_below (pr_ (Kd.R_mono (Kd.R_far (p := ⟨W, 2, none⟩) (Kd.R_types r.1 ap.1 (by decide)) (fun _ hk => hk.2) (.int .i64 aK)) (fun _ h_ => h_.1))) hb); have _ := Q_ (Kd.R_below (by (with_reducible repeat (first | apply Kd.R_alloc | apply Kd.R_drewN | apply Kd.R_drew)); exact (Kd.R_mono (Kd.R_far (p := ⟨W, 2, none⟩) (Kd.R_mono l.1 (fun k_ hk => (⟨hk, hk.2⟩ : _ ∧ k_ ≠ W))) (fun _ hk => hk.2) (.int .i64 aK)) (fun _ h_ => h_.1))) hb); have _ := Q_ (Kd.R_below (pr_ (Kd.R_mono (Kd.R_far (p := ⟨W, 2, none⟩) (Kd.R_types q.1 ap.1 (by decide)) (fun _ hk => hk.2) (.int .i64 aK)) (fun _ h_ => h_.1))) hb); have _ := Q_ (Kd.R_below (by (with_reducible repeat (first | apply Kd.R_alloc | apply Kd.R_drewN | apply Kd.R_drew)); exact (Kd.R_mono (Kd.R_far (p := ⟨W, 2, none⟩) (Kd.R_mono d.1 (fun k_ hk => (⟨hk, hk.2⟩ : _ ∧ k_ ≠ W))) (fun _ hk => hk.2) (.int .i64 aK)) (fun _ h_ => h_.1))) hb); have _ := Q_ (blk_below (g := F) (o := .cells #[.int .i64 0, .slice none 0 0, .slice none 0 0] 34 (0, 0)) (pp_ t.1) hb); have _ := Q_ (blk_below (g := G) (o := .cells #[.int .i64 0, .slice none 0 0, .slice none 0 0] 34 (0, 0)) (pp_ u.1) hb); have _ := Q_ (blk_below (g := am) (o := .cells #[.int .i64 af, .slice aq X.length an, J] 34 (0, 0)) (pp_ x.1) hb); have _ := Q_ (blk_below (g := V) (o := .cells #[.int .i64 ac, .slice au Y.length ar, .slice (some bm) a.length ai] 34 (0, 0)) (pp_ s.1) hb); have _ := Q_ (IsS87.below (show IsS87 w0 (gv.setCell ⟨W, 2, none⟩ (.int .i64 aK)) g Q bR bS from qs87_5_ E.1 z.1 A.1 D.1 B.1 ak.1) hb); have _ := Q_ (blk_below (g := W) (o := .cells #[.int .i64 ((rd_T78 a y).f0), .bool ((rd_T78 a y).f1), .int .i64 aK, .int .i64 ((rd_T78 a y).f3)] 78 (0, 0)) (pp_ ap.1) hb); have _ := Q_ (KeepBut.trans (qk5_ HK.1 O.1 T.1 U.1 ab.1 bh.1) (KeepBut.of_below hb g none) (.inl rfl)); have _ := Q_ (below_step (qb6_ HB.1 (IsS87.ge E.1) ad.1 ae.1 aj.1 al.1 br.1) hb); clear r l q d t u x s E ap HK HB; rename_i r l q d t u x s E ap HK HB; (try clear hb)))
 (try simp only [Act.put, s1_, s2_, s3_])
 have H := HS_.1
 clear HS_
 by_cases bE : cQ < 0
 rotate_left
 ·rw [if_neg bE] at H
  have bi := decide_eq_false bE
  clear bE
  (first | rw [bi] | (simp only [i64_w, i32_w]; rw [bi]) | skip)
  have H' := Q_ H
  clear H
  go_wp2
  go_roundg kj24
  case measure => have := bo.1; have := bg.1; omega
  case rel => exact ⟨(wrap64 (aI - 1)), (bR), (bS), (I), (a), (J), (.slice (some bm) a.length ai), el_, H', ⟨by have := bo.1; have := bg.1; omega⟩, ⟨pr_ r.1⟩, ⟨pr_ (Kd.R_mono l.1 (fun _ hk => hk.1))⟩, ⟨pr_ q.1⟩, ⟨pr_ (Kd.R_mono d.1 (fun _ hk => hk.1))⟩, ⟨pk_ t.1⟩, ⟨pk_ u.1⟩, ⟨pk_ x.1⟩, ⟨pk_ s.1⟩, ⟨qs87_5_ E.1 z.1 A.1 D.1 B.1 ak.1⟩, ⟨qk5_ HK.1 O.1 T.1 U.1 ab.1 bh.1⟩, ⟨qb6_ HB.1 (IsS87.ge E.1) ad.1 ae.1 aj.1 al.1 br.1⟩⟩
 rw [if_pos bE] at H
 have bi := decide_eq_true bE
 clear bE
 (first | rw [bi] | (simp only [i64_w, i32_w]; rw [bi]) | skip)
 by_cases bY : a.length < 4398046511104
 rotate_left
 ·rw [if_neg bY] at H
  exact nn_ H
 rw [if_pos bY] at H
 have cs := Q_ bY
 clear bY
 obtain ⟨bB, hy602⟩ : ∃ y_ : List (S78), y_ = (a ++ [(⟨(rd_T78 a y).f0, (rd_T78 a y).f1, aK, (rd_T78 a y).f3⟩ : S78)]) := ⟨_, rfl⟩
 replace H : (spec_l14Pair.l0 kj24 (wrap64 (aI - 1)) Q bR bS af X I ac Y bB) = some (r1, r2, r3, r4, r5, r6, r7, r8) := hb_ hy602 H
 have cX := Q_ hy602
 clear hy602
 have H' := Q_ H
 clear H
 have et := L.1
 have eL := ag.1
 have eu := M.1
 have eM := ah.1
 have ev := aE.1
 have eN := ax.1
 have ew := aY.1
 have eO := bb.1
 have ex := ay.1
 have eP := B.1
 have ed := bc3_ s.1
 have ey := a8.1
 have eQ := aU.1
 have ez := a9.1
 have eR := aW.1
 have eA := ba.1
 have eS := aX.1
 have eB := be.1
 have eT := ak.1
 have ee := bc4_ ap.1
 go_wp2_with (first | ((with_reducible refine gate_builtin (b := .append) (xs := #[.tmp 67, .tmp 69]) rfl ?_); (try (refine gate_guard (by rfl) ?_; dsimp only)); at_builtin; refine Kd.R_append k78 w.heap.size rfl (.tmp 67) (.tmp 69) 32 78 (.agg #[(.int .i64 0), (.bool false), (.int .i64 0), (.int .i64 0)]) 32 rfl Try.underlying32 info78 rfl (by decide) (by omega) (.slice (some bm) a.length ai) a (⟨(rd_T78 a y).f0, (rd_T78 a y).f1, aK, (rd_T78 a y).f3⟩ : S78) [.int .i64 ((rd_T78 a y).f0), .bool ((rd_T78 a y).f1), .int .i64 aK, .int .i64 ((rd_T78 a y).f3)] (fun k_ => some k_ ≠ (J : Value).ownBlock ∧ k_ ≠ W) (fun _ => False) rfl rfl ?aP (fun _ hk => hk.elim) ?aF ?aO (Below.refl _ _) ?aS ?aL ?_; (case aP => exact k78_mkM _ _ _ (⟨(rd_T78 a y).f0, (rd_T78 a y).f1, aK, (rd_T78 a y).f3⟩ : S78)); (case aF => exact (fun k_ hk => ⟨Kd.fresh' (Kd.R_lt (pr_ l.1)) k_ hk, Kd.freshB (g := W) (o := .cells #[.int .i64 ((rd_T78 a y).f0), .bool ((rd_T78 a y).f1), .int .i64 aK, .int .i64 ((rd_T78 a y).f3)] 78 (0, 0)) (pk_ ap.1) k_ hk⟩)); (case aO => exact (pr_ d.1)); (case aS => exact (keep_size (w := w) (g := g) (row := none) (qk5_ HK.1 O.1 T.1 U.1 ab.1 bh.1))); (case aL => have := cs.1; omega); intro gO gQ ho hb hg hat; rw [← cX.1] at ho; have _ := Q_ (Kd.R_over' (pr_ r.1) (Kd.R_typed (pr_ d.1)) (by decide) hg); have _ := Q_ (Kd.R_after (ok := (fun k_ => k_ ≠ W)) (by (with_reducible repeat (first | apply Kd.R_alloc | apply Kd.R_drewN | apply Kd.R_drew)); exact Kd.R_mono l.1 (fun _ hk => ⟨hk.2, hk.1⟩)) hg hat); have _ := Q_ (Kd.R_over' (pr_ q.1) (Kd.R_typed (pr_ d.1)) (by decide) hg); have _ := Q_ (blk_grown (g := F) (o := .cells #[.int .i64 0, .slice none 0 0, .slice none 0 0] 34 (0, 0)) (pk_ t.1) hg (Kd.R_ne d.1 t.1 (by decide))); have _ := Q_ (blk_grown (g := G) (o := .cells #[.int .i64 0, .slice none 0 0, .slice none 0 0] 34 (0, 0)) (pk_ u.1) hg (Kd.R_ne d.1 u.1 (by decide))); have _ := Q_ (blk_grown (g := am) (o := .cells #[.int .i64 af, .slice aq X.length an, J] 34 (0, 0)) (pk_ x.1) hg (Kd.R_ne d.1 x.1 (by decide))); have _ := Q_ (blk_grown (g := V) (o := .cells #[.int .i64 ac, .slice au Y.length ar, .slice (some bm) a.length ai] 34 (0, 0)) (pk_ s.1) hg (Kd.R_ne d.1 s.1 (by decide))); have _ := Q_ (IsS87.grown (qs87_5_ E.1 z.1 A.1 D.1 B.1 ak.1) hg (IsS87.own_ne E.1 d.1 (by decide))); have _ := Q_ (blk_grown (g := W) (o := .cells #[.int .i64 ((rd_T78 a y).f0), .bool ((rd_T78 a y).f1), .int .i64 aK, .int .i64 ((rd_T78 a y).f3)] 78 (0, 0)) (pk_ ap.1) hg (Kd.R_away d.1 (fun _ hk => hk.2))); have _ := Q_ (below_weaken (qb6_ HB.1 (IsS87.ge E.1) ad.1 ae.1 aj.1 al.1 br.1) HL.1 hb); have _ := Q_ (KeepBut.trans (qk5_ HK.1 O.1 T.1 U.1 ab.1 bh.1) (KeepBut.of_grown hg g) (Kd.R_base2 d.1)); have ce := Q_ (ho); clear r l q t u x s E ap HB HK d; rename_i r l q t u x s E ap HB HK; clear ho hb hg hat; obtain ⟨bq, bv, c4⟩ := Kd.R_slice ce.1; subst c4; have ef := bc3_ s.1))
 go_roundg kj24
 case measure => have := bo.1; have := bg.1; omega
 case rel => exact ⟨(wrap64 (aI - 1)), (bR), (bS), (I), (bB), (J), (.slice bq bB.length bv), el_, H', ⟨by have := bo.1; have := bg.1; omega⟩, ⟨pr_ (Kd.R_mono (Kd.R_far (p := ⟨V, 2, none⟩) (Kd.R_types r.1 s.1 (by decide)) (fun _ hk => hk.2) (.slice bq bB.length bv)) (fun _ hk => hk.1))⟩, ⟨pr_ (Kd.R_mono (Kd.R_far (p := ⟨V, 2, none⟩) (Kd.R_types l.1 s.1 (by decide)) (fun _ hk => hk.2) (.slice bq bB.length bv)) (fun _ hk => hk.1.2))⟩, ⟨pr_ (Kd.R_mono (Kd.R_far (p := ⟨V, 2, none⟩) (Kd.R_types q.1 s.1 (by decide)) (fun _ hk => hk.2) (.slice bq bB.length bv)) (fun _ hk => hk.1))⟩, ⟨pr_ (Kd.R_mono (Kd.R_far (p := ⟨V, 2, none⟩) (Kd.R_types ce.1 s.1 (by decide)) (fun _ hk => hk.2) (.slice bq bB.length bv)) (fun _ hk => hk.1.1))⟩, ⟨pp_ t.1⟩, ⟨pp_ u.1⟩, ⟨pp_ x.1⟩, ⟨pp_ s.1⟩, ⟨qs87_5_ E.1 z.1 A.1 D.1 B.1 ak.1⟩, ⟨qk5_ HK.1 O.1 T.1 U.1 ab.1 bh.1⟩, ⟨qb6_ HB.1 (IsS87.ge E.1) ad.1 ae.1 aj.1 al.1 br.1⟩⟩

end Go.Proofs.Ytldcchjbaglppaa.Print
