-- Written by a program of this session (printx.py) out of the translation; Lean checks it.
import Derived.Test.YtldcchjbaglppaaPrint0
import Derived.Test.YtldcchjbaglppaaPrint10
import Derived.Test.YtldcchjbaglppaaPrint12
import Derived.Test.YtldcchjbaglppaaPrint13
namespace Go.Proofs.Ytldcchjbaglppaa.Print
open Go.RowKit Go.Proofs.YtldcchjbaglppaaW.PrintWords Go.Proofs.YtldcchjbaglppaaW.PrintLast Go.Proofs.YtldcchjbaglppaaW.PrintMore Go.Proofs.Ytldcchjbaglppaa.Short
attribute [local go_sem] max2_int min2_int max_two min_two max_three min_three max_four min_four   -- for this text's walks alone
set_option linter.unusedVariables false
set_option maxHeartbeats 8000000
set_option maxRecDepth 100000
set_option linter.unusedSimpArgs false

/-! ### spec_l15Next: function 67 -/
mutual
def spec_l15Next.l0 : Nat → Int → List Int → Int → Int → Int → List Bool → List (S78) → Option (Int × List Bool × (List (S78)) × Int × Int)
 | 0, _, _, _, _, _, _, _ => none
 | k + 1, g, d, e, f, b, c, a => if g > 0 then (spec_l15Next.j1 k g (decide ((a.length : Int) > 0)) d e f b c a) else (spec_l15Next.j1 k g false d e f b c a)
def spec_l15Next.j1 : Nat → Int → Bool → List Int → Int → Int → Int → List Bool → List (S78) → Option (Int × List Bool × (List (S78)) × Int × Int)
 | 0, _, _, _, _, _, _, _, _ => none
 | k + 1, m, l, g, h, i, c, d, a => if l = true then ((spec_l1Below.f g h i (a.length : Int)).bind fun b => (if 0 ≤ b.1 then (if b.1 < (a.length : Int) then (if (rd_T78 a b.1).f1 = true then ((spec_MovesFrom.f k c d a ((rd_T78 a b.1).f0) true).bind fun j => (spec_l15Next.j2 k m b.1 (decide ((j.length : Int) > 1)) g b.2.1 b.2.2 c d a ((rd_T78 a b.1).f0) ((rd_T78 a b.1).f1) ((rd_T78 a b.1).f2) ((rd_T78 a b.1).f3))) else (spec_l15Next.j2 k m b.1 false g b.2.1 b.2.2 c d a ((rd_T78 a b.1).f0) ((rd_T78 a b.1).f1) ((rd_T78 a b.1).f2) ((rd_T78 a b.1).f3))) else (none)) else (none))) else ((spec_l1Once.f g h i 6).bind fun e => (if e.1 = true then (if 0 ≤ (wrap64 ((a.length : Int) / 2)) then (if (wrap64 ((a.length : Int) / 2)) ≤ (a.length : Int) then (some (c, d, (a.take ((wrap64 ((a.length : Int) / 2)) : Int).toNat), e.2.1, e.2.2)) else (none)) else (none)) else (some (c, d, a, e.2.1, e.2.2))))
def spec_l15Next.j2 : Nat → Int → Int → Bool → List Int → Int → Int → Int → List Bool → List (S78) → Int → Bool → Int → Int → Option (Int × List Bool × (List (S78)) × Int × Int)
 | 0, _, _, _, _, _, _, _, _, _, _, _, _, _ => none
 | k + 1, u, q, v, e, j, l, b, c, a, h, i, s, t => if v = true then ((some (([] : List (S78)) : List (S78))).bind fun m => (if 0 ≤ q then (if q ≤ (a.length : Int) then ((some (a.take (q : Int).toNat : List (S78))).bind fun n => (if m.length + n.length < 4398046511104 then ((some (m ++ n : List (S78))).bind fun o => (if 0 ≤ (wrap64 (q + 1)) then (if (wrap64 (q + 1)) ≤ (a.length : Int) then ((some (a.drop ((wrap64 (q + 1)) : Int).toNat : List (S78))).bind fun p => (if o.length + p.length < 4398046511104 then (spec_l15Next.l0 k (wrap64 (u - 1)) e j l b c (o ++ p)) else (none))) else (none)) else (none))) else (none))) else (none)) else (none))) else (if i = true then (spec_l15Next.l0 k (wrap64 (u - 1)) e j l b c a) else ((spec_l1Below.f e j l 5).bind fun g => ((spec_l1Below.f e g.2.1 g.2.2 b).bind fun d => ((spec_MoveOf.f k b c a h false g.1).bind fun r => (if r < 0 then (if (a.length : Int) < 12 then (if a.length < 4398046511104 then (spec_l15Next.l0 k (wrap64 (u - 1)) e d.2.1 d.2.2 b c (a ++ [(⟨h, i, g.1, d.1⟩ : S78)])) else (none)) else (spec_l15Next.l0 k (wrap64 (u - 1)) e d.2.1 d.2.2 b c a)) else (spec_l15Next.l0 k (wrap64 (u - 1)) e d.2.1 d.2.2 b c a))))))
end
def spec_l15Next.f (k : Nat) (d : List Int) (i : Int) (j : Int) (e : Int) (g : List Bool) (h : List (S78)) : Option (Int × List Bool × (List (S78)) × Int × Int) := (spec_DualOf.f k e g h).bind fun a => ((spec_DualOf.f k a.1 a.2.1 a.2.2).bind fun b => ((spec_l1Below.f d i j 3).bind fun c => (spec_l15Next.l0 k c.1 d c.2.1 c.2.2 b.1 b.2.1 b.2.2)))
theorem spec_l15Next.mono_l : ∀ k, (∀ a b c d e f g, LeO (spec_l15Next.l0 k a b c d e f g) (spec_l15Next.l0 (k + 1) a b c d e f g)) ∧ (∀ a b c d e f g m, LeO (spec_l15Next.j1 k a b c d e f g m) (spec_l15Next.j1 (k + 1) a b c d e f g m)) ∧ (∀ a b c d e f g m n o i j l, LeO (spec_l15Next.j2 k a b c d e f g m n o i j l) (spec_l15Next.j2 (k + 1) a b c d e f g m n o i j l))
 | 0 => ⟨fun _ _ _ _ _ _ _ r h => by simp [spec_l15Next.l0] at h, fun _ _ _ _ _ _ _ _ r h => by simp [spec_l15Next.j1] at h, fun _ _ _ _ _ _ _ _ _ _ _ _ _ r h => by simp [spec_l15Next.j2] at h⟩
 | k + 1 => by
  obtain ⟨ih0, ih1, ih2⟩ := spec_l15Next.mono_l k
  refine ⟨?_, ?_, ?_⟩
  ·intro a b c d e f g
   unfold spec_l15Next.l0
   exact mo6_ ih0 ih1 ih2 spec_DualOf.mono spec_MoveOf.mono spec_MovesFrom.mono
  ·intro a b c d e f g m
   unfold spec_l15Next.j1
   exact mo6_ ih0 ih1 ih2 spec_DualOf.mono spec_MoveOf.mono spec_MovesFrom.mono
  ·intro a b c d e f g m n o i j l
   unfold spec_l15Next.j2
   exact mo6_ ih0 ih1 ih2 spec_DualOf.mono spec_MoveOf.mono spec_MovesFrom.mono
theorem spec_l15Next.mono : ∀ a b c d e g k, LeO (spec_l15Next.f k a b c d e g) (spec_l15Next.f (k + 1) a b c d e g) := by
 intro a b c d e g k
 obtain ⟨ih0, ih1, ih2⟩ := spec_l15Next.mono_l k
 unfold spec_l15Next.f
 exact mo6_ ih0 ih1 ih2 spec_DualOf.mono spec_MoveOf.mono spec_MovesFrom.mono
def spec_l15Next.T8 : Bool × List (List Nat × List Nat) := (true, [([], []), ([], []), ([1], [1]), ([], []), ([2, 3], [2, 3]), ([0, 4], [0, 4]), ([], []), ([6], [6]), ([], []), ([8], [8]), ([7, 9], [7, 9]), ([5, 10, 5], [5, 10]), ([0, 1, 2, 3, 4, 5, 6, 7, 8, 9, 10, 11], []), ([12, 11, 11, 0, 1, 2, 3, 4, 5, 6, 7, 8, 9, 10, 11], [11, 12])])
def spec_l15Next.B8 : List Nat := [0, 0, 2, 0, 14, 31, 0, 64, 0, 256, 960, 2047, 4095, 8191]
theorem spec_l15Next.tab8 : rtab .any (opsOf Try.f67 8) = spec_l15Next.T8 := by kernel_rfl
theorem spec_l15Next.bits8 : waitsOk spec_l15Next.T8.2 spec_l15Next.B8 = true := by kernel_rfl
theorem spec_l15Next.calls (k : Nat) (g : Nat) (F : List Int) (a1 : Int) (a2 : Int) (av : Int) (ax : Option Addr) (aA : Nat) (al : List Bool) (az : Option Addr) (aB : Nat) (an : List (S78)) (r1 : Int) (r2 : List Bool) (r3 : List (S78)) (r4 : Int) (r5 : Int) (w0 w : World) (hI : IsS87 w0 w g F a1 a2) (hB : Below w0.heap.size w0 w) (hr1_1 : Kd.C Kd.bool w ax al.length al) (b4 : al.length ≤ aA) (cO : ∀ ad, ax = some ad → 0 < al.length → ad.block ≠ g) (hr1_2 : ∀ W_, KeepBut w W_ g none → Kd.C k78 W_ az an.length an) (b5 : an.length ≤ aB) (h : spec_l15Next.f k F a1 a2 av al an = some (r1, r2, r3, r4, r5)) :
  Calls Try.prog 67 #[.pointer (some ⟨g, 0, none⟩), .agg #[.int .i64 av, .slice ax al.length aA, .slice az an.length aB]] w fun e w' => ∃ v1_ v2_ : Value, e = .returned (.agg #[.int .i64 r1, v1_, v2_]) ∧ Kd.R Kd.bool 4 w' w.heap.size (fun _ => True) v1_ r2 ∧ Kd.R k78 78 w' w.heap.size (fun _ => True) v2_ r3 ∧ IsS87 w0 w' g F r4 r5 ∧ Below w0.heap.size w0 w' ∧ KeepBut w w' g none := by
 have hu34 := Try.underlying34
 have hu78 := Try.underlying78
 have cG := Q_ hr1_1
 have cC := Q_ b4
 clear hr1_1 b4
 have cH := Q_ hr1_2
 have cD := Q_ b5
 clear hr1_2 b5
 have y := Q_ hI
 have HK := Q_ (KeepBut.refl w g none)
 have HL := Q_ hB.size
 clear hI
 have HW0 := Q_ hB.size
 have HB := Q_ hB
 clear hB
 have H : ((spec_DualOf.f k av al an).bind fun bA => ((spec_DualOf.f k bA.1 bA.2.1 bA.2.2).bind fun bB => ((spec_l1Below.f F a1 a2 3).bind fun bC => (spec_l15Next.l0 k bC.1 F bC.2.1 bC.2.2 bB.1 bB.2.1 bB.2.2)))) = some (r1, r2, r3, r4, r5) := h
 clear h
 obtain ⟨⟨cb, cc, cd⟩, A3, H⟩ := bs_ H
 (try dsimp only at H)
 obtain ⟨⟨I, E, bJ⟩, A4, H⟩ := bs_ H
 (try dsimp only at H)
 obtain ⟨⟨cw, cx, cy⟩, A5, H⟩ := bs_ H
 (try dsimp only at H)
 have H' := Q_ H
 clear H
 go_enter Try.func67, Try.ntmps67
 go_wp2_with (first | ((with_reducible refine gate_dst (N := 3) rfl ?_); (try (refine gate_guard (by rfl) ?_; dsimp only)); refine bx_ 3 #[.int .i64 av, .slice ax al.length aA, .slice az an.length aB] 34 ?_; intro ar hg w6 hbox hb; have _ := Q_ (IsS87.below (qs87_0_ y.1) hb); have _ := Q_ (KeepBut.trans (qk0_ HK.1) (KeepBut.of_below hb g none) (.inl rfl)); have _ := Q_ (below_step (qb1_ HB.1 (IsS87.ge y.1)) hb); have s := Q_ (hbox); have B := Q_ ((by rw [hg]; exact (keep_size (w := w) (g := g) (row := none) (qk0_ HK.1)) : w.heap.size ≤ ar)); have J := Q_ (Nat.le_trans HW0.1 B.1); have u := Q_ ((by rw [hg]; exact Nat.ne_of_lt (IsS87.lt (show IsS87 w0 _ g F a1 a2 from qs87_0_ y.1)) : g ≠ ar)); have aQ := Q_ u.1.symm; clear y HK HB; rename_i y HK HB; clear hb hbox hg) | ((with_reducible refine gate_dst (N := 4) rfl ?_); (try (refine gate_guard (by rfl) ?_; dsimp only)); refine bx_ 4 #[.int .i64 0, .slice none 0 0, .slice none 0 0] 34 ?_; intro W hg w7 hbox hb; have _ := Q_ (IsS87.below (qs87_1_ y.1 u.1) hb); have _ := Q_ (bb_ s.1 hb); have _ := Q_ (KeepBut.trans (qk1_ HK.1 B.1) (KeepBut.of_below hb g none) (.inl rfl)); have _ := Q_ (below_step (qb2_ HB.1 (IsS87.ge y.1) J.1) hb); have r := Q_ (hbox); have D := Q_ ((by rw [hg]; exact (keep_size (w := w) (g := g) (row := none) (qk1_ HK.1 B.1)) : w.heap.size ≤ W)); have L := Q_ (Nat.le_trans HW0.1 D.1); have aX := Q_ (nb_ hg s); have a4 := Q_ aX.1.symm; have v := Q_ ((by rw [hg]; exact Nat.ne_of_lt (IsS87.lt (show IsS87 w0 _ g F a1 a2 from qs87_1_ y.1 u.1)) : g ≠ W)); have aK := Q_ v.1.symm; clear y s HK HB; rename_i y s HK HB; clear hb hbox hg; have gF := aX.1; have gH := a4.1; have gG := aQ.1; have gI := u.1; have e8 := bc3_ s.1) | ((with_reducible refine gate_callee (f := 53) rfl ?_); refine gl_ (some 10) Try.func53 #[.agg #[.int .i64 av, .slice ax al.length aA, .slice az an.length aB]] ?_; (with_reducible refine (spec_DualOf.calls k av _ _ al _ _ an cb cc cd _ ?side1 cC.1 ?side3 cD.1 A3.1).mono ?_); (case side1 => exact Kd.C_keep false cG.1 (qk2_ HK.1 B.1 D.1) cO); (case side3 => exact Kd.C_foot_now cH.1 (qk2_ HK.1 B.1 D.1)); rintro e g1 ⟨gJ, gK, rfl, bp, bO, hb⟩; refine ⟨_, rfl, ?_⟩; have _ := Q_ (Kd.R_lower bp (keep_size (w := w) (g := g) (row := none) (qk2_ HK.1 B.1 D.1))); have _ := Q_ (Kd.R_lower bO (keep_size (w := w) (g := g) (row := none) (qk2_ HK.1 B.1 D.1))); have _ := Q_ (IsS87.below (qs87_2_ y.1 u.1 v.1) hb); have _ := Q_ (bb_ s.1 hb); have _ := Q_ (bb_ r.1 hb); have _ := Q_ (KeepBut.trans (qk2_ HK.1 B.1 D.1) (KeepBut.of_below hb g none) (.inl rfl)); have _ := Q_ (below_step (qb3_ HB.1 (IsS87.ge y.1) J.1 L.1) hb); clear y s r HK HB; rename_i aE aG y s r HK HB; (try clear hb bp bO); obtain ⟨c0, c6, da⟩ := Kd.R_slice aE.1; subst da; obtain ⟨c2, c7, db⟩ := Kd.R_slice aG.1; subst db) | ((with_reducible refine gate_callee (f := 53) rfl ?_); refine gl_ (some 11) Try.func53 #[.agg #[.int .i64 cb, .slice c0 cc.length c6, .slice c2 cd.length c7]] ?_; (with_reducible refine (spec_DualOf.calls k cb _ _ cc _ _ cd I E bJ _ ?side1 ?side2 ?side3 ?side4 A4.1).mono ?_); (case side1 => exact pc_ ((Kd.R_reads' aE.1).2.2)); (case side2 => exact (Kd.R_reads' aE.1).2.1); (case side3 => exact pc_ ((Kd.R_reads' aG.1).2.2)); (case side4 => exact (Kd.R_reads' aG.1).2.1); rintro e g2 ⟨gL, gM, rfl, bp, bO, hb⟩; refine ⟨_, rfl, ?_⟩; have _ := Q_ (Kd.R_elder' (pr_ aE.1) (Kd.R_base bp) hb); have _ := Q_ (Kd.R_elder' (pr_ aG.1) (Kd.R_base bO) hb); have _ := Q_ (Kd.R_lower (Kd.R_new' bp (Kd.R_lt (pr_ aE.1))) (keep_size (w := w) (g := g) (row := none) (qk2_ HK.1 B.1 D.1))); have _ := Q_ (Kd.R_lower (Kd.R_new' bO (Kd.R_lt (pr_ aG.1))) (keep_size (w := w) (g := g) (row := none) (qk2_ HK.1 B.1 D.1))); have _ := Q_ (IsS87.below (qs87_2_ y.1 u.1 v.1) hb); have _ := Q_ (bb_ s.1 hb); have _ := Q_ (bb_ r.1 hb); have _ := Q_ (KeepBut.trans (qk2_ HK.1 B.1 D.1) (KeepBut.of_below hb g none) (.inl rfl)); have _ := Q_ (below_step (qb3_ HB.1 (IsS87.ge y.1) J.1 L.1) hb); clear aE aG y s r HK HB; rename_i aE aG aZ a0 y s r HK HB; (try clear hb bp bO)) | ((with_reducible refine gate_dst (N := 5) rfl ?_); (try (refine gate_guard (by rfl) ?_; dsimp only)); refine bx_ 5 #[.int .i64 0, .slice none 0 0, .slice none 0 0] 34 ?_; intro O hg g3 hbox hb; have _ := Q_ (Kd.R_below (pr_ aE.1) hb); have _ := Q_ (Kd.R_below (pr_ aG.1) hb); have _ := Q_ (Kd.R_below (pr_ aZ.1) hb); have _ := Q_ (Kd.R_below (pr_ a0.1) hb); have _ := Q_ (IsS87.below (qs87_2_ y.1 u.1 v.1) hb); have _ := Q_ (bb_ s.1 hb); have _ := Q_ (bb_ r.1 hb); have _ := Q_ (KeepBut.trans (qk2_ HK.1 B.1 D.1) (KeepBut.of_below hb g none) (.inl rfl)); have _ := Q_ (below_step (qb3_ HB.1 (IsS87.ge y.1) J.1 L.1) hb); have l := Q_ (hbox); have G := Q_ ((by rw [hg]; exact (keep_size (w := w) (g := g) (row := none) (qk2_ HK.1 B.1 D.1)) : w.heap.size ≤ O)); have T := Q_ (Nat.le_trans HW0.1 G.1); have U := Q_ (nb_ hg s); have Y := Q_ U.1.symm; have V := Q_ (nb_ hg r); have Z := Q_ V.1.symm; have t := Q_ ((by rw [hg]; exact Nat.ne_of_lt (IsS87.lt (show IsS87 w0 _ g F a1 a2 from qs87_2_ y.1 u.1 v.1)) : g ≠ O)); have X := Q_ t.1.symm; clear aE aG aZ a0 y s r HK HB; rename_i aE aG aZ a0 y s r HK HB; clear hb hbox hg; have fl := Y.1; have fT := U.1; have fm := Z.1; have fU := V.1; have fn := X.1; have fV := t.1; have e9 := bc3_ l.1; obtain ⟨ak, ag, dc⟩ := Kd.R_slice aZ.1; subst dc; obtain ⟨ct, cv, dd⟩ := Kd.R_slice a0.1; subst dd) | ((with_reducible refine gate_callee (f := 54) rfl ?_); refine gl_ (some 13) Try.func54 #[.pointer (some ⟨g, 0, none⟩), .int .i64 3] ?_; (with_reducible refine (spec_l1Below.calls g F a1 a2 3 cw cx cy w0 _ ?side1 ?side2 A5.1).mono ?_); (case side1 => exact qs87_3_ y.1 u.1 v.1 t.1); (case side2 => exact qb4_ HB.1 (IsS87.ge y.1) J.1 L.1 T.1); rintro e g4 ⟨rfl, hi, hb, hk⟩; refine ⟨_, rfl, ?_⟩; have _ := Q_ (KeepBut.blk hk (g' := ar) (o := .cells #[.int .i64 av, .slice ax al.length aA, .slice az an.length aB] 34 (0, 0)) (pp_ s.1) aQ.1 (by simp)); have _ := Q_ (KeepBut.blk hk (g' := W) (o := .cells #[.int .i64 0, .slice none 0 0, .slice none 0 0] 34 (0, 0)) (pp_ r.1) aK.1 (by simp)); have _ := Q_ (Kd.R_mono (Kd.R_keep (IsS87.apart (show IsS87 w0 _ g F a1 a2 from qs87_3_ y.1 u.1 v.1 t.1) (pr_ (rf3_ aE.1 l.1)) (by decide)) hk (fun _ h => h.2)) (fun _ h => h.1)); have _ := Q_ (Kd.R_mono (Kd.R_keep (IsS87.apart (show IsS87 w0 _ g F a1 a2 from qs87_3_ y.1 u.1 v.1 t.1) (pr_ (rf3_ aG.1 l.1)) (by decide)) hk (fun _ h => h.2)) (fun _ h => h.1)); have _ := Q_ (Kd.R_mono (Kd.R_keep (IsS87.apart (show IsS87 w0 _ g F a1 a2 from qs87_3_ y.1 u.1 v.1 t.1) (pr_ (rf3_ aZ.1 l.1)) (by decide)) hk (fun _ h => h.2)) (fun _ h => h.1)); have _ := Q_ (Kd.R_mono (Kd.R_keep (IsS87.apart (show IsS87 w0 _ g F a1 a2 from qs87_3_ y.1 u.1 v.1 t.1) (pr_ (rf3_ a0.1 l.1)) (by decide)) hk (fun _ h => h.2)) (fun _ h => h.1)); have _ := Q_ (KeepBut.blk hk (g' := O) (o := .cells #[.int .i64 I, .slice ak E.length ag, .slice ct bJ.length cv] 34 (0, 0)) (pp_ l.1) X.1 (by simp)); have _ := Q_ (KeepBut.trans (qk3_ HK.1 B.1 D.1 G.1) hk (.inl rfl)); have _ := Q_ (hb); have _ := Q_ (hi); clear s r aE aG aZ a0 l HK HB y; rename_i s r aE aG aZ a0 l HK HB y; (try clear hb hk hi)))
 (try simp only [Act.put, s1_, s2_, s3_])
 go_loopg [6] k (fun kq v6 w' => ∃ (aw : Int) (ao : Int) (ap : Int) (a : List (S78)) (aU : Value), v6 = .int .i64 aw ∧ Aside0 (spec_l15Next.l0 kq aw F ao ap I E a = some (r1, r2, r3, r4, r5)) ∧ Aside0 (kq ≤ k) ∧ Aside0 (Kd.R Kd.bool 4 w' w.heap.size (fun _ => True) (.slice ak E.length ag) E) ∧ Aside0 (Kd.R k78 78 w' w.heap.size (fun _ => True) aU a) ∧ Aside0 (w'.heap[ar]? = some (.cells #[.int .i64 av, (.slice ax al.length aA), (.slice az an.length aB)] 34 (0, 0))) ∧ Aside0 (w'.heap[W]? = some (.cells #[.int .i64 0, (.slice none 0 0), (.slice none 0 0)] 34 (0, 0))) ∧ Aside0 (w'.heap[O]? = some (.cells #[.int .i64 I, (.slice ak E.length ag), aU] 34 (0, 0))) ∧ Aside0 (IsS87 w0 w' g F ao ap) ∧ Aside0 (KeepBut w w' g none) ∧ Aside0 (Below w0.heap.size w0 w'))
 case atStart => exact ⟨(cw), (cx), (cy), (bJ), (.slice ct bJ.length cv), el_, H', ⟨Nat.le_refl _⟩, ⟨pr_ (Kd.R_mono aZ.1 (fun _ hk => trivial))⟩, ⟨pr_ (Kd.R_mono a0.1 (fun _ hk => trivial))⟩, ⟨pk_ s.1⟩, ⟨pk_ r.1⟩, ⟨pk_ l.1⟩, ⟨qs87_3_ y.1 u.1 v.1 t.1⟩, ⟨qk3_ HK.1 B.1 D.1 G.1⟩, ⟨qb4_ HB.1 (IsS87.ge y.1) J.1 L.1 T.1⟩⟩
 clear H'
 obtain ⟨aw, ao, ap, a, aU, rfl, HA, a5, j, d, s, r, l, y, HK, HB⟩ := hrel
 rcases gk with _ | k1
 ·exact absurd HA.1 (by simp [spec_l15Next.l0])
 have H := HA.1
 clear HA
 simp only [spec_l15Next.l0] at H
 have bQ := Q_ H
 clear H
 go_upto_region 3 with (fail)
 go_cut [21] (fun gy wc => ∃ (kq : Nat) (a9 : Bool), gy = .bool a9 ∧ Aside0 (spec_l15Next.j1 kq aw a9 F ao ap I E a = some (r1, r2, r3, r4, r5)) ∧ Aside0 (kq ≤ k1) ∧ Aside0 (Kd.R Kd.bool 4 wc w.heap.size (fun _ => True) (.slice ak E.length ag) E) ∧ Aside0 (Kd.R k78 78 wc w.heap.size (fun _ => True) aU a) ∧ Aside0 (wc.heap[ar]? = some (.cells #[.int .i64 av, (.slice ax al.length aA), (.slice az an.length aB)] 34 (0, 0))) ∧ Aside0 (wc.heap[W]? = some (.cells #[.int .i64 0, (.slice none 0 0), (.slice none 0 0)] 34 (0, 0))) ∧ Aside0 (wc.heap[O]? = some (.cells #[.int .i64 I, (.slice ak E.length ag), aU] 34 (0, 0))) ∧ Aside0 (IsS87 w0 wc g F ao ap) ∧ Aside0 (KeepBut w wc g none) ∧ Aside0 (Below w0.heap.size w0 wc))
 case first =>
  have H := bQ.1
  clear bQ
  by_cases bN : aw > 0
  rotate_left
  ·rw [if_neg bN] at H
   have bc := decide_eq_false bN
   clear bN
   (first | rw [bc] | (simp only [i64_w, i32_w]; rw [bc]) | skip)
   have H' := Q_ H
   clear H
   go_wp2
   go_meet
   case rel => exact ⟨_, (false), el_, H', ⟨by have := a5.1; first | omega | exact Nat.le_refl _⟩, ⟨pr_ j.1⟩, ⟨pr_ d.1⟩, ⟨pk_ s.1⟩, ⟨pk_ r.1⟩, ⟨pk_ l.1⟩, ⟨qs87_3_ y.1 u.1 v.1 t.1⟩, ⟨qk3_ HK.1 B.1 D.1 G.1⟩, ⟨qb4_ HB.1 (IsS87.ge y.1) J.1 L.1 T.1⟩⟩
  rw [if_pos bN] at H
  have bc := decide_eq_true bN
  clear bN
  (first | rw [bc] | (simp only [i64_w, i32_w]; rw [bc]) | skip)
  have H' := Q_ H
  clear H
  have fo := Y.1
  have fW := U.1
  have fp := Z.1
  have fX := V.1
  have fq := X.1
  have fY := t.1
  have fa := bc3_ l.1
  obtain ⟨gB, gD, de⟩ := Kd.R_slice d.1
  subst de
  go_wp2
  go_meet
  case rel => exact ⟨_, (decide ((a.length : Int) > 0)), el_, H', ⟨by have := a5.1; first | omega | exact Nat.le_refl _⟩, ⟨pr_ j.1⟩, ⟨pr_ d.1⟩, ⟨pk_ s.1⟩, ⟨pk_ r.1⟩, ⟨pk_ l.1⟩, ⟨qs87_3_ y.1 u.1 v.1 t.1⟩, ⟨qk3_ HK.1 B.1 D.1 G.1⟩, ⟨qb4_ HB.1 (IsS87.ge y.1) J.1 L.1 T.1⟩⟩
 clear bQ
 obtain ⟨kq, a9, rfl, HA, aY, j, d, s, r, l, y, HK, HB⟩ := hcut
 rcases kq with _ | kj22
 ·exact absurd HA.1 (by simp [spec_l15Next.j1])
 have H := HA.1
 clear HA
 simp only [spec_l15Next.j1] at H
 by_cases ck : a9 = true
 rotate_left
 ·replace ck := bf_ ck
  subst ck
  rw [if_neg ff_] at H
  obtain ⟨⟨cz, ce, cf⟩, eP, H⟩ := bs_ H
  (try dsimp only at H)
  have HS_ := Q_ H
  clear H
  go_upto_if 88 with (first | ((with_reducible refine gate_callee (f := 51) rfl ?_); refine gl_ (some 88) Try.func51 #[.pointer (some ⟨g, 0, none⟩), .int .i64 6] ?_; (with_reducible refine (spec_l1Once.calls g F ao ap 6 cz ce cf w0 _ ?side1 ?side2 eP.1).mono ?_); (case side1 => exact qs87_3_ y.1 u.1 v.1 t.1); (case side2 => exact qb4_ HB.1 (IsS87.ge y.1) J.1 L.1 T.1); rintro e g5 ⟨rfl, hi, hb, hk⟩; refine ⟨_, rfl, ?_⟩; have _ := Q_ (Kd.R_mono (Kd.R_keep (IsS87.apart (show IsS87 w0 _ g F ao ap from qs87_3_ y.1 u.1 v.1 t.1) (pr_ j.1) (by decide)) hk (fun _ h => h.2)) (fun _ h => h.1)); have _ := Q_ (Kd.R_mono (Kd.R_keep (IsS87.apart (show IsS87 w0 _ g F ao ap from qs87_3_ y.1 u.1 v.1 t.1) (pr_ d.1) (by decide)) hk (fun _ h => h.2)) (fun _ h => h.1)); have _ := Q_ (KeepBut.blk hk (g' := ar) (o := .cells #[.int .i64 av, .slice ax al.length aA, .slice az an.length aB] 34 (0, 0)) (pk_ s.1) aQ.1 (by simp)); have _ := Q_ (KeepBut.blk hk (g' := W) (o := .cells #[.int .i64 0, .slice none 0 0, .slice none 0 0] 34 (0, 0)) (pk_ r.1) aK.1 (by simp)); have _ := Q_ (KeepBut.blk hk (g' := O) (o := .cells #[.int .i64 I, .slice ak E.length ag, aU] 34 (0, 0)) (pk_ l.1) X.1 (by simp)); have _ := Q_ (KeepBut.trans (qk3_ HK.1 B.1 D.1 G.1) hk (.inl rfl)); have _ := Q_ (hb); have _ := Q_ (hi); clear j d s r l HK HB y; rename_i j d s r l HK HB y; (try clear hb hk hi)))
  (try simp only [Act.put, s1_, s2_, s3_])
  have H := HS_.1
  clear HS_
  by_cases cl : cz = true
  rotate_left
  ·replace cl := bf_ cl
   subst cl
   rw [if_neg ff_] at H
   simp only [Option.some.injEq, Prod.mk.injEq] at H
   obtain ⟨rfl, rfl, rfl, rfl, rfl⟩ := H
   have fr := Y.1
   have fZ := U.1
   have fs := Z.1
   have f4 := V.1
   have ft := X.1
   have f5 := t.1
   have fb := bc3_ l.1
   have fu := a4.1
   have f6 := aX.1
   have fv := aK.1
   have f7 := v.1
   have fc := bc3_ r.1
   obtain ⟨c3, c8, df⟩ := Kd.R_slice d.1
   subst df
   go_wp2
   refine bodyPost_ret (results_cell_row rfl _ _ W 34 #[.int .i64 I, .slice ak E.length ag, .slice c3 a.length c8] (0, 0) _ rfl (pp_ r.1) Try.underlying34 rfl (by kernel_rfl)) rfl ?_
   exact ⟨_, _, er_, pr_ (Kd.R_mono (rf3_ j.1 r.1) (fun _ hk => trivial)), pr_ (Kd.R_mono (rf3_ d.1 r.1) (fun _ hk => trivial)), qs87_3_ y.1 u.1 v.1 t.1, qb4_ HB.1 (IsS87.ge y.1) J.1 L.1 T.1, qk3_ HK.1 B.1 D.1 G.1⟩
  subst cl
  rw [if_pos rfl] at H
  obtain ⟨aT, hji42⟩ : ∃ j_ : Int, (wrap64 ((a.length : Int) / 2)) = j_ := ⟨_, rfl⟩
  replace H : (if 0 ≤ (aT) then (if (aT) ≤ (a.length : Int) then (some (I, E, (a.take ((aT) : Int).toNat), ce, cf)) else (none)) else (none)) = some (r1, r2, r3, r4, r5) := by first | (rw [hji42] at H; exact H) | (simp only [hji42] at H ⊢; exact H)
  have hji42w : (IntKind.i64.wrap ((a.length : Int) / 2)) = aT := (i64_w _).trans hji42
  by_cases bX : 0 ≤ (aT)
  rotate_left
  ·rw [if_neg bX] at H
   exact nn_ H
  rw [if_pos bX] at H
  have eU := eq_true bX
  have eV : decide (0 ≤ (aT)) = true := decide_eq_true bX
  clear bX
  by_cases bY : (aT) ≤ (a.length : Int)
  rotate_left
  ·rw [if_neg bY] at H
   exact nn_ H
  rw [if_pos bY] at H
  have eW := eq_true bY
  have eX : decide ((aT) ≤ (a.length : Int)) = true := decide_eq_true bY
  clear bY
  obtain ⟨bf, hy468⟩ : ∃ y_ : List (S78), y_ = (a.take ((aT) : Int).toNat) := ⟨_, rfl⟩
  replace H : (some (I, E, bf, ce, cf)) = some (r1, r2, r3, r4, r5) := hb_ hy468 H
  have bV := Q_ hy468
  clear hy468
  simp only [Option.some.injEq, Prod.mk.injEq] at H
  obtain ⟨rfl, rfl, rfl, rfl, rfl⟩ := H
  have fw := Y.1
  have f8 := U.1
  have fx := Z.1
  have f9 := V.1
  have fy := X.1
  have ga := t.1
  have fd := bc3_ l.1
  obtain ⟨bh, bl, dg⟩ := Kd.R_slice d.1
  subst dg
  have cQ : ((aT) : Int) ≤ ((a.length : Int) : Int) := dt_
  obtain ⟨i050, b6, _, hsz50, _⟩ := info_parts info78
  have hcut50 := cut_to (P := Try.prog) 32 78 .i64 Try.underlying32 b6 bh a.length bl (aT) dt_ cQ (Kd.R_reads' d.1).2.1
  have hr50 := Kd.R_take (m := ((aT) : Int).toNat) d.1 (by omega)
  have hy50 : bf.length = ((aT) : Int).toNat := (by rw [bV.1, List.length_take]; omega)
  rw [← bV.1] at hr50
  rw [← hy50] at hr50 hcut50
  clear hy50 b6 hsz50 d
  have cE := Q_ hr50
  clear hr50
  replace cQ := eq_true cQ
  have fz := a4.1
  have gb := aX.1
  have fA := aK.1
  have gc := v.1
  have fe := bc3_ r.1
  go_wp2
  refine bodyPost_ret (results_cell_row rfl _ _ W 34 #[.int .i64 I, .slice ak E.length ag, .slice bh bf.length bl] (0, 0) _ rfl (pp_ r.1) Try.underlying34 rfl (by kernel_rfl)) rfl ?_
  exact ⟨_, _, by first | rfl | (simp [errW_none, errW_some] <;> rfl) | (simp only [← hji42]; first | rfl | (simp [errW_none, errW_some] <;> rfl)) | (simp [*, errW_none, errW_some] <;> rfl), pr_ (Kd.R_mono (Kd.R_far (p := ⟨W, 2, none⟩) (Kd.R_far (p := ⟨W, 1, none⟩) (Kd.R_far (p := ⟨W, 0, none⟩) (Kd.R_far (p := ⟨O, 2, none⟩) (Kd.R_types (Kd.R_types j.1 l.1 (by decide)) r.1 (by decide)) (fun _ hk => hk.1.2) (.slice bh bf.length bl)) (fun _ hk => hk.2) (.int .i64 I)) (fun _ hk => hk.2) (.slice ak E.length ag)) (fun _ hk => hk.2) (.slice bh bf.length bl)) (fun _ hk => trivial)), pr_ (Kd.R_mono (Kd.R_far (p := ⟨W, 2, none⟩) (Kd.R_far (p := ⟨W, 1, none⟩) (Kd.R_far (p := ⟨W, 0, none⟩) (Kd.R_far (p := ⟨O, 2, none⟩) (Kd.R_types (Kd.R_types cE.1 l.1 (by decide)) r.1 (by decide)) (fun _ hk => hk.1.2) (.slice bh bf.length bl)) (fun _ hk => hk.2) (.int .i64 I)) (fun _ hk => hk.2) (.slice ak E.length ag)) (fun _ hk => hk.2) (.slice bh bf.length bl)) (fun _ hk => trivial)), qs87_3_ y.1 u.1 v.1 t.1, qb4_ HB.1 (IsS87.ge y.1) J.1 L.1 T.1, qk3_ HK.1 B.1 D.1 G.1⟩
 subst ck
 rw [if_pos rfl] at H
 obtain ⟨⟨q, aC, aD⟩, eQ, H⟩ := bs_ H
 (try dsimp only at H)
 by_cases cm : 0 ≤ q
 rotate_left
 ·rw [if_neg cm] at H
  exact nn_ H
 rw [if_pos cm] at H
 have eY := decide_eq_true cm
 clear cm
 by_cases cn : q < (a.length : Int)
 rotate_left
 ·rw [if_neg cn] at H
  exact nn_ H
 rw [if_pos cn] at H
 have eZ := decide_eq_true cn
 clear cn
 have bR := Q_ H
 clear H
 have fB := Y.1
 have gd := U.1
 have fC := Z.1
 have gf := V.1
 have fD := X.1
 have gg := t.1
 have ff := bc3_ l.1
 obtain ⟨c4, Q, dh⟩ := Kd.R_slice d.1
 subst dh
 go_upto_region 7 with (first | ((with_reducible refine gate_callee (f := 54) rfl ?_); refine gl_ (some 28) Try.func54 #[.pointer (some ⟨g, 0, none⟩), .int .i64 (a.length : Int)] ?_; (with_reducible refine (spec_l1Below.calls g F ao ap (a.length : Int) q aC aD w0 _ ?side1 ?side2 eQ.1).mono ?_); (case side1 => exact qs87_3_ y.1 u.1 v.1 t.1); (case side2 => exact qb4_ HB.1 (IsS87.ge y.1) J.1 L.1 T.1); rintro e g6 ⟨rfl, hi, hb, hk⟩; refine ⟨_, rfl, ?_⟩; have _ := Q_ (Kd.R_mono (Kd.R_keep (IsS87.apart (show IsS87 w0 _ g F ao ap from qs87_3_ y.1 u.1 v.1 t.1) (pr_ j.1) (by decide)) hk (fun _ h => h.2)) (fun _ h => h.1)); have _ := Q_ (Kd.R_mono (Kd.R_keep (IsS87.apart (show IsS87 w0 _ g F ao ap from qs87_3_ y.1 u.1 v.1 t.1) (pr_ d.1) (by decide)) hk (fun _ h => h.2)) (fun _ h => h.1)); have _ := Q_ (KeepBut.blk hk (g' := ar) (o := .cells #[.int .i64 av, .slice ax al.length aA, .slice az an.length aB] 34 (0, 0)) (pk_ s.1) aQ.1 (by simp)); have _ := Q_ (KeepBut.blk hk (g' := W) (o := .cells #[.int .i64 0, .slice none 0 0, .slice none 0 0] 34 (0, 0)) (pk_ r.1) aK.1 (by simp)); have _ := Q_ (KeepBut.blk hk (g' := O) (o := .cells #[.int .i64 I, .slice ak E.length ag, .slice c4 a.length Q] 34 (0, 0)) (pk_ l.1) X.1 (by simp)); have _ := Q_ (KeepBut.trans (qk3_ HK.1 B.1 D.1 G.1) hk (.inl rfl)); have _ := Q_ (hb); have _ := Q_ (hi); clear j d s r l HK HB y; rename_i j d s r l HK HB y; (try clear hb hk hi); have fg := bc3_ l.1; have b8 : 0 ≤ (q : Int) := dt_; have ca : q < (a.length : Int) := dt_; obtain ⟨M, c9, dj, dk, dl, dm⟩ := at_T78 (Kd.R_reads' d.1).2.2 q b8 ca; cases c9; replace b8 := eq_true b8; replace ca := eq_true ca) | ((with_reducible refine gate_dst (N := 8) rfl ?_); (try (refine gate_guard (by rfl) ?_; dsimp only)); refine bx_ 8 #[.int .i64 0, .bool false, .int .i64 0, .int .i64 0] 78 ?_; intro x hg gA hbox hb; have _ := Q_ (Kd.R_below (pr_ j.1) hb); have _ := Q_ (Kd.R_below (Kd.R_elderB (pr_ d.1) x (Nat.le_of_eq hg.symm)) hb); have _ := Q_ (bb_ s.1 hb); have _ := Q_ (bb_ r.1 hb); have _ := Q_ (bb_ l.1 hb); have _ := Q_ (IsS87.below (qs87_3_ y.1 u.1 v.1 t.1) hb); have _ := Q_ (KeepBut.trans (qk3_ HK.1 B.1 D.1 G.1) (KeepBut.of_below hb g none) (.inl rfl)); have _ := Q_ (below_step (qb4_ HB.1 (IsS87.ge y.1) J.1 L.1 T.1) hb); have z := Q_ (hbox); have ab := Q_ ((by rw [hg]; exact (keep_size (w := w) (g := g) (row := none) (qk3_ HK.1 B.1 D.1 G.1)) : w.heap.size ≤ x)); have aq := Q_ (Nat.le_trans HW0.1 ab.1); have ac := Q_ (nb_ hg s); have ai := Q_ ac.1.symm; have ae := Q_ (nb_ hg r); have aj := Q_ ae.1.symm; have aa := Q_ (nb_ hg l); have af := Q_ aa.1.symm; have A := Q_ ((by rw [hg]; exact Nat.ne_of_lt (IsS87.lt (show IsS87 w0 _ g F aC aD from qs87_3_ y.1 u.1 v.1 t.1)) : g ≠ x)); have am := Q_ A.1.symm; clear j d s r l y HK HB; rename_i j d s r l y HK HB; clear hb hbox hg; have fE := ai.1; have gh := ac.1; have fF := aj.1; have gi := ae.1; have fG := af.1; have gj := aa.1; have fH := am.1; have gl := A.1; have fh := bc4_ z.1))
 (try simp only [Act.put, s1_, s2_, s3_])
 go_cut [43] (fun gz wc => ∃ (kq : Nat) (ba : Bool), gz = .bool ba ∧ Aside0 (spec_l15Next.j2 kq aw q ba F aC aD I E a ((rd_T78 a q).f0) ((rd_T78 a q).f1) ((rd_T78 a q).f2) ((rd_T78 a q).f3) = some (r1, r2, r3, r4, r5)) ∧ Aside0 (kq ≤ kj22) ∧ Aside0 (Kd.R Kd.bool 4 wc w.heap.size (fun _ => True) (.slice ak E.length ag) E) ∧ Aside0 (Kd.R k78 78 wc w.heap.size (fun k_ => k_ ≠ x) (.slice (some M) a.length Q) a) ∧ Aside0 (wc.heap[ar]? = some (.cells #[.int .i64 av, (.slice ax al.length aA), (.slice az an.length aB)] 34 (0, 0))) ∧ Aside0 (wc.heap[W]? = some (.cells #[.int .i64 0, (.slice none 0 0), (.slice none 0 0)] 34 (0, 0))) ∧ Aside0 (wc.heap[O]? = some (.cells #[.int .i64 I, (.slice ak E.length ag), (.slice (some M) a.length Q)] 34 (0, 0))) ∧ Aside0 (wc.heap[x]? = some (.cells #[.int .i64 ((rd_T78 a q).f0), .bool ((rd_T78 a q).f1), .int .i64 ((rd_T78 a q).f2), .int .i64 ((rd_T78 a q).f3)] 78 (0, 0))) ∧ Aside0 (IsS87 w0 wc g F aC aD) ∧ Aside0 (KeepBut w wc g none) ∧ Aside0 (Below w0.heap.size w0 wc))
 case first =>
  have H := bR.1
  clear bR
  obtain ⟨bG, hbq71⟩ : ∃ b_ : Bool, b_ = ((rd_T78 a q).f1) := ⟨_, rfl⟩
  replace H : (if bG = true then ((spec_MovesFrom.f kj22 I E a ((rd_T78 a q).f0) true).bind fun bK => (spec_l15Next.j2 kj22 aw q (decide ((bK.length : Int) > 1)) F aC aD I E a ((rd_T78 a q).f0) bG ((rd_T78 a q).f2) ((rd_T78 a q).f3))) else (spec_l15Next.j2 kj22 aw q false F aC aD I E a ((rd_T78 a q).f0) bG ((rd_T78 a q).f2) ((rd_T78 a q).f3))) = some (r1, r2, r3, r4, r5) := by rw [← hbq71] at H; exact H
  have bb := Q_ hbq71
  clear hbq71
  (try rw [← bb.1])
  by_cases co : bG = true
  rotate_left
  ·replace co := bf_ co
   subst co
   rw [if_neg ff_] at H
   have H' := Q_ H
   clear H
   have fI := ai.1
   have gm := ac.1
   have fJ := aj.1
   have gn := ae.1
   have fK := af.1
   have go := aa.1
   have fL := am.1
   have gp := A.1
   have fi := bc4_ z.1
   go_wp2
   refine Met.intro ?_; go_step; (try rw [← bb.1]); (repeat apply Exists.intro); refine ⟨?rel, rfl⟩
   case rel => (try rw [← bb.1]); exact ⟨_, (false), el_, H', ⟨by have := a5.1; have := aY.1; first | omega | exact Nat.le_refl _⟩, ⟨pr_ (Kd.R_mono (rf4_ j.1 z.1) (fun _ hk => trivial))⟩, ⟨by (with_reducible repeat (first | apply Kd.R_alloc | apply Kd.R_drewN | apply Kd.R_drew)); exact Kd.R_mono (Kd.R_far (p := ⟨x, 3, none⟩) (Kd.R_far (p := ⟨x, 2, none⟩) (Kd.R_far (p := ⟨x, 1, none⟩) (Kd.R_far (p := ⟨x, 0, none⟩) (Kd.R_mono d.1 (fun k_ hk => (⟨hk, hk.2⟩ : _ ∧ k_ ≠ x))) (fun _ hk => hk.2) (.int .i64 ((rd_T78 a q).f0))) (fun _ hk => hk.2) (.bool (false))) (fun _ hk => hk.2) (.int .i64 ((rd_T78 a q).f2))) (fun _ hk => hk.2) (.int .i64 ((rd_T78 a q).f3))) (fun _ hk => hk.1.2)⟩, ⟨pp_ s.1⟩, ⟨pp_ r.1⟩, ⟨pp_ l.1⟩, ⟨pp_ z.1⟩, ⟨qs87_4_ y.1 u.1 v.1 t.1 A.1⟩, ⟨qk4_ HK.1 B.1 D.1 G.1 ab.1⟩, ⟨qb5_ HB.1 (IsS87.ge y.1) J.1 L.1 T.1 aq.1⟩⟩
  subst co
  rw [if_pos rfl] at H
  obtain ⟨bK, eR, H⟩ := bs_ H
  (try dsimp only at H)
  have H' := Q_ H
  clear H
  have fM := ai.1
  have gq := ac.1
  have fN := aj.1
  have gr := ae.1
  have fO := af.1
  have gs := aa.1
  have fP := am.1
  have gt := A.1
  have fj := bc4_ z.1
  have fQ := Y.1
  have gu := U.1
  have fR := Z.1
  have gv := V.1
  have fS := X.1
  have gw := t.1
  have fk := bc3_ l.1
  go_wp2_with (first | (go_at_call 70; (with_reducible refine (spec_MovesFrom.calls kj22 I _ _ E _ _ a ((rd_T78 a q).f0) true bK _ ?side1 ?side2 ?side3 ?side4 eR.1).mono ?_); (case side1 => refine (Kd.R_reads' (e := 4) (base := w.heap.size) (ok := fun k_ => True) (n := E.length) (c := ag) ?_).2.2; exact (pr_ (rf4_ j.1 z.1))); (case side2 => exact (Kd.R_reads' j.1).2.1); (case side3 => refine (Kd.R_reads' (e := 78) (base := w.heap.size) (ok := fun k_ => (True ∧ k_ ≠ x)) (n := a.length) (c := Q) ?_).2.2; exact (by (with_reducible repeat (first | apply Kd.R_alloc | apply Kd.R_drewN | apply Kd.R_drew)); exact (Kd.R_mono (Kd.R_far (p := ⟨x, 3, none⟩) (Kd.R_far (p := ⟨x, 2, none⟩) (Kd.R_far (p := ⟨x, 1, none⟩) (Kd.R_far (p := ⟨x, 0, none⟩) (Kd.R_mono d.1 (fun k_ hk => (⟨hk, hk.2⟩ : _ ∧ k_ ≠ x))) (fun _ hk => hk.2) (.int .i64 ((rd_T78 a q).f0))) (fun _ hk => hk.2) (.bool (true))) (fun _ hk => hk.2) (.int .i64 ((rd_T78 a q).f2))) (fun _ hk => hk.2) (.int .i64 ((rd_T78 a q).f3))) (fun _ h_ => h_.1)))); (case side4 => exact (Kd.R_reads' d.1).2.1); rintro e g7 ⟨gN, rfl, bp, hb⟩; have _ := Q_ (Kd.R_below (pr_ (rf4_ j.1 z.1)) hb); have _ := Q_ (Kd.R_below (by (with_reducible repeat (first | apply Kd.R_alloc | apply Kd.R_drewN | apply Kd.R_drew)); exact (Kd.R_mono (Kd.R_far (p := ⟨x, 3, none⟩) (Kd.R_far (p := ⟨x, 2, none⟩) (Kd.R_far (p := ⟨x, 1, none⟩) (Kd.R_far (p := ⟨x, 0, none⟩) (Kd.R_mono d.1 (fun k_ hk => (⟨hk, hk.2⟩ : _ ∧ k_ ≠ x))) (fun _ hk => hk.2) (.int .i64 ((rd_T78 a q).f0))) (fun _ hk => hk.2) (.bool (true))) (fun _ hk => hk.2) (.int .i64 ((rd_T78 a q).f2))) (fun _ hk => hk.2) (.int .i64 ((rd_T78 a q).f3))) (fun _ h_ => h_.1))) hb); have cF := Q_ (Kd.R_lower bp (keep_size (w := w) (g := g) (row := none) (qk4_ HK.1 B.1 D.1 G.1 ab.1))); have _ := Q_ (blk_below (g := ar) (o := .cells #[.int .i64 av, .slice ax al.length aA, .slice az an.length aB] 34 (0, 0)) (pp_ s.1) hb); have _ := Q_ (blk_below (g := W) (o := .cells #[.int .i64 0, .slice none 0 0, .slice none 0 0] 34 (0, 0)) (pp_ r.1) hb); have _ := Q_ (blk_below (g := O) (o := .cells #[.int .i64 I, .slice ak E.length ag, .slice (some M) a.length Q] 34 (0, 0)) (pp_ l.1) hb); have _ := Q_ (IsS87.below (show IsS87 w0 ((((gA.setCell ⟨x, 0, none⟩ (.int .i64 ((rd_T78 a q).f0))).setCell ⟨x, 1, none⟩ (.bool (true))).setCell ⟨x, 2, none⟩ (.int .i64 ((rd_T78 a q).f2))).setCell ⟨x, 3, none⟩ (.int .i64 ((rd_T78 a q).f3))) g F aC aD from qs87_4_ y.1 u.1 v.1 t.1 A.1) hb); have _ := Q_ (blk_below (g := x) (o := .cells #[.int .i64 ((rd_T78 a q).f0), .bool true, .int .i64 ((rd_T78 a q).f2), .int .i64 ((rd_T78 a q).f3)] 78 (0, 0)) (pp_ z.1) hb); have _ := Q_ (KeepBut.trans (qk4_ HK.1 B.1 D.1 G.1 ab.1) (KeepBut.of_below hb g none) (.inl rfl)); have _ := Q_ (below_step (qb5_ HB.1 (IsS87.ge y.1) J.1 L.1 T.1 aq.1) hb); clear j d s r l y z HK HB; rename_i j d s r l y z HK HB; (try clear hb bp); obtain ⟨gC, gE, di⟩ := Kd.R_slice cF.1; subst di))
  refine Met.intro ?_; go_step; (try rw [← bb.1]); (repeat apply Exists.intro); refine ⟨?rel, rfl⟩
  case rel => (try rw [← bb.1]); exact ⟨_, (decide ((bK.length : Int) > 1)), el_, H', ⟨by have := a5.1; have := aY.1; first | omega | exact Nat.le_refl _⟩, ⟨pr_ j.1⟩, ⟨pr_ (Kd.R_mono d.1 (fun _ hk => hk.2))⟩, ⟨pk_ s.1⟩, ⟨pk_ r.1⟩, ⟨pk_ l.1⟩, ⟨pk_ z.1⟩, ⟨qs87_4_ y.1 u.1 v.1 t.1 A.1⟩, ⟨qk4_ HK.1 B.1 D.1 G.1 ab.1⟩, ⟨qb5_ HB.1 (IsS87.ge y.1) J.1 L.1 T.1 aq.1⟩⟩
 clear bR
 obtain ⟨kq, ba, rfl, HA, a3, j, d, s, r, l, z, y, HK, HB⟩ := hcut
 rcases kq with _ | kj56
 ·exact absurd HA.1 (by simp [spec_l15Next.j2])
 have H := HA.1
 clear HA
 simp only [spec_l15Next.j2] at H
 by_cases cp : ba = true
 ·subst cp
  rw [if_pos rfl] at H
  obtain ⟨bg, hy479⟩ : ∃ y_ : List (S78), y_ = (([] : List (S78))) := ⟨_, rfl⟩
  replace H : (if 0 ≤ q then (if q ≤ (a.length : Int) then ((some (a.take (q : Int).toNat : List (S78))).bind fun aN => (if bg.length + aN.length < 4398046511104 then ((some (bg ++ aN : List (S78))).bind fun aM => (if 0 ≤ (wrap64 (q + 1)) then (if (wrap64 (q + 1)) ≤ (a.length : Int) then ((some (a.drop ((wrap64 (q + 1)) : Int).toNat : List (S78))).bind fun ah => (if aM.length + ah.length < 4398046511104 then (spec_l15Next.l0 kj56 (wrap64 (aw - 1)) F aC aD I E (aM ++ ah)) else (none))) else (none)) else (none))) else (none))) else (none)) else (none)) = some (r1, r2, r3, r4, r5) := hb_ hy479 H
  have bW := Q_ hy479
  clear hy479
  by_cases bZ : 0 ≤ q
  rotate_left
  ·rw [if_neg bZ] at H
   exact nn_ H
  rw [if_pos bZ] at H
  have e0 := eq_true bZ
  have e1 : decide (0 ≤ q) = true := decide_eq_true bZ
  clear bZ
  by_cases b0 : q ≤ (a.length : Int)
  rotate_left
  ·rw [if_neg b0] at H
   exact nn_ H
  rw [if_pos b0] at H
  have e2 := eq_true b0
  have e3 : decide (q ≤ (a.length : Int)) = true := decide_eq_true b0
  clear b0
  obtain ⟨aN, hy482⟩ : ∃ y_ : List (S78), y_ = (a.take (q : Int).toNat) := ⟨_, rfl⟩
  replace H : (if bg.length + aN.length < 4398046511104 then ((some (bg ++ aN : List (S78))).bind fun aM => (if 0 ≤ (wrap64 (q + 1)) then (if (wrap64 (q + 1)) ≤ (a.length : Int) then ((some (a.drop ((wrap64 (q + 1)) : Int).toNat : List (S78))).bind fun ah => (if aM.length + ah.length < 4398046511104 then (spec_l15Next.l0 kj56 (wrap64 (aw - 1)) F aC aD I E (aM ++ ah)) else (none))) else (none)) else (none))) else (none)) = some (r1, r2, r3, r4, r5) := hb_ hy482 H
  have bm := Q_ hy482
  clear hy482
  by_cases cq : bg.length + aN.length < 4398046511104
  rotate_left
  ·rw [if_neg cq] at H
   exact nn_ H
  rw [if_pos cq] at H
  have cI := Q_ cq
  clear cq
  obtain ⟨aM, hy486⟩ : ∃ y_ : List (S78), y_ = (bg ++ aN) := ⟨_, rfl⟩
  replace H : (if 0 ≤ (wrap64 (q + 1)) then (if (wrap64 (q + 1)) ≤ (a.length : Int) then ((some (a.drop ((wrap64 (q + 1)) : Int).toNat : List (S78))).bind fun ah => (if aM.length + ah.length < 4398046511104 then (spec_l15Next.l0 kj56 (wrap64 (aw - 1)) F aC aD I E (aM ++ ah)) else (none))) else (none)) else (none)) = some (r1, r2, r3, r4, r5) := hb_ hy486 H
  have cK := Q_ hy486
  clear hy486
  obtain ⟨au, hji94⟩ : ∃ j_ : Int, (wrap64 (q + 1)) = j_ := ⟨_, rfl⟩
  replace H : (if 0 ≤ (au) then (if (au) ≤ (a.length : Int) then ((some (a.drop ((au) : Int).toNat : List (S78))).bind fun ah => (if aM.length + ah.length < 4398046511104 then (spec_l15Next.l0 kj56 (wrap64 (aw - 1)) F aC aD I E (aM ++ ah)) else (none))) else (none)) else (none)) = some (r1, r2, r3, r4, r5) := by first | (rw [hji94] at H; exact H) | (simp only [hji94] at H ⊢; exact H)
  have hji94w : (IntKind.i64.wrap (q + 1)) = au := (i64_w _).trans hji94
  by_cases b1 : 0 ≤ (au)
  rotate_left
  ·rw [if_neg b1] at H
   exact nn_ H
  rw [if_pos b1] at H
  have e4 := eq_true b1
  have e5 : decide (0 ≤ (au)) = true := decide_eq_true b1
  clear b1
  by_cases b2 : (au) ≤ (a.length : Int)
  rotate_left
  ·rw [if_neg b2] at H
   exact nn_ H
  rw [if_pos b2] at H
  have e6 := eq_true b2
  have e7 : decide ((au) ≤ (a.length : Int)) = true := decide_eq_true b2
  clear b2
  obtain ⟨ah, hy489⟩ : ∃ y_ : List (S78), y_ = (a.drop ((au) : Int).toNat) := ⟨_, rfl⟩
  replace H : (if aM.length + ah.length < 4398046511104 then (spec_l15Next.l0 kj56 (wrap64 (aw - 1)) F aC aD I E (aM ++ ah)) else (none)) = some (r1, r2, r3, r4, r5) := hb_ hy489 H
  have bn := Q_ hy489
  clear hy489
  by_cases cr : aM.length + ah.length < 4398046511104
  rotate_left
  ·rw [if_neg cr] at H
   exact nn_ H
  rw [if_pos cr] at H
  have cJ := Q_ cr
  clear cr
  obtain ⟨bq, hy493⟩ : ∃ y_ : List (S78), y_ = (aM ++ ah) := ⟨_, rfl⟩
  replace H : (spec_l15Next.l0 kj56 (wrap64 (aw - 1)) F aC aD I E bq) = some (r1, r2, r3, r4, r5) := hb_ hy493 H
  have cL := Q_ hy493
  clear hy493
  have H' := Q_ H
  clear H
  try go_wp2
  have _ := Q_ (Kd.R_drew j.1)
  have _ := Q_ (Kd.R_drew d.1)
  have _ := Q_ (blk_drew s.1)
  have _ := Q_ (blk_drew r.1)
  have _ := Q_ (blk_drew l.1)
  have _ := Q_ (blk_drew z.1)
  have _ := Q_ (IsS87.drew y.1)
  have _ := Q_ (keep_drew HK.1)
  have _ := Q_ (below_drew1 HB.1)
  clear j d s r l z y HK HB
  rename_i j d s r l z y HK HB
  have cR : (q : Int) ≤ ((a.length : Int) : Int) := dt_
  obtain ⟨i099, b7, _, hsz99, _⟩ := info_parts info78
  have hroom99 : a.length ≤ Q := (Kd.R_reads' d.1).2.1
  have hC99 : Kd.C k78 _ (some M) a.length a := (Kd.R_reads' d.1).2.2
  have hcut99 := cut_to (P := Try.prog) 32 78 .i64 Try.underlying32 b7 (some M) a.length Q q dt_ cR hroom99
  have hr99 := Kd.C_take (m := (q : Int).toNat) hC99 (by omega)
  have hy99 : aN.length = (q : Int).toNat := (by rw [bm.1, List.length_take]; omega)
  rw [← bm.1] at hr99
  rw [← hy99] at hcut99
  have aI := Q_ hr99
  have eS := Q_ (show aN.length ≤ Q from by omega)
  clear hr99 hC99 hroom99 b7 hsz99
  have KY99 := Q_ hy99
  clear hy99
  have cu := Q_ (show (q : Int).toNat ≤ a.length from by omega)
  replace cR := eq_true cR
  have b9 : ((au) : Int) ≤ ((a.length : Int) : Int) := dt_
  obtain ⟨i0100, bI, _, hsz100, _⟩ := info_parts info78
  have hroom100 : a.length ≤ Q := (Kd.R_reads' d.1).2.1
  have hC100 : Kd.C k78 _ (some M) a.length a := (Kd.R_reads' d.1).2.2
  have cP : (0 : Int) ≤ ((au) : Int) := dt_
  have hcut100 := cut_from (P := Try.prog) 32 78 .i64 Try.underlying32 bI 4 hsz100 (some M) a.length Q (au) cP b9
  have hr100 := Kd.C_drop (m := ((au) : Int).toNat) (c := Q) hC100 (by omega) hroom100
  obtain ⟨bP, hA100⟩ : ∃ A1, A1 = (if Q = ((au) : Int).toNat then (some M) else ((some M) : Option Addr).map (·.add (((au) : Int).toNat * 4))) := ⟨_, rfl⟩
  obtain ⟨c5, bF⟩ : ∃ c1, c1 = Q - ((au) : Int).toNat := ⟨_, rfl⟩
  have hy100 : ah.length = a.length - ((au) : Int).toNat := (by rw [bn.1, List.length_drop] <;> omega)
  rw [show (a).drop ((au) : Int).toNat = ah from bn.1.symm] at hr100
  replace hr100 : Kd.C k78 _ bP ah.length ah := (by rw [hA100]; exact hr100)
  rw [← hy100, ← hA100, ← bF] at hcut100
  have aJ := Q_ hr100
  have eT := Q_ (show ah.length ≤ c5 from by rw [hy100, bF]; exact Nat.sub_le_sub_right hroom100 _)
  clear hr100 hC100 hroom100 bI hsz100 bF
  have KY100 := Q_ hy100
  have KA100 := Q_ hA100
  clear hy100 hA100
  have bU := Q_ (show ((au) : Int).toNat ≤ a.length from by omega)
  replace b9 := eq_true b9
  refine start_ (n := 14) (S := fun w' => w'.cell? ⟨O, 0, none⟩ = some (.int .i64 I) ∧ w'.cell? ⟨O, 1, none⟩ = some (.slice ak E.length ag) ∧ w'.cell? ⟨O, 2, none⟩ = some (.slice (some M) a.length Q)) (ds := [13]) #[false, false, false, false, false, false, false, false, false, false, false, false, false, false] (by kernel_rfl) rfl rfl (sb_ l.1) (fun hHeld => ?_); refine with_tabW spec_l15Next.tab8 spec_l15Next.bits8 (fun HT_ HW_ => ?_)
  generalize wc.drew = g8 at j d s r l z y HK HB aI aJ hHeld ⊢
  refine pu1_ 1 45 14 2 ?_
  refine pu1_ 3 47 14 10 ?_
  refine pu1_ 6 50 14 74 ?_
  refine pu1_ 8 52 14 330 ?_
  refine pu1_ 9 53 14 842 ?_
  refine ta1_ 2 46 14 846 hHeld ?_
  refine pu1_ 4 48 14 862 ?_
  refine ta1_ 7 51 14 990 hHeld ?_
  refine pu1_ 10 54 14 2014 ?_
  refine on_ 0 (some 44) (tm_ 14 2015) HT_ (fun K hK => ?_)
  refine Kd.R_lit_step k78 _ 78 ?hg (N := 44) ?hd (xs := ([] : List (S78))) (inner := []) (ok := fun _ => True) (okp := fun _ => True) ?hr ?hp (fun _ hk => hk) trivial (Below.refl _ _) (Nat.le_refl _) (by simp) ?_; (case hd => rfl); (case hg => rfl); (case hr => first | (go_simp; done) | (go_simp; rfl)); (case hp => exact (Reps.none _ _))
  intro dn gQ a8 hb hg_ hnew_
  clear hg_ hnew_
  (first | rw [← bW.1] at a8 | (simp only [Int.reduceToNat] at a8; rw [← bW.1] at a8))
  have _ := Q_ (Kd.R_below (pr_ j.1) hb)
  have _ := Q_ (Kd.R_elder' (pr_ d.1) (Kd.R_base a8) hb)
  have _ := Q_ (Kd.R_lower (Kd.R_newB (Kd.R_new' a8 (Kd.R_lt (pr_ d.1))) (g := x) (o := .cells #[.int .i64 ((rd_T78 a q).f0), .bool ((rd_T78 a q).f1), .int .i64 ((rd_T78 a q).f2), .int .i64 ((rd_T78 a q).f3)] 78 (0, 0)) (pk_ z.1)) (keep_size (w := w) (g := g) (row := none) (qk4_ HK.1 B.1 D.1 G.1 ab.1)))
  have _ := Q_ (bb_ s.1 hb)
  have _ := Q_ (bb_ r.1 hb)
  have _ := Q_ (bb_ l.1 hb)
  have _ := Q_ (bb_ z.1 hb)
  have _ := Q_ (IsS87.below (qs87_4_ y.1 u.1 v.1 t.1 A.1) hb)
  have _ := Q_ (Kd.C_below (by repeat (first | (with_reducible exact aI.1) | (with_reducible refine Kd.C_alloc ?_ _) | (with_reducible refine Kd.C_drewN ?_ _) | (with_reducible refine Kd.C_drew ?_) | exact aI.1)) hb)
  have _ := Q_ (Kd.C_below (by repeat (first | (with_reducible exact aJ.1) | (with_reducible refine Kd.C_alloc ?_ _) | (with_reducible refine Kd.C_drewN ?_ _) | (with_reducible refine Kd.C_drew ?_) | exact aJ.1)) hb)
  have _ := Q_ (KeepBut.trans (qk4_ HK.1 B.1 D.1 G.1 ab.1) (KeepBut.of_below hb g none) (.inl rfl))
  have _ := Q_ (below_step (qb5_ HB.1 (IsS87.ge y.1) J.1 L.1 T.1 aq.1) hb)
  clear j d s r l z y aI aJ HK HB
  rename_i j d aV s r l z y aI aJ HK HB
  clear hb a8
  refine hK.out _ _ (sb_ l.1) (fun hHeld => ?_)
  clear hK K
  refine no_ (some 44) ?_
  refine on_ 5 (some 49) (tf_ 11 14) HT_ (fun K hK => ?_)
  refine Kd.R_append_rows_step k78 w.heap.size (by rfl) (.tmp 44) (.tmp 48) 32 78 (.agg #[(.int .i64 0), (.bool false), (.int .i64 0), (.int .i64 0)]) 32 rfl Try.underlying32 info78 rfl (by decide) (by omega) dn bg aN _ _ _ (fun k_ => some k_ ≠ (.slice (some M) a.length Q : Value).ownBlock ∧ k_ ≠ x) (fun _ => False) rfl rfl ?aO ?aR (fun _ _ h => h) (fun _ h => h.elim) ?aF (Below.refl _ _) ?aS ?aL ?_
  (case aR => repeat (first | exact (by repeat (first | (with_reducible exact aI.1) | (with_reducible refine Kd.C_alloc ?_ _) | (with_reducible refine Kd.C_drewN ?_ _) | (with_reducible refine Kd.C_drew ?_) | exact aI.1)) | (with_reducible refine Kd.C_alloc ?_ _) | (with_reducible refine Kd.C_drewN ?_ _) | (with_reducible refine Kd.C_drew ?_)))
  (case aF => exact (fun k_ hk => ⟨Kd.fresh' (Kd.R_lt (pr_ d.1)) k_ hk, Kd.freshB (g := x) (o := .cells #[.int .i64 ((rd_T78 a q).f0), .bool ((rd_T78 a q).f1), .int .i64 ((rd_T78 a q).f2), .int .i64 ((rd_T78 a q).f3)] 78 (0, 0)) (pk_ z.1) k_ hk⟩))
  (case aO => exact (by (with_reducible repeat (first | apply Kd.R_alloc | apply Kd.R_drewN | apply Kd.R_drew)); exact Kd.R_mono aV.1 (fun _ hk => ⟨hk.1.2, hk.2⟩)))
  (case aS => exact (keep_size (w := w) (g := g) (row := none) (qk4_ HK.1 B.1 D.1 G.1 ab.1)))
  (case aL => have := cI.1; omega)
  intro dp cA ho hb hg hat
  rw [← cK.1] at ho
  have _ := Q_ (Kd.R_over' (pr_ j.1) (Kd.R_typed (pr_ aV.1)) (by decide) hg)
  have _ := Q_ (Kd.R_after (ok := (fun k_ => k_ ≠ x)) (pr_ d.1) hg hat)
  have _ := Q_ (blk_grown (g := ar) (o := .cells #[.int .i64 av, .slice ax al.length aA, .slice az an.length aB] 34 (0, 0)) (pk_ s.1) hg (Kd.R_ne aV.1 s.1 (by decide)))
  have _ := Q_ (blk_grown (g := W) (o := .cells #[.int .i64 0, .slice none 0 0, .slice none 0 0] 34 (0, 0)) (pk_ r.1) hg (Kd.R_ne aV.1 r.1 (by decide)))
  have _ := Q_ (blk_grown (g := O) (o := .cells #[.int .i64 I, .slice ak E.length ag, .slice (some M) a.length Q] 34 (0, 0)) (pk_ l.1) hg (Kd.R_ne aV.1 l.1 (by decide)))
  have _ := Q_ (blk_grown (g := x) (o := .cells #[.int .i64 ((rd_T78 a q).f0), .bool ((rd_T78 a q).f1), .int .i64 ((rd_T78 a q).f2), .int .i64 ((rd_T78 a q).f3)] 78 (0, 0)) (pk_ z.1) hg (Kd.R_away aV.1 (fun _ hk => hk.2)))
  have _ := Q_ (IsS87.grown (qs87_4_ y.1 u.1 v.1 t.1 A.1) hg (IsS87.own_ne y.1 aV.1 (by decide)))
  have _ := Q_ (below_weaken (qb5_ HB.1 (IsS87.ge y.1) J.1 L.1 T.1 aq.1) HL.1 hb)
  have _ := Q_ (KeepBut.trans (qk4_ HK.1 B.1 D.1 G.1 ab.1) (KeepBut.of_grown hg g) (Kd.R_base2 aV.1))
  have _ := Q_ ((show Kd.C k78 cA (some M) aN.length aN from by rw [bm.1]; exact Kd.C_take (m := (q : Int).toNat) ((Kd.R_reads' (Kd.R_after (ok := (fun k_ => k_ ≠ x)) (pr_ d.1) hg hat)).2.2) cu.1))
  have _ := Q_ ((show Kd.C k78 cA bP ah.length ah from by rw [bn.1, KA100.1]; exact Kd.C_drop (m := ((au) : Int).toNat) (c := Q) ((Kd.R_reads' (Kd.R_after (ok := (fun k_ => k_ ≠ x)) (pr_ d.1) hg hat)).2.2) bU.1 ((Kd.R_reads' (Kd.R_after (ok := (fun k_ => k_ ≠ x)) (pr_ d.1) hg hat)).2.1)))
  have _ := Q_ (ho)
  clear j d s r l z y HB HK aI aJ aV
  rename_i j d s r l z y HB HK aI aJ aW
  clear ho hb hg hat
  refine hK.out _ _ (sb_ l.1) (fun hHeld => ?_)
  clear hK K
  refine no_ (some 49) ?_
  refine on_ 11 (some 55) (tf_ 12 14) HT_ (fun K hK => ?_)
  refine Kd.R_append_rows_step k78 w.heap.size (by rfl) (.tmp 49) (.tmp 54) 32 78 (.agg #[(.int .i64 0), (.bool false), (.int .i64 0), (.int .i64 0)]) 32 rfl Try.underlying32 info78 rfl (by decide) (by omega) dp aM ah _ _ _ (fun k_ => some k_ ≠ (.slice (some M) a.length Q : Value).ownBlock ∧ k_ ≠ x) (fun _ => False) rfl rfl ?aO ?aR (fun _ _ h => h) (fun _ h => h.elim) ?aF (Below.refl _ _) ?aS ?aL ?_
  (case aR => repeat (first | exact (by repeat (first | (with_reducible exact aJ.1) | (with_reducible refine Kd.C_alloc ?_ _) | (with_reducible refine Kd.C_drewN ?_ _) | (with_reducible refine Kd.C_drew ?_) | exact aJ.1)) | (with_reducible refine Kd.C_alloc ?_ _) | (with_reducible refine Kd.C_drewN ?_ _) | (with_reducible refine Kd.C_drew ?_)))
  (case aF => exact (fun k_ hk => ⟨Kd.fresh' (Kd.R_lt (pr_ d.1)) k_ hk, Kd.freshB (g := x) (o := .cells #[.int .i64 ((rd_T78 a q).f0), .bool ((rd_T78 a q).f1), .int .i64 ((rd_T78 a q).f2), .int .i64 ((rd_T78 a q).f3)] 78 (0, 0)) (pk_ z.1) k_ hk⟩))
  (case aO => exact (pr_ aW.1))
  (case aS => exact (keep_size (w := w) (g := g) (row := none) (qk4_ HK.1 B.1 D.1 G.1 ab.1)))
  (case aL => have := cJ.1; omega)
  intro gO ch ho hb hg hat
  rw [← cL.1] at ho
  have _ := Q_ (Kd.R_over' (pr_ j.1) (Kd.R_typed (pr_ aW.1)) (by decide) hg)
  have _ := Q_ (Kd.R_after (ok := (fun k_ => k_ ≠ x)) (pr_ d.1) hg hat)
  have _ := Q_ (blk_grown (g := ar) (o := .cells #[.int .i64 av, .slice ax al.length aA, .slice az an.length aB] 34 (0, 0)) (pk_ s.1) hg (Kd.R_ne aW.1 s.1 (by decide)))
  have _ := Q_ (blk_grown (g := W) (o := .cells #[.int .i64 0, .slice none 0 0, .slice none 0 0] 34 (0, 0)) (pk_ r.1) hg (Kd.R_ne aW.1 r.1 (by decide)))
  have _ := Q_ (blk_grown (g := O) (o := .cells #[.int .i64 I, .slice ak E.length ag, .slice (some M) a.length Q] 34 (0, 0)) (pk_ l.1) hg (Kd.R_ne aW.1 l.1 (by decide)))
  have _ := Q_ (blk_grown (g := x) (o := .cells #[.int .i64 ((rd_T78 a q).f0), .bool ((rd_T78 a q).f1), .int .i64 ((rd_T78 a q).f2), .int .i64 ((rd_T78 a q).f3)] 78 (0, 0)) (pk_ z.1) hg (Kd.R_away aW.1 (fun _ hk => hk.2)))
  have _ := Q_ (IsS87.grown (qs87_4_ y.1 u.1 v.1 t.1 A.1) hg (IsS87.own_ne y.1 aW.1 (by decide)))
  have _ := Q_ (below_weaken (qb5_ HB.1 (IsS87.ge y.1) J.1 L.1 T.1 aq.1) HL.1 hb)
  have _ := Q_ (KeepBut.trans (qk4_ HK.1 B.1 D.1 G.1 ab.1) (KeepBut.of_grown hg g) (Kd.R_base2 aW.1))
  have _ := Q_ ((show Kd.C k78 ch (some M) aN.length aN from by rw [bm.1]; exact Kd.C_take (m := (q : Int).toNat) ((Kd.R_reads' (Kd.R_after (ok := (fun k_ => k_ ≠ x)) (pr_ d.1) hg hat)).2.2) cu.1))
  have _ := Q_ ((show Kd.C k78 ch bP ah.length ah from by rw [bn.1, KA100.1]; exact Kd.C_drop (m := ((au) : Int).toNat) (c := Q) ((Kd.R_reads' (Kd.R_after (ok := (fun k_ => k_ ≠ x)) (pr_ d.1) hg hat)).2.2) bU.1 ((Kd.R_reads' (Kd.R_after (ok := (fun k_ => k_ ≠ x)) (pr_ d.1) hg hat)).2.1)))
  have _ := Q_ (ho)
  clear j d s r l z y HB HK aI aJ aW
  rename_i j d s r l z y HB HK aI aJ bS
  clear ho hb hg hat
  obtain ⟨bx, bD, b3⟩ := Kd.R_slice bS.1
  (first | subst b3 | (injection b3 with f1_ f2_ f3_; have f4_ := f1_.symm; have f5_ := f3_.symm; clear f1_ f2_ f3_; subst f4_; subst f5_))
  refine hK.out _ _ (sb_ l.1) (fun hHeld => ?_)
  clear hK K
  refine no_ (some 55) ?_
  refine pu1_ 12 56 14 8191 ?_
  refine last_ (i := 13) (N := none) #[true, true, true, true, true, true, true, true, true, true, true, true, true, true] rfl rfl (one_of HT_.1 (by kernel_rfl)) (by decide) (fun K hK => ?_)
  have gx : ch.cell? ⟨O, 2, none⟩ = some (.slice (some M) a.length Q) := (blk_cell l.1 2).trans rfl
  have dE := blk_frozen l.1 2
  have cV := U.1
  have cW := V.1
  have cX := af.1
  have cS := Y.1
  have cT := Z.1
  have cU := aa.1
  refine skip_ (w1 := ?_) (by rfl) rfl ?_ ?_
  rotate_left
  ·go_simp
   rfl
  refine hK.out _ _ ?_
  clear hK K
  refine done_ (done_of HT_.1 (by kernel_rfl)) ?_
  try go_wp2
  go_roundg kj56
  case measure => have := a5.1; have := aY.1; have := a3.1; omega
  case rel => exact ⟨(wrap64 (aw - 1)), (aC), (aD), (bq), (.slice bx bq.length bD), el_, H', ⟨by have := a5.1; have := aY.1; have := a3.1; omega⟩, ⟨pr_ (Kd.R_mono (Kd.R_far (p := ⟨O, 2, none⟩) (Kd.R_types j.1 l.1 (by decide)) (fun _ hk => hk.2) (.slice bx bq.length bD)) (fun _ hk => trivial))⟩, ⟨pr_ (Kd.R_mono (Kd.R_far (p := ⟨O, 2, none⟩) (Kd.R_types bS.1 l.1 (by decide)) (fun _ hk => hk.2) (.slice bx bq.length bD)) (fun _ hk => trivial))⟩, ⟨pp_ s.1⟩, ⟨pp_ r.1⟩, ⟨pp_ l.1⟩, ⟨qs87_4_ y.1 u.1 v.1 t.1 A.1⟩, ⟨qk4_ HK.1 B.1 D.1 G.1 ab.1⟩, ⟨qb5_ HB.1 (IsS87.ge y.1) J.1 L.1 T.1 aq.1⟩⟩
 replace cp := bf_ cp
 subst cp
 rw [if_neg ff_] at H
 by_cases bi : ((rd_T78 a q).f1) = true
 ·rw [if_pos bi] at H
  have cj : ((rd_T78 a q).f1) = true := bi
  clear bi
  have H' := Q_ H
  clear H
  have dF := ai.1
  have ef := ac.1
  have dG := aj.1
  have eg := ae.1
  have dH := af.1
  have eh := aa.1
  have dI := am.1
  have ei := A.1
  have dq := bc4_ z.1
  go_wp2
  go_roundg kj56
  case measure => have := a5.1; have := aY.1; have := a3.1; omega
  case rel => exact ⟨(wrap64 (aw - 1)), (aC), (aD), (a), (.slice (some M) a.length Q), el_, H', ⟨by have := a5.1; have := aY.1; have := a3.1; omega⟩, ⟨pr_ j.1⟩, ⟨pr_ (Kd.R_mono d.1 (fun _ hk => trivial))⟩, ⟨pk_ s.1⟩, ⟨pk_ r.1⟩, ⟨pk_ l.1⟩, ⟨qs87_4_ y.1 u.1 v.1 t.1 A.1⟩, ⟨qk4_ HK.1 B.1 D.1 G.1 ab.1⟩, ⟨qb5_ HB.1 (IsS87.ge y.1) J.1 L.1 T.1 aq.1⟩⟩
 rw [if_neg bi] at H
 have cj : ((rd_T78 a q).f1) = false := by simpa using bi
 clear bi
 obtain ⟨⟨aH, bL, bM⟩, cY, H⟩ := bs_ H
 (try dsimp only at H)
 have HS_ := Q_ H
 clear H
 have dJ := ai.1
 have ej := ac.1
 have dK := aj.1
 have ek := ae.1
 have dL := af.1
 have el := aa.1
 have dM := am.1
 have em := A.1
 have dr := bc4_ z.1
 go_upto_region 11 with (first | ((with_reducible refine gate_callee (f := 54) rfl ?_); refine gl_ (some 61) Try.func54 #[.pointer (some ⟨g, 0, none⟩), .int .i64 5] ?_; (with_reducible refine (spec_l1Below.calls g F aC aD 5 aH bL bM w0 _ ?side1 ?side2 cY.1).mono ?_); (case side1 => exact qs87_4_ y.1 u.1 v.1 t.1 A.1); (case side2 => exact qb5_ HB.1 (IsS87.ge y.1) J.1 L.1 T.1 aq.1); rintro e gR ⟨rfl, hi, hb, hk⟩; refine ⟨_, rfl, ?_⟩; have _ := Q_ (Kd.R_mono (Kd.R_keep (IsS87.apart (show IsS87 w0 _ g F aC aD from qs87_4_ y.1 u.1 v.1 t.1 A.1) (pr_ j.1) (by decide)) hk (fun _ h => h.2)) (fun _ h => h.1)); have _ := Q_ (Kd.R_mono (Kd.R_keep (IsS87.apart (show IsS87 w0 _ g F aC aD from qs87_4_ y.1 u.1 v.1 t.1 A.1) (pr_ d.1) (by decide)) hk (fun _ h => h.2)) (fun _ h => h.1)); have _ := Q_ (KeepBut.blk hk (g' := ar) (o := .cells #[.int .i64 av, .slice ax al.length aA, .slice az an.length aB] 34 (0, 0)) (pk_ s.1) aQ.1 (by simp)); have _ := Q_ (KeepBut.blk hk (g' := W) (o := .cells #[.int .i64 0, .slice none 0 0, .slice none 0 0] 34 (0, 0)) (pk_ r.1) aK.1 (by simp)); have _ := Q_ (KeepBut.blk hk (g' := O) (o := .cells #[.int .i64 I, .slice ak E.length ag, .slice (some M) a.length Q] 34 (0, 0)) (pk_ l.1) X.1 (by simp)); have _ := Q_ (KeepBut.blk hk (g' := x) (o := .cells #[.int .i64 ((rd_T78 a q).f0), .bool ((rd_T78 a q).f1), .int .i64 ((rd_T78 a q).f2), .int .i64 ((rd_T78 a q).f3)] 78 (0, 0)) (pk_ z.1) am.1 (by simp)); have _ := Q_ (KeepBut.trans (qk4_ HK.1 B.1 D.1 G.1 ab.1) hk (.inl rfl)); have _ := Q_ (hb); have _ := Q_ (hi); clear j d s r l z HK HB y; rename_i j d s r l z HK HB y; (try clear hb hk hi); have dt := bc4_ z.1))
 clear cj
 (try simp only [Act.put, s1_, s2_, s3_])
 have H := HS_.1
 clear HS_
 obtain ⟨⟨ay, bd, be⟩, cZ, H⟩ := bs_ H
 (try dsimp only at H)
 have HS_ := Q_ H
 clear H
 have dN := Y.1
 have en := U.1
 have dO := Z.1
 have eo := V.1
 have dP := aa.1
 have ep := af.1
 have dQ := X.1
 have eq := t.1
 have du := bc3_ l.1
 go_upto_region 12 with (first | ((with_reducible refine gate_callee (f := 54) rfl ?_); refine gl_ (some 66) Try.func54 #[.pointer (some ⟨g, 0, none⟩), .int .i64 I] ?_; (with_reducible refine (spec_l1Below.calls g F bL bM I ay bd be w0 _ ?side1 ?side2 cZ.1).mono ?_); (case side1 => exact qs87_4_ y.1 u.1 v.1 t.1 A.1); (case side2 => exact qb5_ HB.1 (IsS87.ge y.1) J.1 L.1 T.1 aq.1); rintro e cB ⟨rfl, hi, hb, hk⟩; refine ⟨_, rfl, ?_⟩; have _ := Q_ (Kd.R_mono (Kd.R_keep (IsS87.apart (show IsS87 w0 _ g F bL bM from qs87_4_ y.1 u.1 v.1 t.1 A.1) (pr_ (Kd.R_mono (Kd.R_far (p := ⟨x, 2, none⟩) (Kd.R_types j.1 z.1 (by decide)) (fun _ hk => hk.2) (.int .i64 aH)) (fun _ h_ => h_.1))) (by decide)) hk (fun _ h => h.2)) (fun _ h => h.1)); have _ := Q_ (Kd.R_mono (Kd.R_keep (IsS87.apart (show IsS87 w0 _ g F bL bM from qs87_4_ y.1 u.1 v.1 t.1 A.1) (by (with_reducible repeat (first | apply Kd.R_alloc | apply Kd.R_drewN | apply Kd.R_drew)); exact (Kd.R_mono (Kd.R_far (p := ⟨x, 2, none⟩) (Kd.R_mono d.1 (fun k_ hk => (⟨hk, hk⟩ : _ ∧ k_ ≠ x))) (fun _ hk => hk.2) (.int .i64 aH)) (fun _ h_ => h_.1))) (by decide)) hk (fun _ h => h.2)) (fun _ h => h.1)); have _ := Q_ (KeepBut.blk hk (g' := ar) (o := .cells #[.int .i64 av, .slice ax al.length aA, .slice az an.length aB] 34 (0, 0)) (pp_ s.1) aQ.1 (by simp)); have _ := Q_ (KeepBut.blk hk (g' := W) (o := .cells #[.int .i64 0, .slice none 0 0, .slice none 0 0] 34 (0, 0)) (pp_ r.1) aK.1 (by simp)); have _ := Q_ (KeepBut.blk hk (g' := O) (o := .cells #[.int .i64 I, .slice ak E.length ag, .slice (some M) a.length Q] 34 (0, 0)) (pp_ l.1) X.1 (by simp)); have _ := Q_ (KeepBut.blk hk (g' := x) (o := .cells #[.int .i64 ((rd_T78 a q).f0), .bool ((rd_T78 a q).f1), .int .i64 aH, .int .i64 ((rd_T78 a q).f3)] 78 (0, 0)) (pp_ z.1) am.1 (by simp)); have _ := Q_ (KeepBut.trans (qk4_ HK.1 B.1 D.1 G.1 ab.1) hk (.inl rfl)); have _ := Q_ (hb); have _ := Q_ (hi); clear j d s r l z HK HB y; rename_i j d s r l z HK HB y; (try clear hb hk hi); have dR := ai.1; have er := ac.1; have dS := aj.1; have es := ae.1; have dT := am.1; have et := A.1; have dv := bc4_ z.1))
 (try simp only [Act.put, s1_, s2_, s3_])
 have H := HS_.1
 clear HS_
 obtain ⟨cg, cs, H⟩ := bs_ H
 (try dsimp only at H)
 by_cases bj : cg < 0
 rotate_left
 ·rw [if_neg bj] at H
  have a6 := decide_eq_false bj
  clear bj
  (first | rw [a6] | (simp only [i64_w, i32_w]; rw [a6]) | skip)
  have H' := Q_ H
  clear H
  have dU := Y.1
  have eu := U.1
  have dV := Z.1
  have ev := V.1
  have dW := aa.1
  have ew := af.1
  have dX := X.1
  have ex := t.1
  have dw := bc3_ l.1
  have dY := ai.1
  have ey := ac.1
  have dZ := aj.1
  have ez := ae.1
  have d0 := am.1
  have eA := A.1
  have dx := bc4_ z.1
  go_wp2_with (first | ((with_reducible refine gate_callee (f := 68) rfl ?_); refine gl_ (some 73) Try.func68 #[.agg #[.int .i64 I, .slice ak E.length ag, .slice (some M) a.length Q], .int .i64 ((rd_T78 a q).f0), .bool false, .int .i64 aH] ?_; (with_reducible refine (spec_MoveOf.calls kj56 I _ _ E _ _ a ((rd_T78 a q).f0) false aH cg _ ?side1 ?side2 ?side3 ?side4 cs.1).mono ?_); (case side1 => refine (Kd.R_reads' (e := 4) (base := w.heap.size) (ok := fun k_ => True) (n := E.length) (c := ag) ?_).2.2; exact (pr_ (Kd.R_mono (Kd.R_far (p := ⟨x, 3, none⟩) (Kd.R_types j.1 z.1 (by decide)) (fun _ hk => hk.2) (.int .i64 ay)) (fun _ h_ => h_.1)))); (case side2 => exact (Kd.R_reads' j.1).2.1); (case side3 => refine (Kd.R_reads' (e := 78) (base := w.heap.size) (ok := fun k_ => k_ ≠ x) (n := a.length) (c := Q) ?_).2.2; exact (by (with_reducible repeat (first | apply Kd.R_alloc | apply Kd.R_drewN | apply Kd.R_drew)); exact (Kd.R_mono (Kd.R_far (p := ⟨x, 3, none⟩) (Kd.R_mono d.1 (fun k_ hk => (⟨hk, hk⟩ : _ ∧ k_ ≠ x))) (fun _ hk => hk.2) (.int .i64 ay)) (fun _ h_ => h_.1)))); (case side4 => exact (Kd.R_reads' d.1).2.1); rintro e gS ⟨rfl, hb⟩; refine ⟨_, rfl, ?_⟩; have _ := Q_ (Kd.R_below (pr_ (Kd.R_mono (Kd.R_far (p := ⟨x, 3, none⟩) (Kd.R_types j.1 z.1 (by decide)) (fun _ hk => hk.2) (.int .i64 ay)) (fun _ h_ => h_.1))) hb); have _ := Q_ (Kd.R_below (by (with_reducible repeat (first | apply Kd.R_alloc | apply Kd.R_drewN | apply Kd.R_drew)); exact (Kd.R_mono (Kd.R_far (p := ⟨x, 3, none⟩) (Kd.R_mono d.1 (fun k_ hk => (⟨hk, hk⟩ : _ ∧ k_ ≠ x))) (fun _ hk => hk.2) (.int .i64 ay)) (fun _ h_ => h_.1))) hb); have _ := Q_ (blk_below (g := ar) (o := .cells #[.int .i64 av, .slice ax al.length aA, .slice az an.length aB] 34 (0, 0)) (pp_ s.1) hb); have _ := Q_ (blk_below (g := W) (o := .cells #[.int .i64 0, .slice none 0 0, .slice none 0 0] 34 (0, 0)) (pp_ r.1) hb); have _ := Q_ (blk_below (g := O) (o := .cells #[.int .i64 I, .slice ak E.length ag, .slice (some M) a.length Q] 34 (0, 0)) (pp_ l.1) hb); have _ := Q_ (blk_below (g := x) (o := .cells #[.int .i64 ((rd_T78 a q).f0), .bool ((rd_T78 a q).f1), .int .i64 aH, .int .i64 ay] 78 (0, 0)) (pp_ z.1) hb); have _ := Q_ (IsS87.below (show IsS87 w0 (cB.setCell ⟨x, 3, none⟩ (.int .i64 ay)) g F bd be from qs87_4_ y.1 u.1 v.1 t.1 A.1) hb); have _ := Q_ (KeepBut.trans (qk4_ HK.1 B.1 D.1 G.1 ab.1) (KeepBut.of_below hb g none) (.inl rfl)); have _ := Q_ (below_step (qb5_ HB.1 (IsS87.ge y.1) J.1 L.1 T.1 aq.1) hb); clear j d s r l z y HK HB; rename_i j d s r l z y HK HB; (try clear hb)))
  go_roundg kj56
  case measure => have := a5.1; have := aY.1; have := a3.1; omega
  case rel => exact ⟨(wrap64 (aw - 1)), (bd), (be), (a), (.slice (some M) a.length Q), el_, H', ⟨by have := a5.1; have := aY.1; have := a3.1; omega⟩, ⟨pr_ j.1⟩, ⟨pr_ (Kd.R_mono d.1 (fun _ hk => trivial))⟩, ⟨pk_ s.1⟩, ⟨pk_ r.1⟩, ⟨pk_ l.1⟩, ⟨qs87_4_ y.1 u.1 v.1 t.1 A.1⟩, ⟨qk4_ HK.1 B.1 D.1 G.1 ab.1⟩, ⟨qb5_ HB.1 (IsS87.ge y.1) J.1 L.1 T.1 aq.1⟩⟩
 rw [if_pos bj] at H
 have a6 := decide_eq_true bj
 clear bj
 (first | rw [a6] | (simp only [i64_w, i32_w]; rw [a6]) | skip)
 have HS_ := Q_ H
 clear H
 have d1 := Y.1
 have eB := U.1
 have d2 := Z.1
 have eC := V.1
 have d3 := aa.1
 have eD := af.1
 have d4 := X.1
 have eE := t.1
 have dy := bc3_ l.1
 have d5 := ai.1
 have eF := ac.1
 have d6 := aj.1
 have eG := ae.1
 have d7 := am.1
 have eH := A.1
 have dz := bc4_ z.1
 go_upto_if 80 with (first | ((with_reducible refine gate_callee (f := 68) rfl ?_); refine gl_ (some 73) Try.func68 #[.agg #[.int .i64 I, .slice ak E.length ag, .slice (some M) a.length Q], .int .i64 ((rd_T78 a q).f0), .bool false, .int .i64 aH] ?_; (with_reducible refine (spec_MoveOf.calls kj56 I _ _ E _ _ a ((rd_T78 a q).f0) false aH cg _ ?side1 ?side2 ?side3 ?side4 cs.1).mono ?_); (case side1 => refine (Kd.R_reads' (e := 4) (base := w.heap.size) (ok := fun k_ => True) (n := E.length) (c := ag) ?_).2.2; exact (pr_ (Kd.R_mono (Kd.R_far (p := ⟨x, 3, none⟩) (Kd.R_types j.1 z.1 (by decide)) (fun _ hk => hk.2) (.int .i64 ay)) (fun _ h_ => h_.1)))); (case side2 => exact (Kd.R_reads' j.1).2.1); (case side3 => refine (Kd.R_reads' (e := 78) (base := w.heap.size) (ok := fun k_ => k_ ≠ x) (n := a.length) (c := Q) ?_).2.2; exact (by (with_reducible repeat (first | apply Kd.R_alloc | apply Kd.R_drewN | apply Kd.R_drew)); exact (Kd.R_mono (Kd.R_far (p := ⟨x, 3, none⟩) (Kd.R_mono d.1 (fun k_ hk => (⟨hk, hk⟩ : _ ∧ k_ ≠ x))) (fun _ hk => hk.2) (.int .i64 ay)) (fun _ h_ => h_.1)))); (case side4 => exact (Kd.R_reads' d.1).2.1); rintro e gT ⟨rfl, hb⟩; refine ⟨_, rfl, ?_⟩; have _ := Q_ (Kd.R_below (pr_ (Kd.R_mono (Kd.R_far (p := ⟨x, 3, none⟩) (Kd.R_types j.1 z.1 (by decide)) (fun _ hk => hk.2) (.int .i64 ay)) (fun _ h_ => h_.1))) hb); have _ := Q_ (Kd.R_below (by (with_reducible repeat (first | apply Kd.R_alloc | apply Kd.R_drewN | apply Kd.R_drew)); exact (Kd.R_mono (Kd.R_far (p := ⟨x, 3, none⟩) (Kd.R_mono d.1 (fun k_ hk => (⟨hk, hk⟩ : _ ∧ k_ ≠ x))) (fun _ hk => hk.2) (.int .i64 ay)) (fun _ h_ => h_.1))) hb); have _ := Q_ (blk_below (g := ar) (o := .cells #[.int .i64 av, .slice ax al.length aA, .slice az an.length aB] 34 (0, 0)) (pp_ s.1) hb); have _ := Q_ (blk_below (g := W) (o := .cells #[.int .i64 0, .slice none 0 0, .slice none 0 0] 34 (0, 0)) (pp_ r.1) hb); have _ := Q_ (blk_below (g := O) (o := .cells #[.int .i64 I, .slice ak E.length ag, .slice (some M) a.length Q] 34 (0, 0)) (pp_ l.1) hb); have _ := Q_ (blk_below (g := x) (o := .cells #[.int .i64 ((rd_T78 a q).f0), .bool ((rd_T78 a q).f1), .int .i64 aH, .int .i64 ay] 78 (0, 0)) (pp_ z.1) hb); have _ := Q_ (IsS87.below (show IsS87 w0 (cB.setCell ⟨x, 3, none⟩ (.int .i64 ay)) g F bd be from qs87_4_ y.1 u.1 v.1 t.1 A.1) hb); have _ := Q_ (KeepBut.trans (qk4_ HK.1 B.1 D.1 G.1 ab.1) (KeepBut.of_below hb g none) (.inl rfl)); have _ := Q_ (below_step (qb5_ HB.1 (IsS87.ge y.1) J.1 L.1 T.1 aq.1) hb); clear j d s r l z y HK HB; rename_i j d s r l z y HK HB; (try clear hb); have dA := bc3_ l.1))
 (try simp only [Act.put, s1_, s2_, s3_])
 have H := HS_.1
 clear HS_
 by_cases bk : (a.length : Int) < 12
 rotate_left
 ·rw [if_neg bk] at H
  have a7 := decide_eq_false bk
  have bo : decide (a.length < 12) = false := decide_eq_false (by omega)
  clear bk
  (first | rw [a7] | (simp only [i64_w, i32_w]; rw [a7]) | rw [bo] | skip)
  have H' := Q_ H
  clear H
  go_wp2
  go_roundg kj56
  case measure => have := a5.1; have := aY.1; have := a3.1; omega
  case rel => exact ⟨(wrap64 (aw - 1)), (bd), (be), (a), (.slice (some M) a.length Q), el_, H', ⟨by have := a5.1; have := aY.1; have := a3.1; omega⟩, ⟨pr_ j.1⟩, ⟨pr_ (Kd.R_mono d.1 (fun _ hk => trivial))⟩, ⟨pk_ s.1⟩, ⟨pk_ r.1⟩, ⟨pk_ l.1⟩, ⟨qs87_4_ y.1 u.1 v.1 t.1 A.1⟩, ⟨qk4_ HK.1 B.1 D.1 G.1 ab.1⟩, ⟨qb5_ HB.1 (IsS87.ge y.1) J.1 L.1 T.1 aq.1⟩⟩
 rw [if_pos bk] at H
 have a7 := decide_eq_true bk
 have bo : decide (a.length < 12) = true := decide_eq_true (by omega)
 clear bk
 (first | rw [a7] | (simp only [i64_w, i32_w]; rw [a7]) | rw [bo] | skip)
 by_cases bH : a.length < 4398046511104
 rotate_left
 ·rw [if_neg bH] at H
  exact nn_ H
 rw [if_pos bH] at H
 have ci := Q_ bH
 clear bH
 obtain ⟨br, hy503⟩ : ∃ y_ : List (S78), y_ = (a ++ [(⟨((rd_T78 a q).f0), ((rd_T78 a q).f1), aH, ay⟩ : S78)]) := ⟨_, rfl⟩
 replace H : (spec_l15Next.l0 kj56 (wrap64 (aw - 1)) F bd be I E br) = some (r1, r2, r3, r4, r5) := hb_ hy503 H
 have cM := Q_ hy503
 clear hy503
 have H' := Q_ H
 clear H
 have d8 := Y.1
 have eI := U.1
 have d9 := Z.1
 have eJ := V.1
 have ea := aa.1
 have eK := af.1
 have eb := X.1
 have eL := t.1
 have dB := bc3_ l.1
 have ec := ai.1
 have eM := ac.1
 have ed := aj.1
 have eN := ae.1
 have ee := am.1
 have eO := A.1
 have dC := bc4_ z.1
 go_wp2_with (first | ((with_reducible refine gate_builtin (b := .append) (xs := #[.tmp 82, .tmp 84]) rfl ?_); (try (refine gate_guard (by rfl) ?_; dsimp only)); at_builtin; refine Kd.R_append k78 w.heap.size rfl (.tmp 82) (.tmp 84) 32 78 (.agg #[(.int .i64 0), (.bool false), (.int .i64 0), (.int .i64 0)]) 32 rfl Try.underlying32 info78 rfl (by decide) (by omega) (.slice (some M) a.length Q) a (⟨((rd_T78 a q).f0), ((rd_T78 a q).f1), aH, ay⟩ : S78) [.int .i64 ((rd_T78 a q).f0), .bool ((rd_T78 a q).f1), .int .i64 aH, .int .i64 ay] (fun k_ => k_ ≠ x) (fun _ => False) rfl rfl ?aP (fun _ hk => hk.elim) ?aF ?aO (Below.refl _ _) ?aS ?aL ?_; (case aP => exact k78_mkM _ _ _ (⟨((rd_T78 a q).f0), ((rd_T78 a q).f1), aH, ay⟩ : S78)); (case aF => exact (fun k_ hk => Kd.freshB (g := x) (o := .cells #[.int .i64 ((rd_T78 a q).f0), .bool ((rd_T78 a q).f1), .int .i64 aH, .int .i64 ay] 78 (0, 0)) (pk_ z.1) k_ hk)); (case aO => exact (pr_ d.1)); (case aS => exact (keep_size (w := w) (g := g) (row := none) (qk4_ HK.1 B.1 D.1 G.1 ab.1))); (case aL => have := ci.1; omega); intro gP gU ho hb hg hat; rw [← cM.1] at ho; have _ := Q_ (Kd.R_over' (pr_ j.1) (Kd.R_typed (pr_ d.1)) (by decide) hg); have _ := Q_ (blk_grown (g := ar) (o := .cells #[.int .i64 av, .slice ax al.length aA, .slice az an.length aB] 34 (0, 0)) (pk_ s.1) hg (Kd.R_ne d.1 s.1 (by decide))); have _ := Q_ (blk_grown (g := W) (o := .cells #[.int .i64 0, .slice none 0 0, .slice none 0 0] 34 (0, 0)) (pk_ r.1) hg (Kd.R_ne d.1 r.1 (by decide))); have _ := Q_ (blk_grown (g := O) (o := .cells #[.int .i64 I, .slice ak E.length ag, .slice (some M) a.length Q] 34 (0, 0)) (pk_ l.1) hg (Kd.R_ne d.1 l.1 (by decide))); have _ := Q_ (blk_grown (g := x) (o := .cells #[.int .i64 ((rd_T78 a q).f0), .bool ((rd_T78 a q).f1), .int .i64 aH, .int .i64 ay] 78 (0, 0)) (pk_ z.1) hg (Kd.R_away d.1 (fun _ hk => hk))); have _ := Q_ (IsS87.grown (qs87_4_ y.1 u.1 v.1 t.1 A.1) hg (IsS87.own_ne y.1 d.1 (by decide))); have _ := Q_ (below_weaken (qb5_ HB.1 (IsS87.ge y.1) J.1 L.1 T.1 aq.1) HL.1 hb); have _ := Q_ (KeepBut.trans (qk4_ HK.1 B.1 D.1 G.1 ab.1) (KeepBut.of_grown hg g) (Kd.R_base2 d.1)); have _ := Q_ (ho); clear j s r l z y HB HK d; rename_i j s r l z y HB HK bT; clear ho hb hg hat; obtain ⟨bz, bE, cN⟩ := Kd.R_slice bT.1; subst cN; have dD := bc3_ l.1))
 go_roundg kj56
 case measure => have := a5.1; have := aY.1; have := a3.1; omega
 case rel => exact ⟨(wrap64 (aw - 1)), (bd), (be), (br), (.slice bz br.length bE), el_, H', ⟨by have := a5.1; have := aY.1; have := a3.1; omega⟩, ⟨pr_ (Kd.R_mono (Kd.R_far (p := ⟨O, 2, none⟩) (Kd.R_types j.1 l.1 (by decide)) (fun _ hk => hk.2) (.slice bz br.length bE)) (fun _ hk => trivial))⟩, ⟨pr_ (Kd.R_mono (Kd.R_far (p := ⟨O, 2, none⟩) (Kd.R_types bT.1 l.1 (by decide)) (fun _ hk => hk.2) (.slice bz br.length bE)) (fun _ hk => trivial))⟩, ⟨pp_ s.1⟩, ⟨pp_ r.1⟩, ⟨pp_ l.1⟩, ⟨qs87_4_ y.1 u.1 v.1 t.1 A.1⟩, ⟨qk4_ HK.1 B.1 D.1 G.1 ab.1⟩, ⟨qb5_ HB.1 (IsS87.ge y.1) J.1 L.1 T.1 aq.1⟩⟩

end Go.Proofs.Ytldcchjbaglppaa.Print
