-- Written by a program of this session (printx.py) out of the translation; Lean checks it.
import Derived.Test.YtibmehnippjakaaGreatPrint0
import Derived.Test.YtibmehnippjakaaGreatPrint17
import Derived.Test.YtibmehnippjakaaGreatPrint19
namespace Go.Proofs.YtibmehnippjakaaGreat.Print
open Go.RowKit Go.Proofs.YtibmehnippjakaaGreatW.PrintWords Go.Proofs.YtibmehnippjakaaGreatW.PrintLast Go.Proofs.YtibmehnippjakaaGreatW.PrintMore Go.Proofs.YtibmehnippjakaaGreat.Short
attribute [local go_sem] F8 Fq G5 G6 FA FH F5 Fp
set_option linter.unusedVariables false
set_option maxHeartbeats 8000000
set_option maxRecDepth 100000
set_option linter.unusedSimpArgs false
def Eu.f (k : Nat) (e : List Int) (g : Int) (h : Int) : Option (Int × List Int × List Int × Bool × Int × Int) := (EA.f k e g h).bind fun a => ((Cc.f e a.2.2.2.2.1 a.2.2.2.2.2 12).bind fun b => (if b.1 = 0 then ((D'.f e b.2.1 b.2.2 (([(-1), 9, 10] : List Int))).bind fun c => (some (c.1, a.2.1, a.2.2.1, a.2.2.2.1, c.2.1, c.2.2))) else (if b.1 = 1 then ((D'.f e b.2.1 b.2.2 (([(-1), 255, 256] : List Int))).bind fun d => (some (a.1, (([d.1] : List Int)), a.2.2.1, a.2.2.2.1, d.2.1, d.2.2))) else (if b.1 = 2 then (some (a.1, a.2.1, (([1, 2, 3, 4, 5, 6, 7] : List Int)), a.2.2.2.1, b.2.1, b.2.2)) else (some (a.1, a.2.1, a.2.2.1, a.2.2.2.1, b.2.1, b.2.2))))))
theorem Eu.mono : ∀ a b c k, LeO (Eu.f k a b c) (Eu.f (k + 1) a b c) := by
 intro a b c k
 unfold Eu.f
 exact G7 EA.mono
theorem Eu.calls (k : Nat) (g : Nat) (q : List Int) (aj : Int) (ak : Int) (r1 : Int) (r2 : List Int) (r3 : List Int) (r4 : Bool) (r5 : Int) (r6 : Int) (w0 w : World) (hI : Ae w0 w g q aj ak) (hB : Below w0.heap.size w0 w) (h : Eu.f k q aj ak = some (r1, r2, r3, r4, r5, r6)) :
  Calls Tryz.prog 116 #[.pointer (some ⟨g, 0, none⟩)] w fun e w' => ∃ v1_ v2_ : Value, e = .returned (.agg #[.int .i64 r1, v1_, v2_, .bool r4]) ∧ Kd.R (Kd.int .i64) 3 w' w.heap.size (fun k_ => some k_ ≠ (v2_ : Value).ownBlock) v1_ r2 ∧ Kd.R (Kd.int .i64) 3 w' w.heap.size (fun k_ => some k_ ≠ (v1_ : Value).ownBlock) v2_ r3 ∧ Ae w0 w' g q r5 r6 ∧ Below w0.heap.size w0 w' ∧ Aw w w' g none := by
 have hu75 := Tryz.underlying75
 have m := Q_ hI
 have HK := Q_ (Aw.refl w g none)
 have HL := Q_ hB.size
 clear hI
 have HW0 := Q_ hB.size
 have HB := Q_ hB
 clear hB
 unfold Eu.f at h
 have H := h
 clear h
 have HS_ := Q_ H
 clear H
 go_enter Tryz.func116, Tryz.ntmps116
 go_upto_region 1 with (first | (refine bg_ 2 #[.int .i64 0, .slice none 0 0, .slice none 0 0, .bool false] 75 ?_; intro i hg w2 hbox hb; have _ := Q_ (Ae.below (D3 m.1) hb); have _ := Q_ (Aw.trans (Gi HK.1) (Aw.of_below hb g none) (.inl rfl)); have _ := Q_ (AD (Hg HB.1 (Ae.ge m.1)) hb); have a := Q_ (hbox); have n := Q_ ((by rw [hg]; exact (DN (w := w) (g := g) (row := none) (Gi HK.1)) : w.heap.size ≤ i)); have u := Q_ (Nat.le_trans HW0.1 n.1); have b := Q_ ((by rw [hg]; exact Nat.ne_of_lt (Ae.lt (show Ae w0 _ g q aj ak from D3 m.1)) : g ≠ i)); have x := Q_ b.1.symm; clear m HK HB; rename_i m HK HB; clear hb hbox hg))
 (try simp only [Act.put, s1_, s2_, s3_])
 have H := HS_.1
 clear HS_
 obtain ⟨⟨F, I, G, t, al, am⟩, A3, H⟩ := bs_ H
 (try dsimp only at H)
 have HS_ := Q_ H
 clear H
 go_upto_region 2 with (first | (refine gk_ 159 5 Tryz.func159 #[.pointer (some ⟨g, 0, none⟩)] ?_; (with_reducible refine (EA.calls k g q aj ak F I G t al am w0 _ ?side1 ?side2 A3.1).mono ?_); (case side1 => exact HQ m.1 b.1); (case side2 => exact Jo HB.1 (Ae.ge m.1) u.1); rintro e w4 ⟨bF, bG, rfl, aV, aW, hi, hb, hk⟩; refine ⟨_, rfl, ?_⟩; have _ := Q_ (Aw.blk hk (g' := i) (o := .cells #[.int .i64 0, .slice none 0 0, .slice none 0 0, .bool false] 75 (0, 0)) (pk_ a.1) x.1 (by simp)); have _ := Q_ (Kd.BV aV (DN (w := w) (g := g) (row := none) (JH HK.1 n.1))); have _ := Q_ (Kd.BV aW (DN (w := w) (g := g) (row := none) (JH HK.1 n.1))); have _ := Q_ (Aw.trans (JH HK.1 n.1) hk (.inl rfl)); have _ := Q_ (hb); have _ := Q_ (hi); clear a HK HB m; rename_i a j l HK HB m; (try clear hb hk hi aV aW)) | (refine bg_ 3 #[.int .i64 0, .slice none 0 0, .slice none 0 0, .bool false] 75 ?_; intro E hg w5 hbox hb; have _ := Q_ (Kd.Bv (pr_ j.1) hb); have _ := Q_ (Kd.Bv (pr_ l.1) hb); have _ := Q_ (Ae.below (HQ m.1 b.1) hb); have _ := Q_ (bb_ a.1 hb); have _ := Q_ (Aw.trans (JH HK.1 n.1) (Aw.of_below hb g none) (.inl rfl)); have _ := Q_ (AD (Jo HB.1 (Ae.ge m.1) u.1) hb); have d := Q_ (hbox); have r := Q_ ((by rw [hg]; exact (DN (w := w) (g := g) (row := none) (JH HK.1 n.1)) : w.heap.size ≤ E)); have A := Q_ (Nat.le_trans HW0.1 r.1); have v := Q_ (nb_ hg a); have C := Q_ v.1.symm; have c := Q_ ((by rw [hg]; exact Nat.ne_of_lt (Ae.lt (show Ae w0 _ g q al am from HQ m.1 b.1)) : g ≠ E)); have y := Q_ c.1.symm; clear j l m a HK HB; rename_i j l m a HK HB; clear hb hbox hg; have bB := C.1; have bD := v.1; have bC := y.1; have bE := c.1; have bA := E8 d.1; obtain ⟨Z, aa, a2⟩ := Kd.Bo j.1; subst a2; obtain ⟨L, O, aQ⟩ := Kd.Bo l.1; subst aQ))
 (try simp only [Act.put, s1_, s2_, s3_])
 have H := HS_.1
 clear HS_
 obtain ⟨⟨z, J, K⟩, aZ, H⟩ := bs_ H
 (try dsimp only at H)
 have HS_ := Q_ H
 clear H
 go_upto_if 8 with (first | (refine gk_ 77 7 Tryz.func77 #[.pointer (some ⟨g, 0, none⟩), .int .i64 12] ?_; (with_reducible refine (Cc.calls g q al am 12 z J K w0 _ ?side1 ?side2 aZ.1).mono ?_); (case side1 => exact Bz m.1 b.1 c.1); (case side2 => exact Fo HB.1 (Ae.ge m.1) u.1 A.1); rintro e bM ⟨rfl, hi, hb, hk⟩; refine ⟨_, rfl, ?_⟩; have _ := Q_ (Aw.blk hk (g' := i) (o := .cells #[.int .i64 0, .slice none 0 0, .slice none 0 0, .bool false] 75 (0, 0)) (pp_ a.1) x.1 (by simp)); have _ := Q_ (Kd.Ax (Kd.Fg (Ae.apart (show Ae w0 _ g q al am from Bz m.1 b.1 c.1) (pr_ (Ir j.1 d.1)) (by decide)) hk (fun _ h => h.2)) (fun _ h => h.1)); have _ := Q_ (Kd.Ax (Kd.Fg (Ae.apart (show Ae w0 _ g q al am from Bz m.1 b.1 c.1) (pr_ (Ir l.1 d.1)) (by decide)) hk (fun _ h => h.2)) (fun _ h => h.1)); have _ := Q_ (Aw.blk hk (g' := E) (o := .cells #[.int .i64 F, .slice Z I.length aa, .slice L G.length O, .bool t] 75 (0, 0)) (pp_ d.1) y.1 (by simp)); have _ := Q_ (Aw.trans (GV HK.1 n.1 r.1) hk (.inl rfl)); have _ := Q_ (hb); have _ := Q_ (hi); clear a j l d HK HB m; rename_i a j l d HK HB m; (try clear hb hk hi)))
 (try simp only [Act.put, s1_, s2_, s3_])
 have H := HS_.1
 clear HS_
 by_cases an : z = 0
 ·rw [if_pos an] at H
  have U : (z == 0) = true := beq_iff_eq.mpr an
  have V : (z != 0) = false := bne_eq_false_iff_eq.mpr an
  clear an
  (first | rw [U] | (simp only [E4, E']; rw [U]) | rw [V] | (have c_ := V; rw [bne] at c_; rw [c_]; clear c_) | skip)
  obtain ⟨ay, hy932⟩ : ∃ y_ : List Int, y_ = (([(-1), 9, 10] : List Int)) := ⟨_, rfl⟩
  replace H : ((D'.f q J K ay).bind fun Q => (some (Q.1, I, G, t, Q.2.1, Q.2.2))) = some (r1, r2, r3, r4, r5, r6) := hb_ hy932 H
  have au := Q_ hy932
  clear hy932
  obtain ⟨⟨ab, aX, aY⟩, a0, H⟩ := bs_ H
  (try dsimp only at H)
  simp only [Option.some.injEq, Prod.mk.injEq] at H
  obtain ⟨rfl, rfl, rfl, rfl, rfl, rfl⟩ := H
  go_wp2_with (first | (refine Ie .i64 3 11 ([(-1), 9, 10] : List Int) ?_; intro bH bN W hb; rw [← au.1] at W; have _ := Q_ (Kd.B0 (pr_ j.1) (Kd.BJ W) hb); have _ := Q_ (Kd.B0 (pr_ l.1) (Kd.BJ W) hb); have _ := Q_ (Kd.BV (Kd.B8 (Kd.B8 W (Kd.Dj (pr_ j.1))) (Kd.Dj (pr_ l.1))) (DN (w := w) (g := g) (row := none) (GV HK.1 n.1 r.1))); have _ := Q_ (Ae.below (Bz m.1 b.1 c.1) hb); have _ := Q_ (bb_ a.1 hb); have _ := Q_ (bb_ d.1 hb); have _ := Q_ (Aw.trans (GV HK.1 n.1 r.1) (Aw.of_below hb g none) (.inl rfl)); have _ := Q_ (AD (Fo HB.1 (Ae.ge m.1) u.1 A.1) hb); clear j l m a d HK HB; rename_i j l P m a d HK HB; clear hb W; obtain ⟨aM, aO, aR⟩ := Kd.Bo P.1; subst aR) | (refine gk_ 45 12 Tryz.func45 #[.pointer (some ⟨g, 0, none⟩), .slice aM ay.length aO] ?_; (with_reducible refine (D'.calls g q J K _ _ ay ab aX aY w0 _ ?side1 ?side2 ?side3 ?side4 ?side5 a0.1).mono ?_); (case side1 => exact Bz m.1 b.1 c.1); (case side2 => exact Fo HB.1 (Ae.ge m.1) u.1 A.1); (case side3 => exact pc_ ((Kd.BH P.1).2.2)); (case side4 => exact (Kd.BH P.1).2.1); (case side5 => exact Ig (Ae.own_ne m.1 P.1 (by decide))); rintro e bO ⟨rfl, hi, hb, hk⟩; refine ⟨_, rfl, ?_⟩; have _ := Q_ (Aw.blk hk (g' := i) (o := .cells #[.int .i64 0, .slice none 0 0, .slice none 0 0, .bool false] 75 (0, 0)) (pk_ a.1) x.1 (by simp)); have _ := Q_ (Kd.Ax (Kd.Fg (Ae.apart (show Ae w0 _ g q J K from Bz m.1 b.1 c.1) (pr_ j.1) (by decide)) hk (fun _ h => h.2)) (fun _ h => h.1)); have _ := Q_ (Kd.Ax (Kd.Fg (Ae.apart (show Ae w0 _ g q J K from Bz m.1 b.1 c.1) (pr_ l.1) (by decide)) hk (fun _ h => h.2)) (fun _ h => h.1)); have _ := Q_ (Aw.blk hk (g' := E) (o := .cells #[.int .i64 F, .slice Z I.length aa, .slice L G.length O, .bool t] 75 (0, 0)) (pk_ d.1) y.1 (by simp)); have _ := Q_ (Kd.Ax (Kd.Fg (Ae.apart (show Ae w0 _ g q J K from Bz m.1 b.1 c.1) (pr_ P.1) (by decide)) hk (fun _ h => h.2)) (fun _ h => h.1)); have _ := Q_ (Aw.trans (GV HK.1 n.1 r.1) hk (.inl rfl)); have _ := Q_ (hb); have _ := Q_ (hi); clear a j l d P HK HB m; rename_i a j l d P HK HB m; (try clear hb hk hi); have bb := C.1; have bn := v.1; have bc := y.1; have bo := c.1; have a3 := E8 d.1; have bd := x.1; have bp := b.1; have a4 := E8 a.1))
  refine bodyPost_ret (results_cell_row rfl _ _ i 75 #[.int .i64 ab, .slice Z I.length aa, .slice L G.length O, .bool t] (0, 0) _ rfl (pp_ a.1) Tryz.underlying75 rfl (by kernel_rfl)) rfl ?_
  exact ⟨_, _, er_, pr_ (Kd.Ax (Kd.CC (p := ⟨i, 3, none⟩) (Kd.CC (p := ⟨i, 2, none⟩) (Kd.CC (p := ⟨i, 1, none⟩) (Kd.CC (p := ⟨i, 0, none⟩) (Kd.CC (p := ⟨E, 0, none⟩) (Kd.Bi (Kd.Bi j.1 d.1 (by decide)) a.1 (by decide)) (fun _ hk => hk.1.2) (.int .i64 ab)) (fun _ hk => hk.2) (.int .i64 ab)) (fun _ hk => hk.2) (.slice Z I.length aa)) (fun _ hk => hk.2) (.slice L G.length O)) (fun _ hk => hk.2) (.bool t)) (fun _ hk => hk.1.1.1)), pr_ (Kd.Ax (Kd.CC (p := ⟨i, 3, none⟩) (Kd.CC (p := ⟨i, 2, none⟩) (Kd.CC (p := ⟨i, 1, none⟩) (Kd.CC (p := ⟨i, 0, none⟩) (Kd.CC (p := ⟨E, 0, none⟩) (Kd.Bi (Kd.Bi l.1 d.1 (by decide)) a.1 (by decide)) (fun _ hk => hk.1.2) (.int .i64 ab)) (fun _ hk => hk.2) (.int .i64 ab)) (fun _ hk => hk.2) (.slice Z I.length aa)) (fun _ hk => hk.2) (.slice L G.length O)) (fun _ hk => hk.2) (.bool t)) (fun _ hk => hk.1.1.1)), Bz m.1 b.1 c.1, Fo HB.1 (Ae.ge m.1) u.1 A.1, GV HK.1 n.1 r.1⟩
 rw [if_neg an] at H
 have U : (z == 0) = false := beq_eq_false_iff_ne.mpr an
 have V : (z != 0) = true := bne_iff_ne.mpr an
 (first | rw [U] | (simp only [E4, E']; rw [U]) | rw [V] | (have c_ := V; rw [bne] at c_; rw [c_]; clear c_) | skip)
 by_cases ao : z = 1
 ·rw [if_pos ao] at H
  have aC : (z == 1) = true := beq_iff_eq.mpr ao
  have aD : (z != 1) = false := bne_eq_false_iff_eq.mpr ao
  clear ao
  obtain ⟨az, hy938⟩ : ∃ y_ : List Int, y_ = (([(-1), 255, 256] : List Int)) := ⟨_, rfl⟩
  replace H : ((D'.f q J K az).bind fun S => (some (F, (([S.1] : List Int)), G, t, S.2.1, S.2.2))) = some (r1, r2, r3, r4, r5, r6) := hb_ hy938 H
  have av := Q_ hy938
  clear hy938
  obtain ⟨⟨ac, aA, aB⟩, a1, H⟩ := bs_ H
  (try dsimp only at H)
  obtain ⟨ad, hy944⟩ : ∃ y_ : List Int, y_ = (([ac] : List Int)) := ⟨_, rfl⟩
  replace H : (some (F, ad, G, t, aA, aB)) = some (r1, r2, r3, r4, r5, r6) := hb_ hy944 H
  have aw := Q_ hy944
  clear hy944
  simp only [Option.some.injEq, Prod.mk.injEq] at H
  obtain ⟨rfl, rfl, rfl, rfl, rfl, rfl⟩ := H
  go_wp2_with (first | (refine Ie .i64 3 17 ([(-1), 255, 256] : List Int) ?_; intro bI bP X hb; rw [← av.1] at X; have _ := Q_ (Kd.B0 (pr_ j.1) (Kd.BJ X) hb); have _ := Q_ (Kd.B0 (pr_ l.1) (Kd.BJ X) hb); have _ := Q_ (Kd.BV (Kd.B8 (Kd.B8 X (Kd.Dj (pr_ j.1))) (Kd.Dj (pr_ l.1))) (DN (w := w) (g := g) (row := none) (GV HK.1 n.1 r.1))); have _ := Q_ (Ae.below (Bz m.1 b.1 c.1) hb); have _ := Q_ (bb_ a.1 hb); have _ := Q_ (bb_ d.1 hb); have _ := Q_ (Aw.trans (GV HK.1 n.1 r.1) (Aw.of_below hb g none) (.inl rfl)); have _ := Q_ (AD (Fo HB.1 (Ae.ge m.1) u.1 A.1) hb); clear j l m a d HK HB; rename_i j l B m a d HK HB; clear hb X; obtain ⟨aN, aP, aS⟩ := Kd.Bo B.1; subst aS) | (refine gk_ 45 18 Tryz.func45 #[.pointer (some ⟨g, 0, none⟩), .slice aN az.length aP] ?_; (with_reducible refine (D'.calls g q J K _ _ az ac aA aB w0 _ ?side1 ?side2 ?side3 ?side4 ?side5 a1.1).mono ?_); (case side1 => exact Bz m.1 b.1 c.1); (case side2 => exact Fo HB.1 (Ae.ge m.1) u.1 A.1); (case side3 => exact pc_ ((Kd.BH B.1).2.2)); (case side4 => exact (Kd.BH B.1).2.1); (case side5 => exact Ig (Ae.own_ne m.1 B.1 (by decide))); rintro e bQ ⟨rfl, hi, hb, hk⟩; refine ⟨_, rfl, ?_⟩; have _ := Q_ (Aw.blk hk (g' := i) (o := .cells #[.int .i64 0, .slice none 0 0, .slice none 0 0, .bool false] 75 (0, 0)) (pk_ a.1) x.1 (by simp)); have _ := Q_ (Kd.Ax (Kd.Fg (Ae.apart (show Ae w0 _ g q J K from Bz m.1 b.1 c.1) (pr_ j.1) (by decide)) hk (fun _ h => h.2)) (fun _ h => h.1)); have _ := Q_ (Kd.Ax (Kd.Fg (Ae.apart (show Ae w0 _ g q J K from Bz m.1 b.1 c.1) (pr_ l.1) (by decide)) hk (fun _ h => h.2)) (fun _ h => h.1)); have _ := Q_ (Aw.blk hk (g' := E) (o := .cells #[.int .i64 F, .slice Z I.length aa, .slice L G.length O, .bool t] 75 (0, 0)) (pk_ d.1) y.1 (by simp)); have _ := Q_ (Kd.Ax (Kd.Fg (Ae.apart (show Ae w0 _ g q J K from Bz m.1 b.1 c.1) (pr_ B.1) (by decide)) hk (fun _ h => h.2)) (fun _ h => h.1)); have _ := Q_ (Aw.trans (GV HK.1 n.1 r.1) hk (.inl rfl)); have _ := Q_ (hb); have _ := Q_ (hi); clear a j l d B HK HB m; rename_i a j l d B HK HB m; (try clear hb hk hi)) | (refine Ie .i64 3 19 ([ac] : List Int) ?_; intro bJ bR T hb; rw [← aw.1] at T; have _ := Q_ (Kd.B0 (pr_ j.1) (Kd.BJ T) hb); have _ := Q_ (Kd.B0 (pr_ l.1) (Kd.BJ T) hb); have _ := Q_ (Kd.B0 (pr_ B.1) (Kd.BJ T) hb); have _ := Q_ (Kd.BV (Kd.B8 (Kd.B8 (Kd.B8 T (Kd.Dj (pr_ j.1))) (Kd.Dj (pr_ l.1))) (Kd.Dj (pr_ B.1))) (DN (w := w) (g := g) (row := none) (GV HK.1 n.1 r.1))); have _ := Q_ (Ae.below (Bz m.1 b.1 c.1) hb); have _ := Q_ (bb_ a.1 hb); have _ := Q_ (bb_ d.1 hb); have _ := Q_ (Aw.trans (GV HK.1 n.1 r.1) (Aw.of_below hb g none) (.inl rfl)); have _ := Q_ (AD (Fo HB.1 (Ae.ge m.1) u.1 A.1) hb); clear j l B m a d HK HB; rename_i j l B aq m a d HK HB; clear hb T; obtain ⟨af, ah, aT⟩ := Kd.Bo aq.1; subst aT; have be := C.1; have bq := v.1; have bf := y.1; have br := c.1; have a5 := E8 d.1; have bg := x.1; have bs := b.1; have a6 := E8 a.1))
  refine bodyPost_ret (results_cell_row rfl _ _ i 75 #[.int .i64 F, .slice af ad.length ah, .slice L G.length O, .bool t] (0, 0) _ rfl (pp_ a.1) Tryz.underlying75 rfl (by kernel_rfl)) rfl ?_
  exact ⟨_, _, er_, pr_ (Kd.Ax (Kd.CC (p := ⟨i, 3, none⟩) (Kd.CC (p := ⟨i, 2, none⟩) (Kd.CC (p := ⟨i, 1, none⟩) (Kd.CC (p := ⟨i, 0, none⟩) (Kd.CC (p := ⟨E, 1, none⟩) (Kd.Bi (Kd.Bi aq.1 d.1 (by decide)) a.1 (by decide)) (fun _ hk => hk.1.2) (.slice af ad.length ah)) (fun _ hk => hk.2) (.int .i64 F)) (fun _ hk => hk.2) (.slice af ad.length ah)) (fun _ hk => hk.2) (.slice L G.length O)) (fun _ hk => hk.2) (.bool t)) (fun _ hk => hk.1.1.1.2)), pr_ (Kd.Ax (Kd.CC (p := ⟨i, 3, none⟩) (Kd.CC (p := ⟨i, 2, none⟩) (Kd.CC (p := ⟨i, 1, none⟩) (Kd.CC (p := ⟨i, 0, none⟩) (Kd.CC (p := ⟨E, 1, none⟩) (Kd.Bi (Kd.Bi l.1 d.1 (by decide)) a.1 (by decide)) (fun _ hk => hk.1.2) (.slice af ad.length ah)) (fun _ hk => hk.2) (.int .i64 F)) (fun _ hk => hk.2) (.slice af ad.length ah)) (fun _ hk => hk.2) (.slice L G.length O)) (fun _ hk => hk.2) (.bool t)) (fun _ hk => hk.1.1.2)), Bz m.1 b.1 c.1, Fo HB.1 (Ae.ge m.1) u.1 A.1, GV HK.1 n.1 r.1⟩
 rw [if_neg ao] at H
 have aC : (z == 1) = false := beq_eq_false_iff_ne.mpr ao
 have aD : (z != 1) = true := bne_iff_ne.mpr ao
 by_cases ap : z = 2
 rotate_left
 ·rw [if_neg ap] at H
  have aE : (z == 2) = false := beq_eq_false_iff_ne.mpr ap
  have aF : (z != 2) = true := bne_iff_ne.mpr ap
  simp only [Option.some.injEq, Prod.mk.injEq] at H
  obtain ⟨rfl, rfl, rfl, rfl, rfl, rfl⟩ := H
  have bh := C.1
  have bt := v.1
  have bi := y.1
  have bu := c.1
  have a7 := E8 d.1
  have bj := x.1
  have bv := b.1
  have a8 := E8 a.1
  go_wp2
  refine bodyPost_ret (results_cell_row rfl _ _ i 75 #[.int .i64 F, .slice Z I.length aa, .slice L G.length O, .bool t] (0, 0) _ rfl (pp_ a.1) Tryz.underlying75 rfl (by kernel_rfl)) rfl ?_
  exact ⟨_, _, er_, pr_ (Ir j.1 a.1), pr_ (Ir l.1 a.1), Bz m.1 b.1 c.1, Fo HB.1 (Ae.ge m.1) u.1 A.1, GV HK.1 n.1 r.1⟩
 rw [if_pos ap] at H
 have aE : (z == 2) = true := beq_iff_eq.mpr ap
 have aF : (z != 2) = false := bne_eq_false_iff_eq.mpr ap
 clear ap
 obtain ⟨ae, hy947⟩ : ∃ y_ : List Int, y_ = (([1, 2, 3, 4, 5, 6, 7] : List Int)) := ⟨_, rfl⟩
 replace H : (some (F, I, ae, t, J, K)) = some (r1, r2, r3, r4, r5, r6) := hb_ hy947 H
 have ax := Q_ hy947
 clear hy947
 simp only [Option.some.injEq, Prod.mk.injEq] at H
 obtain ⟨rfl, rfl, rfl, rfl, rfl, rfl⟩ := H
 go_wp2_with (first | (refine Ie .i64 3 23 ([1, 2, 3, 4, 5, 6, 7] : List Int) ?_; intro bK bS Y hb; rw [← ax.1] at Y; have _ := Q_ (Kd.B0 (pr_ j.1) (Kd.BJ Y) hb); have _ := Q_ (Kd.B0 (pr_ l.1) (Kd.BJ Y) hb); have _ := Q_ (Kd.BV (Kd.B8 (Kd.B8 Y (Kd.Dj (pr_ j.1))) (Kd.Dj (pr_ l.1))) (DN (w := w) (g := g) (row := none) (GV HK.1 n.1 r.1))); have _ := Q_ (Ae.below (Bz m.1 b.1 c.1) hb); have _ := Q_ (bb_ a.1 hb); have _ := Q_ (bb_ d.1 hb); have _ := Q_ (Aw.trans (GV HK.1 n.1 r.1) (Aw.of_below hb g none) (.inl rfl)); have _ := Q_ (AD (Fo HB.1 (Ae.ge m.1) u.1 A.1) hb); clear j l m a d HK HB; rename_i j l ar m a d HK HB; clear hb Y; obtain ⟨ag, ai, aU⟩ := Kd.Bo ar.1; subst aU; have bk := C.1; have bw := v.1; have bl := y.1; have bx := c.1; have a9 := E8 d.1; have bm := x.1; have bz := b.1; have ba := E8 a.1))
 refine bodyPost_ret (results_cell_row rfl _ _ i 75 #[.int .i64 F, .slice Z I.length aa, .slice ag ae.length ai, .bool t] (0, 0) _ rfl (pp_ a.1) Tryz.underlying75 rfl (by kernel_rfl)) rfl ?_
 exact ⟨_, _, er_, pr_ (Kd.Ax (Kd.CC (p := ⟨i, 3, none⟩) (Kd.CC (p := ⟨i, 2, none⟩) (Kd.CC (p := ⟨i, 1, none⟩) (Kd.CC (p := ⟨i, 0, none⟩) (Kd.CC (p := ⟨E, 2, none⟩) (Kd.Bi (Kd.Bi j.1 d.1 (by decide)) a.1 (by decide)) (fun _ hk => hk.1.2) (.slice ag ae.length ai)) (fun _ hk => hk.2) (.int .i64 F)) (fun _ hk => hk.2) (.slice Z I.length aa)) (fun _ hk => hk.2) (.slice ag ae.length ai)) (fun _ hk => hk.2) (.bool t)) (fun _ hk => hk.1.1.2)), pr_ (Kd.Ax (Kd.CC (p := ⟨i, 3, none⟩) (Kd.CC (p := ⟨i, 2, none⟩) (Kd.CC (p := ⟨i, 1, none⟩) (Kd.CC (p := ⟨i, 0, none⟩) (Kd.CC (p := ⟨E, 2, none⟩) (Kd.Bi (Kd.Bi ar.1 d.1 (by decide)) a.1 (by decide)) (fun _ hk => hk.1.2) (.slice ag ae.length ai)) (fun _ hk => hk.2) (.int .i64 F)) (fun _ hk => hk.2) (.slice Z I.length aa)) (fun _ hk => hk.2) (.slice ag ae.length ai)) (fun _ hk => hk.2) (.bool t)) (fun _ hk => hk.1.1.1.2)), Bz m.1 b.1 c.1, Fo HB.1 (Ae.ge m.1) u.1 A.1, GV HK.1 n.1 r.1⟩
def EC.f (k : Nat) (d : List Int) (j : Int) (l : Int) : Option (List Int × List Int × (List (S75)) × Int × Int × Int) := (Bg.f k d j l).bind fun a => ((Cc.f d a.2.2.2.2.1 a.2.2.2.2.2 10).bind fun b => (if b.1 = 0 then ((Eo.f k d b.2.1 b.2.2).bind fun e => (some (e.1, a.2.1, a.2.2.1, a.2.2.2.1, e.2.1, e.2.2))) else (if b.1 = 1 then ((D'.f d b.2.1 b.2.2 (([(-1), 10, 255, 256] : List Int))).bind fun g => (some (a.1, (([g.1] : List Int)), a.2.2.1, a.2.2.2.1, g.2.1, g.2.2))) else (if b.1 = 2 then (some (a.1, (([1, 2, 3, 4, 5, 6] : List Int)), a.2.2.1, a.2.2.2.1, b.2.1, b.2.2)) else (if b.1 = 3 then ((D'.f d b.2.1 b.2.2 (([(-1), 5, 6] : List Int))).bind fun h => (some (a.1, a.2.1, a.2.2.1, h.1, h.2.1, h.2.2))) else (if b.1 = 4 then ((Eu.f k d b.2.1 b.2.2).bind fun c => ((some (([(⟨c.1, c.2.1, c.2.2.1, c.2.2.2.1⟩ : S75), (⟨0, ([] : List Int), ([] : List Int), false⟩ : S75)] : List (S75)) : List (S75))).bind fun i => (if a.2.2.1.length + i.length < 2199023255552 then (some (a.1, a.2.1, (a.2.2.1 ++ i), a.2.2.2.1, c.2.2.2.2.1, c.2.2.2.2.2)) else (none)))) else (some (a.1, a.2.1, a.2.2.1, a.2.2.2.1, b.2.1, b.2.2))))))))
theorem EC.mono : ∀ a b c k, LeO (EC.f k a b c) (EC.f (k + 1) a b c) := by
 intro a b c k
 unfold EC.f
 exact Jz Eo.mono Eu.mono Bg.mono
def EC.T12 : Bool × List (List Nat × List Nat) := (true, [([], []), ([0], [0]), ([], []), ([2], [2]), ([], []), ([3, 4], [3, 4]), ([1, 5, 3], [1, 5]), ([0, 1, 2, 3, 4, 5, 6], []), ([7, 6, 6, 0, 1, 2, 3, 4, 5, 6], [6, 7])])
def EC.B12 : List Nat := [0, 1, 0, 4, 0, 28, 63, 127, 255]
theorem EC.tab12 : rtab .any (opsOf Tryz.f76 12) = EC.T12 := by kernel_rfl
theorem EC.bits12 : Fa EC.T12.2 EC.B12 = true := by kernel_rfl
theorem EC.calls (k : Nat) (g : Nat) (F : List Int) (aM : Int) (aN : Int) (r1 : List Int) (r2 : List Int) (r3 : List (S75)) (r4 : Int) (r5 : Int) (r6 : Int) (w0 w : World) (hI : Ae w0 w g F aM aN) (hB : Below w0.heap.size w0 w) (h : EC.f k F aM aN = some (r1, r2, r3, r4, r5, r6)) :
  Calls Tryz.prog 76 #[.pointer (some ⟨g, 0, none⟩)] w fun e w' => ∃ v0_ v1_ v2_ : Value, e = .returned (.agg #[v0_, v1_, v2_, .int .i64 r4]) ∧ Kd.R (Kd.int .i64) 3 w' w.heap.size (fun k_ => (w.heap.size ≤ k_) ∧ some k_ ≠ (v1_ : Value).ownBlock) v0_ r1 ∧ Kd.R (Kd.int .i64) 3 w' w.heap.size (fun k_ => (w.heap.size ≤ k_) ∧ some k_ ≠ (v0_ : Value).ownBlock) v1_ r2 ∧ Kd.N k75 75 w' w.heap.size (fun k_ => (w.heap.size ≤ k_) ∧ some k_ ≠ (v0_ : Value).ownBlock ∧ some k_ ≠ (v1_ : Value).ownBlock) v2_ r3 ∧ Ae w0 w' g F r5 r6 ∧ Below w0.heap.size w0 w' ∧ Aw w w' g none := by
 have hu34 := Tryz.underlying34
 have hu75 := Tryz.underlying75
 have s := Q_ hI
 have HK := Q_ (Aw.refl w g none)
 have HL := Q_ hB.size
 clear hI
 have HW0 := Q_ hB.size
 have HB := Q_ hB
 clear hB
 unfold EC.f at h
 have H := h
 clear h
 have HS_ := Q_ H
 clear H
 go_enter Tryz.func76, Tryz.ntmps76
 go_upto_region 1 with (first | (refine bg_ 2 #[.slice none 0 0, .slice none 0 0, .slice none 0 0, .int .i64 0] 34 ?_; intro a hg w2 hbox hb; have _ := Q_ (Ae.below (D3 s.1) hb); have _ := Q_ (Aw.trans (Gi HK.1) (Aw.of_below hb g none) (.inl rfl)); have _ := Q_ (AD (Hg HB.1 (Ae.ge s.1)) hb); have b := Q_ (hbox); have t := Q_ ((by rw [hg]; exact (DN (w := w) (g := g) (row := none) (Gi HK.1)) : w.heap.size ≤ a)); have L := Q_ (Nat.le_trans HW0.1 t.1); have d := Q_ ((by rw [hg]; exact Nat.ne_of_lt (Ae.lt (show Ae w0 _ g F aM aN from D3 s.1)) : g ≠ a)); have P := Q_ d.1.symm; clear s HK HB; rename_i s HK HB; clear hb hbox hg))
 (try simp only [Act.put, s1_, s2_, s3_])
 have H := HS_.1
 clear HS_
 obtain ⟨⟨u, y, v, D, aP, aQ⟩, A3, H⟩ := bs_ H
 (try dsimp only at H)
 have HS_ := Q_ H
 clear H
 go_upto_region 2 with (first | (refine gk_ 114 5 Tryz.func114 #[.pointer (some ⟨g, 0, none⟩)] ?_; (with_reducible refine (Bg.calls k g F aM aN u y v D aP aQ w0 _ ?side1 ?side2 A3.1).mono ?_); (case side1 => exact HQ s.1 d.1); (case side2 => exact Jo HB.1 (Ae.ge s.1) L.1); rintro e w4 ⟨bW, bX, c5, rfl, af, aK, bR, hi, hb, hk⟩; refine ⟨_, rfl, ?_⟩; have _ := Q_ (Aw.blk hk (g' := a) (o := .cells #[.slice none 0 0, .slice none 0 0, .slice none 0 0, .int .i64 0] 34 (0, 0)) (pk_ b.1) P.1 (by simp)); have _ := Q_ (Kd.BV (Kd.HN (M := fun k_ => (w.heap.size ≤ k_)) af (DN (w := w) (g := g) (row := none) (JH HK.1 t.1)) (fun k_ h_ => h_)) (DN (w := w) (g := g) (row := none) (JH HK.1 t.1))); have _ := Q_ (Kd.BV (Kd.HN (M := fun k_ => (w.heap.size ≤ k_)) aK (DN (w := w) (g := g) (row := none) (JH HK.1 t.1)) (fun k_ h_ => h_)) (DN (w := w) (g := g) (row := none) (JH HK.1 t.1))); have _ := Q_ (Kd.IW (Kd.DW (ok' := fun k_ => (w.heap.size ≤ k_) ∧ some k_ ≠ (bW : Value).ownBlock ∧ some k_ ≠ (bX : Value).ownBlock ∧ k_ ≠ a ∧ k_ ≠ g) (Kd.S_N (Kd.Jl bR)) (fun k_ hk_ => ⟨(Nat.le_trans (DN (w := w) (g := g) (row := none) (JH HK.1 t.1)) hk_.2.1), hk_.1.1, hk_.1.2, (Kd.Gy (g := a) (o := .cells #[.slice none 0 0, .slice none 0 0, .slice none 0 0, .int .i64 0] 34 (0, 0)) (pk_ b.1) k_ hk_.2.1), (Ae.fresh (HQ s.1 d.1) k_ hk_.2.1)⟩)) (DN (w := w) (g := g) (row := none) (JH HK.1 t.1))); have _ := Q_ (Aw.trans (JH HK.1 t.1) hk (.inl rfl)); have _ := Q_ (hb); have _ := Q_ (hi); clear b HK HB s; rename_i b q r m HK HB s; (try clear hb hk hi af aK bR)) | (refine bg_ 3 #[.slice none 0 0, .slice none 0 0, .slice none 0 0, .int .i64 0] 34 ?_; intro l hg w5 hbox hb; have _ := Q_ (Kd.Bv (pr_ q.1) hb); have _ := Q_ (Kd.Bv (pr_ r.1) hb); have _ := Q_ (Kd.FG (Kd.IH (px_ m.1) l (Nat.le_of_eq hg.symm)) hb); have _ := Q_ (Ae.below (HQ s.1 d.1) hb); have _ := Q_ (bb_ b.1 hb); have _ := Q_ (Aw.trans (JH HK.1 t.1) (Aw.of_below hb g none) (.inl rfl)); have _ := Q_ (AD (Jo HB.1 (Ae.ge s.1) L.1) hb); have c := Q_ (hbox); have x := Q_ ((by rw [hg]; exact (DN (w := w) (g := g) (row := none) (JH HK.1 t.1)) : w.heap.size ≤ l)); have T := Q_ (Nat.le_trans HW0.1 x.1); have O := Q_ (nb_ hg b); have U := Q_ O.1.symm; have j := Q_ ((by rw [hg]; exact Nat.ne_of_lt (Ae.lt (show Ae w0 _ g F aP aQ from HQ s.1 d.1)) : g ≠ l)); have Q := Q_ j.1.symm; clear q r m s b HK HB; rename_i q r m s b HK HB; clear hb hbox hg; obtain ⟨G, I, b3⟩ := Kd.Bo q.1; subst b3; have cZ := U.1; have c1 := O.1; have c0 := Q.1; have c2 := j.1; have cY := E8 c.1; obtain ⟨z, A, bI⟩ := Kd.Bo r.1; subst bI; obtain ⟨B, C, bJ⟩ := Kd.IM m.1; subst bJ))
 (try simp only [Act.put, s1_, s2_, s3_])
 have H := HS_.1
 clear HS_
 obtain ⟨⟨J, W, X⟩, bY, H⟩ := bs_ H
 (try dsimp only at H)
 have HS_ := Q_ H
 clear H
 go_upto_if 8 with (first | (refine gk_ 77 7 Tryz.func77 #[.pointer (some ⟨g, 0, none⟩), .int .i64 10] ?_; (with_reducible refine (Cc.calls g F aP aQ 10 J W X w0 _ ?side1 ?side2 bY.1).mono ?_); (case side1 => exact Bz s.1 d.1 j.1); (case side2 => exact Fo HB.1 (Ae.ge s.1) L.1 T.1); rintro e cT ⟨rfl, hi, hb, hk⟩; refine ⟨_, rfl, ?_⟩; have _ := Q_ (Aw.blk hk (g' := a) (o := .cells #[.slice none 0 0, .slice none 0 0, .slice none 0 0, .int .i64 0] 34 (0, 0)) (pp_ b.1) P.1 (by simp)); have _ := Q_ (Kd.Ax (Kd.Fg (Ae.apart (show Ae w0 _ g F aP aQ from Bz s.1 d.1 j.1) (pr_ (Ir q.1 c.1)) (by decide)) hk (fun _ h => h.2)) (fun _ h => h.1)); have _ := Q_ (Kd.Ax (Kd.Fg (Ae.apart (show Ae w0 _ g F aP aQ from Bz s.1 d.1 j.1) (pr_ (Ir r.1 c.1)) (by decide)) hk (fun _ h => h.2)) (fun _ h => h.1)); have _ := Q_ (Kd.DW (Kd.Lo (Kd.DW (ok := fun k_ => ((((w.heap.size ≤ k_)) ∧ (some k_ ≠ (.slice G u.length I : Value).ownBlock ∧ (some k_ ≠ (.slice z y.length A : Value).ownBlock ∧ (k_ ≠ a ∧ k_ ≠ g)))) ∧ k_ ≠ l)) (by (with_reducible repeat (first | apply Kd.F4 | apply Kd.F3 | apply Kd.E6)); exact (Kd.DW (Kd.EY (p := ⟨l, 3, none⟩) (Kd.EY (p := ⟨l, 2, none⟩) (Kd.EY (p := ⟨l, 1, none⟩) (Kd.EY (p := ⟨l, 0, none⟩) (Kd.DW m.1 (fun k_ hk => (⟨hk, hk.2⟩ : _ ∧ k_ ≠ l))) (fun _ hk => hk.2) (.slice G u.length I)) (fun _ hk => hk.2) (.slice z y.length A)) (fun _ hk => hk.2) (.slice B v.length C)) (fun _ hk => hk.2) (.int .i64 D)) (fun _ h_ => h_.1))) (fun k_ hk_ => (⟨hk_, hk_.1.2.2.2.2⟩ : _ ∧ k_ ≠ g))) hk (fun _ h => h.2)) (fun _ h => h.1)); have _ := Q_ (Aw.blk hk (g' := l) (o := .cells #[.slice G u.length I, .slice z y.length A, .slice B v.length C, .int .i64 D] 34 (0, 0)) (pp_ c.1) Q.1 (by simp)); have _ := Q_ (Aw.trans (GV HK.1 t.1 x.1) hk (.inl rfl)); have _ := Q_ (hb); have _ := Q_ (hi); clear b q r m c HK HB s; rename_i b q r m c HK HB s; (try clear hb hk hi)))
 (try simp only [Act.put, s1_, s2_, s3_])
 have H := HS_.1
 clear HS_
 by_cases aU : J = 0
 ·rw [if_pos aU] at H
  have av : (J == 0) = true := beq_iff_eq.mpr aU
  have aw : (J != 0) = false := bne_eq_false_iff_eq.mpr aU
  clear aU
  (first | rw [av] | (simp only [E4, E']; rw [av]) | rw [aw] | (have c_ := aw; rw [bne] at c_; rw [c_]; clear c_) | skip)
  obtain ⟨⟨al, bS, bT⟩, bZ, H⟩ := bs_ H
  (try dsimp only at H)
  simp only [Option.some.injEq, Prod.mk.injEq] at H
  obtain ⟨rfl, rfl, rfl, rfl, rfl, rfl⟩ := H
  go_wp2_with (first | (refine gk_ 115 11 Tryz.func115 #[.pointer (some ⟨g, 0, none⟩)] ?_; (with_reducible refine (Eo.calls k g F W X al bS bT w0 _ ?side1 ?side2 bZ.1).mono ?_); (case side1 => exact Bz s.1 d.1 j.1); (case side2 => exact Fo HB.1 (Ae.ge s.1) L.1 T.1); rintro e de ⟨c6, rfl, af, hi, hb, hk⟩; refine ⟨_, rfl, ?_⟩; have _ := Q_ (Aw.blk hk (g' := a) (o := .cells #[.slice none 0 0, .slice none 0 0, .slice none 0 0, .int .i64 0] 34 (0, 0)) (pk_ b.1) P.1 (by simp)); have _ := Q_ (Kd.Ax (Kd.E7 (Kd.Hw (Ae.apart (show Ae w0 _ g F W X from Bz s.1 d.1 j.1) (pr_ q.1) (by decide)) hk) (Kd.BJ af)) (fun _ h_ => h_.1)); have _ := Q_ (Kd.Ax (Kd.E7 (Kd.Hw (Ae.apart (show Ae w0 _ g F W X from Bz s.1 d.1 j.1) (pr_ r.1) (by decide)) hk) (Kd.BJ af)) (fun _ h_ => h_.1)); have _ := Q_ (Kd.DW (Kd.Ij (Kd.K0 (Kd.DW (ok := fun k_ => ((((w.heap.size ≤ k_)) ∧ (some k_ ≠ (.slice G u.length I : Value).ownBlock ∧ (some k_ ≠ (.slice z y.length A : Value).ownBlock ∧ (k_ ≠ a ∧ k_ ≠ g)))) ∧ k_ ≠ l)) (px_ m.1) (fun k_ hk_ => (⟨hk_, hk_.1.2.2.2.2⟩ : _ ∧ k_ ≠ g))) hk) (Kd.BJ af)) (fun _ h_ => h_.1)); have _ := Q_ (Aw.blk hk (g' := l) (o := .cells #[.slice G u.length I, .slice z y.length A, .slice B v.length C, .int .i64 D] 34 (0, 0)) (pk_ c.1) Q.1 (by simp)); have a3 := Q_ (Kd.BV (Kd.B8 (Kd.B8 (Kd.HN (M := fun k_ => (w.heap.size ≤ k_)) af (DN (w := w) (g := g) (row := none) (GV HK.1 t.1 x.1)) (fun k_ h_ => h_)) (Kd.Dj (pr_ q.1))) (Kd.Dj (pr_ r.1))) (DN (w := w) (g := g) (row := none) (GV HK.1 t.1 x.1))); have _ := Q_ (Aw.trans (GV HK.1 t.1 x.1) hk (.inl rfl)); have _ := Q_ (hb); have _ := Q_ (hi); clear b q r m c HK HB s; rename_i b q r m c HK HB s; (try clear hb hk hi af); obtain ⟨ap, ax, bK⟩ := Kd.Bo a3.1; subst bK; have ch := U.1; have cz := O.1; have ci := Q.1; have cA := j.1; have b4 := E8 c.1; have cj := P.1; have cB := d.1; have b5 := E8 b.1))
  refine bodyPost_ret (results_cell_row rfl _ _ a 34 #[.slice ap al.length ax, .slice z y.length A, .slice B v.length C, .int .i64 D] (0, 0) _ rfl (pp_ b.1) Tryz.underlying34 rfl (by kernel_rfl)) rfl ?_
  exact ⟨_, _, _, er_, by (with_reducible repeat (first | apply Kd.Ef | apply Kd.Ed | apply Kd.EU)); exact Kd.Ax (Kd.CC (p := ⟨a, 3, none⟩) (Kd.CC (p := ⟨a, 2, none⟩) (Kd.CC (p := ⟨a, 1, none⟩) (Kd.CC (p := ⟨a, 0, none⟩) (Kd.CC (p := ⟨l, 0, none⟩) (Kd.Bi (Kd.Bi a3.1 c.1 (by decide)) b.1 (by decide)) (fun _ hk => hk.1.2) (.slice ap al.length ax)) (fun _ hk => hk.2) (.slice ap al.length ax)) (fun _ hk => hk.2) (.slice z y.length A)) (fun _ hk => hk.2) (.slice B v.length C)) (fun _ hk => hk.2) (.int .i64 D)) (fun _ hk => ⟨hk.1.1.1.1.1, hk.1.1.2⟩), by (with_reducible repeat (first | apply Kd.Ef | apply Kd.Ed | apply Kd.EU)); exact Kd.Ax (Kd.CC (p := ⟨a, 3, none⟩) (Kd.CC (p := ⟨a, 2, none⟩) (Kd.CC (p := ⟨a, 1, none⟩) (Kd.CC (p := ⟨a, 0, none⟩) (Kd.CC (p := ⟨l, 0, none⟩) (Kd.Bi (Kd.Bi r.1 c.1 (by decide)) b.1 (by decide)) (fun _ hk => hk.1.2) (.slice ap al.length ax)) (fun _ hk => hk.2) (.slice ap al.length ax)) (fun _ hk => hk.2) (.slice z y.length A)) (fun _ hk => hk.2) (.slice B v.length C)) (fun _ hk => hk.2) (.int .i64 D)) (fun _ hk => ⟨hk.1.1.1.1, hk.1.1.2⟩), by (with_reducible repeat (first | apply Kd.F4 | apply Kd.F3 | apply Kd.E6)); exact Kd.DW (Kd.EY (p := ⟨a, 3, none⟩) (Kd.EY (p := ⟨a, 2, none⟩) (Kd.EY (p := ⟨a, 1, none⟩) (Kd.EY (p := ⟨a, 0, none⟩) (Kd.EY (p := ⟨l, 0, none⟩) (Kd.DW (Kd.DW m.1 (fun k_ hk => (⟨hk, hk.1.2⟩ : _ ∧ k_ ≠ l))) (fun k_ hk => (⟨hk, hk.1.1.1.2.2.2.1⟩ : _ ∧ k_ ≠ a))) (fun _ hk => hk.1.2) (.slice ap al.length ax)) (fun _ hk => hk.2) (.slice ap al.length ax)) (fun _ hk => hk.2) (.slice z y.length A)) (fun _ hk => hk.2) (.slice B v.length C)) (fun _ hk => hk.2) (.int .i64 D)) (fun _ hk => ⟨hk.1.1.1.1.1, ⟨hk.1.1.2, hk.1.1.1.1.2.2.1⟩⟩), Bz s.1 d.1 j.1, Fo HB.1 (Ae.ge s.1) L.1 T.1, GV HK.1 t.1 x.1⟩
 rw [if_neg aU] at H
 have av : (J == 0) = false := beq_eq_false_iff_ne.mpr aU
 have aw : (J != 0) = true := bne_iff_ne.mpr aU
 (first | rw [av] | (simp only [E4, E']; rw [av]) | rw [aw] | (have c_ := aw; rw [bne] at c_; rw [c_]; clear c_) | skip)
 by_cases aV : J = 1
 ·rw [if_pos aV] at H
  have bA : (J == 1) = true := beq_iff_eq.mpr aV
  have bB : (J != 1) = false := bne_eq_false_iff_eq.mpr aV
  clear aV
  obtain ⟨a1, hy972⟩ : ∃ y_ : List Int, y_ = (([(-1), 10, 255, 256] : List Int)) := ⟨_, rfl⟩
  replace H : ((D'.f F W X a1).bind fun ac => (some (u, (([ac.1] : List Int)), v, D, ac.2.1, ac.2.2))) = some (r1, r2, r3, r4, r5, r6) := hb_ hy972 H
  have a6 := Q_ hy972
  clear hy972
  obtain ⟨⟨aH, bw, bx⟩, b0, H⟩ := bs_ H
  (try dsimp only at H)
  obtain ⟨an, hy978⟩ : ∃ y_ : List Int, y_ = (([aH] : List Int)) := ⟨_, rfl⟩
  replace H : (some (u, an, v, D, bw, bx)) = some (r1, r2, r3, r4, r5, r6) := hb_ hy978 H
  have a7 := Q_ hy978
  clear hy978
  simp only [Option.some.injEq, Prod.mk.injEq] at H
  obtain ⟨rfl, rfl, rfl, rfl, rfl, rfl⟩ := H
  go_wp2_with (first | (refine Ie .i64 3 16 ([(-1), 10, 255, 256] : List Int) ?_; intro c7 df ai hb; rw [← a6.1] at ai; have _ := Q_ (Kd.B0 (pr_ q.1) (Kd.BJ ai) hb); have _ := Q_ (Kd.B0 (pr_ r.1) (Kd.BJ ai) hb); have _ := Q_ (Kd.E9 (px_ m.1) (Kd.BJ ai) hb); have Y := Q_ (Kd.BV (Kd.B8 (Kd.B8 (Kd.HN (M := fun k_ => (w.heap.size ≤ k_)) ai (DN (w := w) (g := g) (row := none) (GV HK.1 t.1 x.1)) (fun k_ h_ => h_)) (Kd.Dj (pr_ q.1))) (Kd.Dj (pr_ r.1))) (DN (w := w) (g := g) (row := none) (GV HK.1 t.1 x.1))); have _ := Q_ (Ae.below (Bz s.1 d.1 j.1) hb); have _ := Q_ (bb_ b.1 hb); have _ := Q_ (bb_ c.1 hb); have _ := Q_ (Aw.trans (GV HK.1 t.1 x.1) (Aw.of_below hb g none) (.inl rfl)); have _ := Q_ (AD (Fo HB.1 (Ae.ge s.1) L.1 T.1) hb); clear q r m s b c HK HB; rename_i q r m s b c HK HB; clear hb ai; obtain ⟨bk, bo, bL⟩ := Kd.Bo Y.1; subst bL) | (refine gk_ 45 17 Tryz.func45 #[.pointer (some ⟨g, 0, none⟩), .slice bk a1.length bo] ?_; (with_reducible refine (D'.calls g F W X _ _ a1 aH bw bx w0 _ ?side1 ?side2 ?side3 ?side4 ?side5 b0.1).mono ?_); (case side1 => exact Bz s.1 d.1 j.1); (case side2 => exact Fo HB.1 (Ae.ge s.1) L.1 T.1); (case side3 => exact pc_ ((Kd.BH Y.1).2.2)); (case side4 => exact (Kd.BH Y.1).2.1); (case side5 => exact Ig (Ae.own_ne s.1 Y.1 (by decide))); rintro e dg ⟨rfl, hi, hb, hk⟩; refine ⟨_, rfl, ?_⟩; have _ := Q_ (Aw.blk hk (g' := a) (o := .cells #[.slice none 0 0, .slice none 0 0, .slice none 0 0, .int .i64 0] 34 (0, 0)) (pk_ b.1) P.1 (by simp)); have _ := Q_ (Kd.Ax (Kd.Fg (Ae.apart (show Ae w0 _ g F W X from Bz s.1 d.1 j.1) (pr_ q.1) (by decide)) hk (fun _ h => h.2)) (fun _ h => h.1)); have _ := Q_ (Kd.Ax (Kd.Fg (Ae.apart (show Ae w0 _ g F W X from Bz s.1 d.1 j.1) (pr_ r.1) (by decide)) hk (fun _ h => h.2)) (fun _ h => h.1)); have _ := Q_ (Kd.DW (Kd.Lo (Kd.DW (ok := fun k_ => (((((w.heap.size ≤ k_)) ∧ (some k_ ≠ (.slice G u.length I : Value).ownBlock ∧ (some k_ ≠ (.slice z y.length A : Value).ownBlock ∧ (k_ ≠ a ∧ k_ ≠ g)))) ∧ k_ ≠ l) ∧ some k_ ≠ (.slice bk a1.length bo : Value).ownBlock)) (px_ m.1) (fun k_ hk_ => (⟨hk_, hk_.1.1.2.2.2.2⟩ : _ ∧ k_ ≠ g))) hk (fun _ h => h.2)) (fun _ h => h.1)); have _ := Q_ (Aw.blk hk (g' := l) (o := .cells #[.slice G u.length I, .slice z y.length A, .slice B v.length C, .int .i64 D] 34 (0, 0)) (pk_ c.1) Q.1 (by simp)); have _ := Q_ (Kd.Ax (Kd.Fg (Ae.apart (show Ae w0 _ g F W X from Bz s.1 d.1 j.1) (pr_ Y.1) (by decide)) hk (fun _ h => h.2)) (fun _ h => h.1)); have _ := Q_ (Aw.trans (GV HK.1 t.1 x.1) hk (.inl rfl)); have _ := Q_ (hb); have _ := Q_ (hi); clear b q r m c Y HK HB s; rename_i b q r m c Y HK HB s; (try clear hb hk hi)) | (refine Ie .i64 3 18 ([aH] : List Int) ?_; intro c8 dh ag hb; rw [← a7.1] at ag; have _ := Q_ (Kd.B0 (pr_ q.1) (Kd.BJ ag) hb); have _ := Q_ (Kd.B0 (pr_ r.1) (Kd.BJ ag) hb); have _ := Q_ (Kd.E9 (px_ m.1) (Kd.BJ ag) hb); have _ := Q_ (Kd.B0 (pr_ Y.1) (Kd.BJ ag) hb); have a4 := Q_ (Kd.BV (Kd.B8 (Kd.B8 (Kd.B8 (Kd.HN (M := fun k_ => (w.heap.size ≤ k_)) ag (DN (w := w) (g := g) (row := none) (GV HK.1 t.1 x.1)) (fun k_ h_ => h_)) (Kd.Dj (pr_ q.1))) (Kd.Dj (pr_ r.1))) (Kd.Dj (pr_ Y.1))) (DN (w := w) (g := g) (row := none) (GV HK.1 t.1 x.1))); have _ := Q_ (Ae.below (Bz s.1 d.1 j.1) hb); have _ := Q_ (bb_ b.1 hb); have _ := Q_ (bb_ c.1 hb); have _ := Q_ (Aw.trans (GV HK.1 t.1 x.1) (Aw.of_below hb g none) (.inl rfl)); have _ := Q_ (AD (Fo HB.1 (Ae.ge s.1) L.1 T.1) hb); clear q r m Y s b c HK HB; rename_i q r m Y s b c HK HB; clear hb ag; obtain ⟨aq, ay, bM⟩ := Kd.Bo a4.1; subst bM; have ck := U.1; have cC := O.1; have cl := Q.1; have cD := j.1; have b6 := E8 c.1; have cm := P.1; have cE := d.1; have b7 := E8 b.1))
  refine bodyPost_ret (results_cell_row rfl _ _ a 34 #[.slice G u.length I, .slice aq an.length ay, .slice B v.length C, .int .i64 D] (0, 0) _ rfl (pp_ b.1) Tryz.underlying34 rfl (by kernel_rfl)) rfl ?_
  exact ⟨_, _, _, er_, by (with_reducible repeat (first | apply Kd.Ef | apply Kd.Ed | apply Kd.EU)); exact Kd.Ax (Kd.CC (p := ⟨a, 3, none⟩) (Kd.CC (p := ⟨a, 2, none⟩) (Kd.CC (p := ⟨a, 1, none⟩) (Kd.CC (p := ⟨a, 0, none⟩) (Kd.CC (p := ⟨l, 1, none⟩) (Kd.Bi (Kd.Bi q.1 c.1 (by decide)) b.1 (by decide)) (fun _ hk => hk.1.2) (.slice aq an.length ay)) (fun _ hk => hk.2) (.slice G u.length I)) (fun _ hk => hk.2) (.slice aq an.length ay)) (fun _ hk => hk.2) (.slice B v.length C)) (fun _ hk => hk.2) (.int .i64 D)) (fun _ hk => ⟨hk.1.1.1.1.1, hk.1.1.2⟩), by (with_reducible repeat (first | apply Kd.Ef | apply Kd.Ed | apply Kd.EU)); exact Kd.Ax (Kd.CC (p := ⟨a, 3, none⟩) (Kd.CC (p := ⟨a, 2, none⟩) (Kd.CC (p := ⟨a, 1, none⟩) (Kd.CC (p := ⟨a, 0, none⟩) (Kd.CC (p := ⟨l, 1, none⟩) (Kd.Bi (Kd.Bi a4.1 c.1 (by decide)) b.1 (by decide)) (fun _ hk => hk.1.2) (.slice aq an.length ay)) (fun _ hk => hk.2) (.slice G u.length I)) (fun _ hk => hk.2) (.slice aq an.length ay)) (fun _ hk => hk.2) (.slice B v.length C)) (fun _ hk => hk.2) (.int .i64 D)) (fun _ hk => ⟨hk.1.1.1.1.1.1, hk.1.1.1.1.2⟩), by (with_reducible repeat (first | apply Kd.F4 | apply Kd.F3 | apply Kd.E6)); exact Kd.DW (Kd.EY (p := ⟨a, 3, none⟩) (Kd.EY (p := ⟨a, 2, none⟩) (Kd.EY (p := ⟨a, 1, none⟩) (Kd.EY (p := ⟨a, 0, none⟩) (Kd.EY (p := ⟨l, 1, none⟩) (Kd.DW (Kd.DW m.1 (fun k_ hk => (⟨hk, hk.1.1.2⟩ : _ ∧ k_ ≠ l))) (fun k_ hk => (⟨hk, hk.1.1.1.1.2.2.2.1⟩ : _ ∧ k_ ≠ a))) (fun _ hk => hk.1.2) (.slice aq an.length ay)) (fun _ hk => hk.2) (.slice G u.length I)) (fun _ hk => hk.2) (.slice aq an.length ay)) (fun _ hk => hk.2) (.slice B v.length C)) (fun _ hk => hk.2) (.int .i64 D)) (fun _ hk => ⟨hk.1.1.1.1.1.1, ⟨hk.1.1.1.1.1.2.1, hk.1.1.2⟩⟩), Bz s.1 d.1 j.1, Fo HB.1 (Ae.ge s.1) L.1 T.1, GV HK.1 t.1 x.1⟩
 rw [if_neg aV] at H
 have bA : (J == 1) = false := beq_eq_false_iff_ne.mpr aV
 have bB : (J != 1) = true := bne_iff_ne.mpr aV
 by_cases aW : J = 2
 ·rw [if_pos aW] at H
  have bC : (J == 2) = true := beq_iff_eq.mpr aW
  have bD : (J != 2) = false := bne_eq_false_iff_eq.mpr aW
  clear aW
  obtain ⟨ao, hy981⟩ : ∃ y_ : List Int, y_ = (([1, 2, 3, 4, 5, 6] : List Int)) := ⟨_, rfl⟩
  replace H : (some (u, ao, v, D, W, X)) = some (r1, r2, r3, r4, r5, r6) := hb_ hy981 H
  have a8 := Q_ hy981
  clear hy981
  simp only [Option.some.injEq, Prod.mk.injEq] at H
  obtain ⟨rfl, rfl, rfl, rfl, rfl, rfl⟩ := H
  go_wp2_with (first | (refine Ie .i64 3 22 ([1, 2, 3, 4, 5, 6] : List Int) ?_; intro c9 di aj hb; rw [← a8.1] at aj; have _ := Q_ (Kd.B0 (pr_ q.1) (Kd.BJ aj) hb); have _ := Q_ (Kd.B0 (pr_ r.1) (Kd.BJ aj) hb); have _ := Q_ (Kd.E9 (px_ m.1) (Kd.BJ aj) hb); have a5 := Q_ (Kd.BV (Kd.B8 (Kd.B8 (Kd.HN (M := fun k_ => (w.heap.size ≤ k_)) aj (DN (w := w) (g := g) (row := none) (GV HK.1 t.1 x.1)) (fun k_ h_ => h_)) (Kd.Dj (pr_ q.1))) (Kd.Dj (pr_ r.1))) (DN (w := w) (g := g) (row := none) (GV HK.1 t.1 x.1))); have _ := Q_ (Ae.below (Bz s.1 d.1 j.1) hb); have _ := Q_ (bb_ b.1 hb); have _ := Q_ (bb_ c.1 hb); have _ := Q_ (Aw.trans (GV HK.1 t.1 x.1) (Aw.of_below hb g none) (.inl rfl)); have _ := Q_ (AD (Fo HB.1 (Ae.ge s.1) L.1 T.1) hb); clear q r m s b c HK HB; rename_i q r m s b c HK HB; clear hb aj; obtain ⟨ar, az, bN⟩ := Kd.Bo a5.1; subst bN; have cn := U.1; have cF := O.1; have co := Q.1; have cG := j.1; have b8 := E8 c.1; have cp := P.1; have cH := d.1; have b9 := E8 b.1))
  refine bodyPost_ret (results_cell_row rfl _ _ a 34 #[.slice G u.length I, .slice ar ao.length az, .slice B v.length C, .int .i64 D] (0, 0) _ rfl (pp_ b.1) Tryz.underlying34 rfl (by kernel_rfl)) rfl ?_
  exact ⟨_, _, _, er_, by (with_reducible repeat (first | apply Kd.Ef | apply Kd.Ed | apply Kd.EU)); exact Kd.Ax (Kd.CC (p := ⟨a, 3, none⟩) (Kd.CC (p := ⟨a, 2, none⟩) (Kd.CC (p := ⟨a, 1, none⟩) (Kd.CC (p := ⟨a, 0, none⟩) (Kd.CC (p := ⟨l, 1, none⟩) (Kd.Bi (Kd.Bi q.1 c.1 (by decide)) b.1 (by decide)) (fun _ hk => hk.1.2) (.slice ar ao.length az)) (fun _ hk => hk.2) (.slice G u.length I)) (fun _ hk => hk.2) (.slice ar ao.length az)) (fun _ hk => hk.2) (.slice B v.length C)) (fun _ hk => hk.2) (.int .i64 D)) (fun _ hk => ⟨hk.1.1.1.1, hk.1.1.2⟩), by (with_reducible repeat (first | apply Kd.Ef | apply Kd.Ed | apply Kd.EU)); exact Kd.Ax (Kd.CC (p := ⟨a, 3, none⟩) (Kd.CC (p := ⟨a, 2, none⟩) (Kd.CC (p := ⟨a, 1, none⟩) (Kd.CC (p := ⟨a, 0, none⟩) (Kd.CC (p := ⟨l, 1, none⟩) (Kd.Bi (Kd.Bi a5.1 c.1 (by decide)) b.1 (by decide)) (fun _ hk => hk.1.2) (.slice ar ao.length az)) (fun _ hk => hk.2) (.slice G u.length I)) (fun _ hk => hk.2) (.slice ar ao.length az)) (fun _ hk => hk.2) (.slice B v.length C)) (fun _ hk => hk.2) (.int .i64 D)) (fun _ hk => ⟨hk.1.1.1.1.1, hk.1.1.1.2⟩), by (with_reducible repeat (first | apply Kd.F4 | apply Kd.F3 | apply Kd.E6)); exact Kd.DW (Kd.EY (p := ⟨a, 3, none⟩) (Kd.EY (p := ⟨a, 2, none⟩) (Kd.EY (p := ⟨a, 1, none⟩) (Kd.EY (p := ⟨a, 0, none⟩) (Kd.EY (p := ⟨l, 1, none⟩) (Kd.DW (Kd.DW m.1 (fun k_ hk => (⟨hk, hk.1.2⟩ : _ ∧ k_ ≠ l))) (fun k_ hk => (⟨hk, hk.1.1.1.2.2.2.1⟩ : _ ∧ k_ ≠ a))) (fun _ hk => hk.1.2) (.slice ar ao.length az)) (fun _ hk => hk.2) (.slice G u.length I)) (fun _ hk => hk.2) (.slice ar ao.length az)) (fun _ hk => hk.2) (.slice B v.length C)) (fun _ hk => hk.2) (.int .i64 D)) (fun _ hk => ⟨hk.1.1.1.1.1, ⟨hk.1.1.1.1.2.1, hk.1.1.2⟩⟩), Bz s.1 d.1 j.1, Fo HB.1 (Ae.ge s.1) L.1 T.1, GV HK.1 t.1 x.1⟩
 rw [if_neg aW] at H
 have bC : (J == 2) = false := beq_eq_false_iff_ne.mpr aW
 have bD : (J != 2) = true := bne_iff_ne.mpr aW
 by_cases aX : J = 3
 ·rw [if_pos aX] at H
  have bE : (J == 3) = true := beq_iff_eq.mpr aX
  have bF : (J != 3) = false := bne_eq_false_iff_eq.mpr aX
  clear aX
  obtain ⟨a2, hy984⟩ : ∃ y_ : List Int, y_ = (([(-1), 5, 6] : List Int)) := ⟨_, rfl⟩
  replace H : ((D'.f F W X a2).bind fun ad => (some (u, y, v, ad.1, ad.2.1, ad.2.2))) = some (r1, r2, r3, r4, r5, r6) := hb_ hy984 H
  have a9 := Q_ hy984
  clear hy984
  obtain ⟨⟨am, bU, bV⟩, b1, H⟩ := bs_ H
  (try dsimp only at H)
  simp only [Option.some.injEq, Prod.mk.injEq] at H
  obtain ⟨rfl, rfl, rfl, rfl, rfl, rfl⟩ := H
  go_wp2_with (first | (refine Ie .i64 3 27 ([(-1), 5, 6] : List Int) ?_; intro da dj ak hb; rw [← a9.1] at ak; have _ := Q_ (Kd.B0 (pr_ q.1) (Kd.BJ ak) hb); have _ := Q_ (Kd.B0 (pr_ r.1) (Kd.BJ ak) hb); have _ := Q_ (Kd.E9 (px_ m.1) (Kd.BJ ak) hb); have ab := Q_ (Kd.BV (Kd.B8 (Kd.B8 (Kd.HN (M := fun k_ => (w.heap.size ≤ k_)) ak (DN (w := w) (g := g) (row := none) (GV HK.1 t.1 x.1)) (fun k_ h_ => h_)) (Kd.Dj (pr_ q.1))) (Kd.Dj (pr_ r.1))) (DN (w := w) (g := g) (row := none) (GV HK.1 t.1 x.1))); have _ := Q_ (Ae.below (Bz s.1 d.1 j.1) hb); have _ := Q_ (bb_ b.1 hb); have _ := Q_ (bb_ c.1 hb); have _ := Q_ (Aw.trans (GV HK.1 t.1 x.1) (Aw.of_below hb g none) (.inl rfl)); have _ := Q_ (AD (Fo HB.1 (Ae.ge s.1) L.1 T.1) hb); clear q r m s b c HK HB; rename_i q r m s b c HK HB; clear hb ak; obtain ⟨bl, bp, bO⟩ := Kd.Bo ab.1; subst bO) | (refine gk_ 45 28 Tryz.func45 #[.pointer (some ⟨g, 0, none⟩), .slice bl a2.length bp] ?_; (with_reducible refine (D'.calls g F W X _ _ a2 am bU bV w0 _ ?side1 ?side2 ?side3 ?side4 ?side5 b1.1).mono ?_); (case side1 => exact Bz s.1 d.1 j.1); (case side2 => exact Fo HB.1 (Ae.ge s.1) L.1 T.1); (case side3 => exact pc_ ((Kd.BH ab.1).2.2)); (case side4 => exact (Kd.BH ab.1).2.1); (case side5 => exact Ig (Ae.own_ne s.1 ab.1 (by decide))); rintro e dk ⟨rfl, hi, hb, hk⟩; refine ⟨_, rfl, ?_⟩; have _ := Q_ (Aw.blk hk (g' := a) (o := .cells #[.slice none 0 0, .slice none 0 0, .slice none 0 0, .int .i64 0] 34 (0, 0)) (pk_ b.1) P.1 (by simp)); have _ := Q_ (Kd.Ax (Kd.Fg (Ae.apart (show Ae w0 _ g F W X from Bz s.1 d.1 j.1) (pr_ q.1) (by decide)) hk (fun _ h => h.2)) (fun _ h => h.1)); have _ := Q_ (Kd.Ax (Kd.Fg (Ae.apart (show Ae w0 _ g F W X from Bz s.1 d.1 j.1) (pr_ r.1) (by decide)) hk (fun _ h => h.2)) (fun _ h => h.1)); have _ := Q_ (Kd.DW (Kd.Lo (Kd.DW (ok := fun k_ => (((((w.heap.size ≤ k_)) ∧ (some k_ ≠ (.slice G u.length I : Value).ownBlock ∧ (some k_ ≠ (.slice z y.length A : Value).ownBlock ∧ (k_ ≠ a ∧ k_ ≠ g)))) ∧ k_ ≠ l) ∧ some k_ ≠ (.slice bl a2.length bp : Value).ownBlock)) (px_ m.1) (fun k_ hk_ => (⟨hk_, hk_.1.1.2.2.2.2⟩ : _ ∧ k_ ≠ g))) hk (fun _ h => h.2)) (fun _ h => h.1)); have _ := Q_ (Aw.blk hk (g' := l) (o := .cells #[.slice G u.length I, .slice z y.length A, .slice B v.length C, .int .i64 D] 34 (0, 0)) (pk_ c.1) Q.1 (by simp)); have _ := Q_ (Kd.Ax (Kd.Fg (Ae.apart (show Ae w0 _ g F W X from Bz s.1 d.1 j.1) (pr_ ab.1) (by decide)) hk (fun _ h => h.2)) (fun _ h => h.1)); have _ := Q_ (Aw.trans (GV HK.1 t.1 x.1) hk (.inl rfl)); have _ := Q_ (hb); have _ := Q_ (hi); clear b q r m c ab HK HB s; rename_i b q r m c ab HK HB s; (try clear hb hk hi); have cq := U.1; have cI := O.1; have cr := Q.1; have cJ := j.1; have ca := E8 c.1; have cs := P.1; have cK := d.1; have cb := E8 b.1))
  refine bodyPost_ret (results_cell_row rfl _ _ a 34 #[.slice G u.length I, .slice z y.length A, .slice B v.length C, .int .i64 am] (0, 0) _ rfl (pp_ b.1) Tryz.underlying34 rfl (by kernel_rfl)) rfl ?_
  exact ⟨_, _, _, er_, by (with_reducible repeat (first | apply Kd.Ef | apply Kd.Ed | apply Kd.EU)); exact Kd.Ax (Kd.CC (p := ⟨a, 3, none⟩) (Kd.CC (p := ⟨a, 2, none⟩) (Kd.CC (p := ⟨a, 1, none⟩) (Kd.CC (p := ⟨a, 0, none⟩) (Kd.CC (p := ⟨l, 3, none⟩) (Kd.Bi (Kd.Bi q.1 c.1 (by decide)) b.1 (by decide)) (fun _ hk => hk.1.2) (.int .i64 am)) (fun _ hk => hk.2) (.slice G u.length I)) (fun _ hk => hk.2) (.slice z y.length A)) (fun _ hk => hk.2) (.slice B v.length C)) (fun _ hk => hk.2) (.int .i64 am)) (fun _ hk => ⟨hk.1.1.1.1, hk.1.1.1.2⟩), by (with_reducible repeat (first | apply Kd.Ef | apply Kd.Ed | apply Kd.EU)); exact Kd.Ax (Kd.CC (p := ⟨a, 3, none⟩) (Kd.CC (p := ⟨a, 2, none⟩) (Kd.CC (p := ⟨a, 1, none⟩) (Kd.CC (p := ⟨a, 0, none⟩) (Kd.CC (p := ⟨l, 3, none⟩) (Kd.Bi (Kd.Bi r.1 c.1 (by decide)) b.1 (by decide)) (fun _ hk => hk.1.2) (.int .i64 am)) (fun _ hk => hk.2) (.slice G u.length I)) (fun _ hk => hk.2) (.slice z y.length A)) (fun _ hk => hk.2) (.slice B v.length C)) (fun _ hk => hk.2) (.int .i64 am)) (fun _ hk => ⟨hk.1.1.1.1, hk.1.1.1.2⟩), by (with_reducible repeat (first | apply Kd.F4 | apply Kd.F3 | apply Kd.E6)); exact Kd.DW (Kd.EY (p := ⟨a, 3, none⟩) (Kd.EY (p := ⟨a, 2, none⟩) (Kd.EY (p := ⟨a, 1, none⟩) (Kd.EY (p := ⟨a, 0, none⟩) (Kd.EY (p := ⟨l, 3, none⟩) (Kd.DW (Kd.DW m.1 (fun k_ hk => (⟨hk, hk.1.2⟩ : _ ∧ k_ ≠ l))) (fun k_ hk => (⟨hk, hk.1.1.1.2.2.2.1⟩ : _ ∧ k_ ≠ a))) (fun _ hk => hk.1.2) (.int .i64 am)) (fun _ hk => hk.2) (.slice G u.length I)) (fun _ hk => hk.2) (.slice z y.length A)) (fun _ hk => hk.2) (.slice B v.length C)) (fun _ hk => hk.2) (.int .i64 am)) (fun _ hk => ⟨hk.1.1.1.1.1, ⟨hk.1.1.1.1.2.1, hk.1.1.1.1.2.2.1⟩⟩), Bz s.1 d.1 j.1, Fo HB.1 (Ae.ge s.1) L.1 T.1, GV HK.1 t.1 x.1⟩
 rw [if_neg aX] at H
 have bE : (J == 3) = false := beq_eq_false_iff_ne.mpr aX
 have bF : (J != 3) = true := bne_iff_ne.mpr aX
 by_cases aY : J = 4
 rotate_left
 ·rw [if_neg aY] at H
  have bG : (J == 4) = false := beq_eq_false_iff_ne.mpr aY
  have bH : (J != 4) = true := bne_iff_ne.mpr aY
  simp only [Option.some.injEq, Prod.mk.injEq] at H
  obtain ⟨rfl, rfl, rfl, rfl, rfl, rfl⟩ := H
  have ct := U.1
  have cL := O.1
  have cu := Q.1
  have cM := j.1
  have cc := E8 c.1
  have cv := P.1
  have cN := d.1
  have cd := E8 b.1
  go_wp2
  refine bodyPost_ret (results_cell_row rfl _ _ a 34 #[.slice G u.length I, .slice z y.length A, .slice B v.length C, .int .i64 D] (0, 0) _ rfl (pp_ b.1) Tryz.underlying34 rfl (by kernel_rfl)) rfl ?_
  exact ⟨_, _, _, er_, by (with_reducible repeat (first | apply Kd.Ef | apply Kd.Ed | apply Kd.EU)); exact Kd.Ax (Kd.CC (p := ⟨a, 3, none⟩) (Kd.CC (p := ⟨a, 2, none⟩) (Kd.CC (p := ⟨a, 1, none⟩) (Kd.CC (p := ⟨a, 0, none⟩) (Kd.Bi q.1 b.1 (by decide)) (fun _ hk => hk.2) (.slice G u.length I)) (fun _ hk => hk.2) (.slice z y.length A)) (fun _ hk => hk.2) (.slice B v.length C)) (fun _ hk => hk.2) (.int .i64 D)) (fun _ hk => ⟨hk.1.1, hk.1.2⟩), by (with_reducible repeat (first | apply Kd.Ef | apply Kd.Ed | apply Kd.EU)); exact Kd.Ax (Kd.CC (p := ⟨a, 3, none⟩) (Kd.CC (p := ⟨a, 2, none⟩) (Kd.CC (p := ⟨a, 1, none⟩) (Kd.CC (p := ⟨a, 0, none⟩) (Kd.Bi r.1 b.1 (by decide)) (fun _ hk => hk.2) (.slice G u.length I)) (fun _ hk => hk.2) (.slice z y.length A)) (fun _ hk => hk.2) (.slice B v.length C)) (fun _ hk => hk.2) (.int .i64 D)) (fun _ hk => ⟨hk.1.1, hk.1.2⟩), by (with_reducible repeat (first | apply Kd.F4 | apply Kd.F3 | apply Kd.E6)); exact Kd.DW (Kd.EY (p := ⟨a, 3, none⟩) (Kd.EY (p := ⟨a, 2, none⟩) (Kd.EY (p := ⟨a, 1, none⟩) (Kd.EY (p := ⟨a, 0, none⟩) (Kd.DW m.1 (fun k_ hk => (⟨hk, hk.1.2.2.2.1⟩ : _ ∧ k_ ≠ a))) (fun _ hk => hk.2) (.slice G u.length I)) (fun _ hk => hk.2) (.slice z y.length A)) (fun _ hk => hk.2) (.slice B v.length C)) (fun _ hk => hk.2) (.int .i64 D)) (fun _ hk => ⟨hk.1.1.1, ⟨hk.1.1.2.1, hk.1.1.2.2.1⟩⟩), Bz s.1 d.1 j.1, Fo HB.1 (Ae.ge s.1) L.1 T.1, GV HK.1 t.1 x.1⟩
 rw [if_pos aY] at H
 have bG : (J == 4) = true := beq_iff_eq.mpr aY
 have bH : (J != 4) = false := bne_eq_false_iff_eq.mpr aY
 clear aY
 obtain ⟨⟨aB, aC, aD, aE, ba, bb⟩, b2, H⟩ := bs_ H
 (try dsimp only at H)
 obtain ⟨Z, hy1000⟩ : ∃ y_ : List (S75), y_ = (([(⟨aB, aC, aD, aE⟩ : S75), (⟨0, ([] : List Int), ([] : List Int), false⟩ : S75)] : List (S75))) := ⟨_, rfl⟩
 replace H : (if v.length + Z.length < 2199023255552 then (some (u, y, (v ++ Z), D, ba, bb)) else (none)) = some (r1, r2, r3, r4, r5, r6) := hb_ hy1000 H
 have a0 := Q_ hy1000
 clear hy1000
 by_cases bd : v.length + Z.length < 2199023255552
 rotate_left
 ·rw [if_neg bd] at H
  exact nn_ H
 rw [if_pos bd] at H
 have bz := Q_ bd
 clear bd
 obtain ⟨aa, hy1003⟩ : ∃ y_ : List (S75), y_ = (v ++ Z) := ⟨_, rfl⟩
 replace H : (some (u, y, aa, D, ba, bb)) = some (r1, r2, r3, r4, r5, r6) := hb_ hy1003 H
 have bc := Q_ hy1003
 clear hy1003
 simp only [Option.some.injEq, Prod.mk.injEq] at H
 obtain ⟨rfl, rfl, rfl, rfl, rfl, rfl⟩ := H
 try go_wp2
 have _ := Q_ (Kd.EU q.1)
 have _ := Q_ (Kd.EU r.1)
 have _ := Q_ (Kd.E6 m.1)
 have _ := Q_ (Bq b.1)
 have _ := Q_ (Bq c.1)
 have _ := Q_ (Ae.drew s.1)
 have _ := Q_ (Jc HK.1)
 have _ := Q_ (Cm HB.1)
 clear q r m b c s HK HB
 rename_i q r m b c s HK HB
 refine Lx (n := 9) (S := fun w' => w'.cell? ⟨l, 0, none⟩ = some (.slice G u.length I) ∧ w'.cell? ⟨l, 1, none⟩ = some (.slice z y.length A) ∧ w'.cell? ⟨l, 2, none⟩ = some (.slice B v.length C) ∧ w'.cell? ⟨l, 3, none⟩ = some (.int .i64 D)) (ds := [8]) #[false, false, false, false, false, false, false, false, false] (by kernel_rfl) rfl rfl (sb_ c.1) (fun hHeld => ?_); refine Lu EC.tab12 EC.bits12 (fun HT_ HW_ => ?_)
 generalize cT.drew = dl at q r m b c s HK HB hHeld ⊢
 refine Ba 0 32 9 1 ?_
 refine Ba 2 34 9 5 ?_
 refine Ba 4 36 9 21 ?_
 refine E1 1 33 9 23 hHeld ?_
 refine on_ 3 (some 35) (tf_ 5 9) HT_ (fun K hK => ?_)
 refine gs_ Tryz.func116 #[.pointer (some ⟨g, 0, none⟩)] ?_
 with_reducible refine (Eu.calls k g F W X aB aC aD aE ba bb w0 _ ?side1 ?side2 b2.1).mono ?_
 (case side1 => exact Bz s.1 d.1 j.1)
 (case side2 => exact Fo HB.1 (Ae.ge s.1) L.1 T.1)
 rintro e cU ⟨db, dc, rfl, af, aK, hi, hb, hk⟩
 refine ⟨_, rfl, ?_⟩
 have _ := Q_ (Aw.blk hk (g' := a) (o := .cells #[.slice none 0 0, .slice none 0 0, .slice none 0 0, .int .i64 0] 34 (0, 0)) (pk_ b.1) P.1 (by simp))
 have _ := Q_ (Kd.Ax (Kd.E7 (Kd.E7 (Kd.Hw (Ae.apart (show Ae w0 _ g F W X from Bz s.1 d.1 j.1) (pr_ q.1) (by decide)) hk) (Kd.BJ af)) (Kd.BJ aK)) (fun _ h_ => h_.1))
 have _ := Q_ (Kd.Ax (Kd.E7 (Kd.E7 (Kd.Hw (Ae.apart (show Ae w0 _ g F W X from Bz s.1 d.1 j.1) (pr_ r.1) (by decide)) hk) (Kd.BJ af)) (Kd.BJ aK)) (fun _ h_ => h_.1))
 have _ := Q_ (Kd.DW (Kd.Ij (Kd.Ij (Kd.K0 (Kd.DW (ok := fun k_ => ((((w.heap.size ≤ k_)) ∧ (some k_ ≠ (.slice G u.length I : Value).ownBlock ∧ (some k_ ≠ (.slice z y.length A : Value).ownBlock ∧ (k_ ≠ a ∧ k_ ≠ g)))) ∧ k_ ≠ l)) (px_ m.1) (fun k_ hk_ => (⟨hk_, hk_.1.2.2.2.2⟩ : _ ∧ k_ ≠ g))) hk) (Kd.BJ af)) (Kd.BJ aK)) (fun _ h_ => h_.1))
 have _ := Q_ (Aw.blk hk (g' := l) (o := .cells #[.slice G u.length I, .slice z y.length A, .slice B v.length C, .int .i64 D] 34 (0, 0)) (pk_ c.1) Q.1 (by simp))
 have _ := Q_ (Kd.BV (Kd.B8 (Kd.B8 (Kd.HN (M := fun k_ => (w.heap.size ≤ k_)) af (DN (w := w) (g := g) (row := none) (GV HK.1 t.1 x.1)) (fun k_ h_ => h_)) (Kd.Dj (pr_ q.1))) (Kd.Dj (pr_ r.1))) (DN (w := w) (g := g) (row := none) (GV HK.1 t.1 x.1)))
 have _ := Q_ (Kd.BV (Kd.B8 (Kd.B8 (Kd.HN (M := fun k_ => (w.heap.size ≤ k_)) aK (DN (w := w) (g := g) (row := none) (GV HK.1 t.1 x.1)) (fun k_ h_ => h_)) (Kd.Dj (pr_ q.1))) (Kd.Dj (pr_ r.1))) (DN (w := w) (g := g) (row := none) (GV HK.1 t.1 x.1)))
 have _ := Q_ (Aw.trans (GV HK.1 t.1 x.1) hk (.inl rfl))
 have _ := Q_ (hb)
 have _ := Q_ (hi)
 clear b q r m c HK HB s
 rename_i b q r m c aI aJ HK HB s
 (try clear hb hk hi af aK)
 obtain ⟨bm, bq, bs⟩ := Kd.Bo aI.1
 (first | subst bs | (injection bs with f1_ f2_ f3_; have f4_ := f1_.symm; have f5_ := f3_.symm; clear f1_ f2_ f3_; subst f4_; subst f5_))
 obtain ⟨bn, br, bt⟩ := Kd.Bo aJ.1
 (first | subst bt | (injection bt with f1_ f2_ f3_; have f4_ := f1_.symm; have f5_ := f3_.symm; clear f1_ f2_ f3_; subst f4_; subst f5_))
 refine hK.out _ _ (sb_ c.1) (fun hHeld => ?_)
 clear hK K
 refine no_ (some 35) ?_
 refine on_ 5 (some 37) (tf_ 6 9) HT_ (fun K hK => ?_)
 refine Kd.Jk k75 _ 75 ?hg (N' := 37) ?hd (xs := ([(⟨aB, aC, aD, aE⟩ : S75), (⟨0, ([] : List Int), ([] : List Int), false⟩ : S75)] : List (S75))) (inner := [.int .i64 aB, .slice bm aC.length bq, .slice bn aD.length br, .bool aE, .int .i64 0, .slice none 0 0, .slice none 0 0, .bool false]) (ok := (fun k_ => (w.heap.size ≤ k_) ∧ some k_ ≠ (.slice G u.length I : Value).ownBlock ∧ some k_ ≠ (.slice z y.length A : Value).ownBlock ∧ some k_ ≠ (.slice B v.length C : Value).ownBlock ∧ k_ ≠ a ∧ k_ ≠ l ∧ k_ ≠ g)) (okp := (fun k_ => (w.heap.size ≤ k_) ∧ some k_ ≠ (.slice G u.length I : Value).ownBlock ∧ some k_ ≠ (.slice z y.length A : Value).ownBlock ∧ some k_ ≠ (.slice B v.length C : Value).ownBlock ∧ k_ ≠ a ∧ k_ ≠ l ∧ k_ ≠ g)) ?hr ?hp (fun _ hk => hk) ((show ∀ k_, cU.heap.size ≤ k_ → (fun k_ => (w.heap.size ≤ k_) ∧ some k_ ≠ (.slice G u.length I : Value).ownBlock ∧ some k_ ≠ (.slice z y.length A : Value).ownBlock ∧ some k_ ≠ (.slice B v.length C : Value).ownBlock ∧ k_ ≠ a ∧ k_ ≠ l ∧ k_ ≠ g) k_ from fun k_ hk => ⟨(Nat.le_trans (DN (w := w) (g := g) (row := none) (GV HK.1 t.1 x.1)) hk), Kd.fresh' (Kd.Dj (pr_ q.1)) k_ hk, Kd.fresh' (Kd.Dj (pr_ r.1)) k_ hk, Kd.fresh' (Kd.Qp (px_ m.1)) k_ hk, Kd.Gy (g := a) (o := .cells #[.slice none 0 0, .slice none 0 0, .slice none 0 0, .int .i64 0] 34 (0, 0)) (pk_ b.1) k_ hk, Kd.Gy (g := l) (o := .cells #[.slice G u.length I, .slice z y.length A, .slice B v.length C, .int .i64 D] 34 (0, 0)) (pk_ c.1) k_ hk, Ae.fresh (Bz s.1 d.1 j.1) k_ hk⟩) _ (Nat.le_refl _)) (Below.refl _ _) (Nat.le_refl _) (by simp) ?_; (case hd => rfl); (case hg => rfl); (case hr => first | (go_simp; done) | (go_simp; rfl)); (case hp => exact (Reps.c4 (show Kd.FK k75 _ _ (⟨aB, aC, aD, aE⟩ : S75) [.int .i64 aB, .slice bm aC.length bq, .slice bn aD.length br, .bool aE] from (UB _ _ (⟨aB, aC, aD, aE⟩ : S75) (Kd.BH (Kd.Ax (ok' := (fun k_ => (w.heap.size ≤ k_) ∧ some k_ ≠ (.slice G u.length I : Value).ownBlock ∧ some k_ ≠ (.slice z y.length A : Value).ownBlock ∧ some k_ ≠ (.slice B v.length C : Value).ownBlock ∧ k_ ≠ a ∧ k_ ≠ l ∧ k_ ≠ g)) (Ae.apart s.1 (Kd.Bi (Kd.Bi (Kd.Eh (aI.1) (Kd.GZ m.1) (by decide)) b.1 (by decide)) c.1 (by decide)) (by decide)) (fun k_ hk => ⟨hk.1.1.1.1.1.1.1, ⟨hk.1.1.1.1.1.2, ⟨hk.1.1.1.1.2, ⟨hk.1.1.1.2, ⟨hk.1.1.2, ⟨hk.1.2, hk.2⟩⟩⟩⟩⟩⟩))).2.1 (Kd.R_F (Kd.Ax (ok' := (fun k_ => (w.heap.size ≤ k_) ∧ some k_ ≠ (.slice G u.length I : Value).ownBlock ∧ some k_ ≠ (.slice z y.length A : Value).ownBlock ∧ some k_ ≠ (.slice B v.length C : Value).ownBlock ∧ k_ ≠ a ∧ k_ ≠ l ∧ k_ ≠ g)) (Ae.apart s.1 (Kd.Bi (Kd.Bi (Kd.Eh (aI.1) (Kd.GZ m.1) (by decide)) b.1 (by decide)) c.1 (by decide)) (by decide)) (fun k_ hk => ⟨hk.1.1.1.1.1.1.1, ⟨hk.1.1.1.1.1.2, ⟨hk.1.1.1.1.2, ⟨hk.1.1.1.2, ⟨hk.1.1.2, ⟨hk.1.2, hk.2⟩⟩⟩⟩⟩⟩))) (Kd.BH (Kd.Ax (ok' := (fun k_ => (w.heap.size ≤ k_) ∧ some k_ ≠ (.slice G u.length I : Value).ownBlock ∧ some k_ ≠ (.slice z y.length A : Value).ownBlock ∧ some k_ ≠ (.slice B v.length C : Value).ownBlock ∧ k_ ≠ a ∧ k_ ≠ l ∧ k_ ≠ g)) (Ae.apart s.1 (Kd.Bi (Kd.Bi (Kd.Eh (aJ.1) (Kd.GZ m.1) (by decide)) b.1 (by decide)) c.1 (by decide)) (by decide)) (fun k_ hk => ⟨hk.1.1.1.1.1.1.1, ⟨hk.1.1.1.1.1.2, ⟨hk.1.1.1.1.2, ⟨hk.1.1.1.2, ⟨hk.1.1.2, ⟨hk.1.2, hk.2⟩⟩⟩⟩⟩⟩))).2.1 (Kd.R_F (Kd.Ax (ok' := (fun k_ => (w.heap.size ≤ k_) ∧ some k_ ≠ (.slice G u.length I : Value).ownBlock ∧ some k_ ≠ (.slice z y.length A : Value).ownBlock ∧ some k_ ≠ (.slice B v.length C : Value).ownBlock ∧ k_ ≠ a ∧ k_ ≠ l ∧ k_ ≠ g)) (Ae.apart s.1 (Kd.Bi (Kd.Bi (Kd.Eh (aJ.1) (Kd.GZ m.1) (by decide)) b.1 (by decide)) c.1 (by decide)) (by decide)) (fun k_ hk => ⟨hk.1.1.1.1.1.1.1, ⟨hk.1.1.1.1.1.2, ⟨hk.1.1.1.1.2, ⟨hk.1.1.1.2, ⟨hk.1.1.2, ⟨hk.1.2, hk.2⟩⟩⟩⟩⟩⟩))))) (Reps.c4 (show Kd.FK k75 _ _ (⟨0, ([] : List Int), ([] : List Int), false⟩ : S75) [.int .i64 0, .slice none 0 0, .slice none 0 0, .bool false] from (UB _ _ (⟨0, ([] : List Int), ([] : List Int), false⟩ : S75) (Nat.le_refl _) (Kd.V1 _ _ _) (Nat.le_refl _) (Kd.V1 _ _ _))) (Reps.none _ _))))
 intro cR dm aG hb hg_ hnew_
 clear hg_ hnew_
 rw [← a0.1] at aG
 have _ := Q_ (Kd.Bv (pr_ q.1) hb)
 have _ := Q_ (Kd.Bv (pr_ r.1) hb)
 have _ := Q_ (Kd.E9 (px_ m.1) (Kd.JV aG) hb)
 have _ := Q_ (Kd.IW aG (DN (w := w) (g := g) (row := none) (GV HK.1 t.1 x.1)))
 have _ := Q_ (Ae.below (Bz s.1 d.1 j.1) hb)
 have _ := Q_ (bb_ b.1 hb)
 have _ := Q_ (bb_ c.1 hb)
 have _ := Q_ (Aw.trans (GV HK.1 t.1 x.1) (Aw.of_below hb g none) (.inl rfl))
 have _ := Q_ (AD (Fo HB.1 (Ae.ge s.1) L.1 T.1) hb)
 clear q r m s b c HK HB aI aJ
 rename_i q r m ae s b c HK HB
 clear hb aG
 obtain ⟨cW, cX, bu⟩ := Kd.IM ae.1
 (first | subst bu | (injection bu with f1_ f2_ f3_; have f4_ := f1_.symm; have f5_ := f3_.symm; clear f1_ f2_ f3_; subst f4_; subst f5_))
 refine hK.out _ _ (sb_ c.1) (fun hHeld => ?_)
 clear hK K
 refine no_ (some 37) ?_
 refine on_ 6 (some 38) (tf_ 7 9) HT_ (fun K hK => ?_)
 refine Kd.K3 k75 w.heap.size (by rfl) (.tmp 33) (.tmp 37) 32 75 (.agg #[(.int .i64 0), (.slice none 0 0), (.slice none 0 0), (.bool false)]) 64 rfl Tryz.underlying32 Vm rfl (by decide) (by omega) (.slice B v.length C) v Z _ _ _ (fun k_ => (w.heap.size ≤ k_) ∧ some k_ ≠ (.slice G u.length I : Value).ownBlock ∧ some k_ ≠ (.slice z y.length A : Value).ownBlock ∧ k_ ≠ a ∧ k_ ≠ l ∧ k_ ≠ g) (fun k_ => ((fun k_ => (w.heap.size ≤ k_) ∧ some k_ ≠ (.slice G u.length I : Value).ownBlock ∧ some k_ ≠ (.slice z y.length A : Value).ownBlock ∧ k_ ≠ a ∧ k_ ≠ l ∧ k_ ≠ g)) k_ ∧ some k_ ≠ (.slice B v.length C : Value).ownBlock) rfl rfl ?aO ?aR (fun _ hk => hk) ?aF (Below.refl _ _) ?aS ?aL ?_
 (case aR => exact (by skip; exact Kd.N_F (Kd.DW (ok' := (fun k_ => ((fun k_ => (w.heap.size ≤ k_) ∧ some k_ ≠ (.slice G u.length I : Value).ownBlock ∧ some k_ ≠ (.slice z y.length A : Value).ownBlock ∧ k_ ≠ a ∧ k_ ≠ l ∧ k_ ≠ g)) k_ ∧ some k_ ≠ (.slice B v.length C : Value).ownBlock)) (ae.1) (fun k_ hk => ⟨⟨hk.1, ⟨hk.2.1, ⟨hk.2.2.1, ⟨hk.2.2.2.2.1, ⟨hk.2.2.2.2.2.1, hk.2.2.2.2.2.2⟩⟩⟩⟩⟩, hk.2.2.2.1⟩))))
 (case aF => exact (fun k_ hk => ⟨(Nat.le_trans (DN (w := w) (g := g) (row := none) (GV HK.1 t.1 x.1)) hk), Kd.fresh' (Kd.Dj (pr_ q.1)) k_ hk, Kd.fresh' (Kd.Dj (pr_ r.1)) k_ hk, Kd.Gy (g := a) (o := .cells #[.slice none 0 0, .slice none 0 0, .slice none 0 0, .int .i64 0] 34 (0, 0)) (pk_ b.1) k_ hk, Kd.Gy (g := l) (o := .cells #[.slice G u.length I, .slice z y.length A, .slice B v.length C, .int .i64 D] 34 (0, 0)) (pk_ c.1) k_ hk, Ae.fresh (Bz s.1 d.1 j.1) k_ hk⟩))
 (case aO => exact (by (with_reducible repeat (first | apply Kd.F4 | apply Kd.F3 | apply Kd.E6)); exact Kd.DW m.1 (fun _ hk => ⟨hk.1.1.1.1.1, ⟨hk.1.1.1.1.2.1, ⟨hk.1.1.1.1.2.2.1, ⟨hk.1.1.1.1.2.2.2.1, ⟨hk.1.1.1.2, hk.1.1.1.1.2.2.2.2⟩⟩⟩⟩⟩)))
 (case aS => exact (DN (w := w) (g := g) (row := none) (GV HK.1 t.1 x.1)))
 (case aL => have := bz.1; omega)
 intro cS cV ho hb hg hat
 rw [← bc.1] at ho
 have _ := Q_ (Ae.grown (Bz s.1 d.1 j.1) hg (Ae.own_neN s.1 m.1 (by decide)))
 have _ := Q_ (Eb (g := a) (o := .cells #[.slice none 0 0, .slice none 0 0, .slice none 0 0, .int .i64 0] 34 (0, 0)) (pk_ b.1) hg (Kd.Xf m.1 b.1 (by decide)))
 have _ := Q_ (Kd.Td (pr_ q.1) (Kd.GZ (px_ m.1)) (by decide) hg)
 have _ := Q_ (Kd.Td (pr_ r.1) (Kd.GZ (px_ m.1)) (by decide) hg)
 have _ := Q_ (Eb (g := l) (o := .cells #[.slice G u.length I, .slice z y.length A, .slice B v.length C, .int .i64 D] 34 (0, 0)) (pk_ c.1) hg (Kd.Xf m.1 c.1 (by decide)))
 have _ := Q_ (Kd.Qc (ok := (fun k_ => (w.heap.size ≤ k_) ∧ some k_ ≠ (.slice G u.length I : Value).ownBlock ∧ some k_ ≠ (.slice z y.length A : Value).ownBlock ∧ k_ ≠ a ∧ k_ ≠ l ∧ k_ ≠ g)) (by (with_reducible repeat (first | apply Kd.F4 | apply Kd.F3 | apply Kd.E6)); exact Kd.DW ae.1 (fun _ hk => ⟨⟨hk.1, ⟨hk.2.1, ⟨hk.2.2.1, ⟨hk.2.2.2.2.1, ⟨hk.2.2.2.2.2.1, hk.2.2.2.2.2.2⟩⟩⟩⟩⟩, hk.2.2.2.1⟩)) hg hat)
 have _ := Q_ (Jp (Fo HB.1 (Ae.ge s.1) L.1 T.1) HL.1 hb)
 have _ := Q_ (Aw.trans (GV HK.1 t.1 x.1) (Aw.of_grown hg g) (Kd.Wy m.1))
 have _ := Q_ (ho)
 clear s b q r c ae HB HK m
 rename_i s b q r c ae HB HK aZ
 clear ho hb hg hat
 obtain ⟨au, aA, bv⟩ := Kd.IM aZ.1
 (first | subst bv | (injection bv with f1_ f2_ f3_; have f4_ := f1_.symm; have f5_ := f3_.symm; clear f1_ f2_ f3_; subst f4_; subst f5_))
 refine hK.out _ _ (sb_ c.1) (fun hHeld => ?_)
 clear hK K
 refine no_ (some 38) ?_
 refine Ba 7 39 9 255 ?_
 refine VF (i := 8) (N := none) #[true, true, true, true, true, true, true, true, true] rfl rfl (PE HT_.1 (by kernel_rfl)) (by decide) (fun K hK => ?_)
 have c3 : cV.cell? ⟨l, 2, none⟩ = some (.slice B v.length C) := (BM c.1 2).trans rfl
 have cg := DI c.1 2
 have bQ := O.1
 have bP := U.1
 refine J2 (w1 := ?_) (by rfl) rfl ?_ ?_
 rotate_left
 ·go_simp
  rfl
 refine hK.out _ _ ?_
 clear hK K
 refine G8 (E0 HT_.1 (by kernel_rfl)) ?_
 have cw := U.1
 have cO := O.1
 have cx := Q.1
 have cP := j.1
 have ce := E8 c.1
 have cy := P.1
 have cQ := d.1
 have cf := E8 b.1
 try go_wp2
 refine bodyPost_ret (results_cell_row rfl _ _ a 34 #[.slice G u.length I, .slice z y.length A, .slice au aa.length aA, .int .i64 D] (0, 0) _ rfl (pp_ b.1) Tryz.underlying34 rfl (by kernel_rfl)) rfl ?_
 exact ⟨_, _, _, er_, by (with_reducible repeat (first | apply Kd.Ef | apply Kd.Ed | apply Kd.EU)); exact Kd.Ax (Kd.CC (p := ⟨a, 3, none⟩) (Kd.CC (p := ⟨a, 2, none⟩) (Kd.CC (p := ⟨a, 1, none⟩) (Kd.CC (p := ⟨a, 0, none⟩) (Kd.CC (p := ⟨l, 2, none⟩) (Kd.Bi (Kd.Bi q.1 c.1 (by decide)) b.1 (by decide)) (fun _ hk => hk.1.2) (.slice au aa.length aA)) (fun _ hk => hk.2) (.slice G u.length I)) (fun _ hk => hk.2) (.slice z y.length A)) (fun _ hk => hk.2) (.slice au aa.length aA)) (fun _ hk => hk.2) (.int .i64 D)) (fun _ hk => ⟨hk.1.1.1.1.1, hk.1.1.1.1.2⟩), by (with_reducible repeat (first | apply Kd.Ef | apply Kd.Ed | apply Kd.EU)); exact Kd.Ax (Kd.CC (p := ⟨a, 3, none⟩) (Kd.CC (p := ⟨a, 2, none⟩) (Kd.CC (p := ⟨a, 1, none⟩) (Kd.CC (p := ⟨a, 0, none⟩) (Kd.CC (p := ⟨l, 2, none⟩) (Kd.Bi (Kd.Bi r.1 c.1 (by decide)) b.1 (by decide)) (fun _ hk => hk.1.2) (.slice au aa.length aA)) (fun _ hk => hk.2) (.slice G u.length I)) (fun _ hk => hk.2) (.slice z y.length A)) (fun _ hk => hk.2) (.slice au aa.length aA)) (fun _ hk => hk.2) (.int .i64 D)) (fun _ hk => ⟨hk.1.1.1.1.1, hk.1.1.1.1.2⟩), by (with_reducible repeat (first | apply Kd.F4 | apply Kd.F3 | apply Kd.E6)); exact Kd.DW (Kd.EY (p := ⟨a, 3, none⟩) (Kd.EY (p := ⟨a, 2, none⟩) (Kd.EY (p := ⟨a, 1, none⟩) (Kd.EY (p := ⟨a, 0, none⟩) (Kd.EY (p := ⟨l, 2, none⟩) (Kd.DW (Kd.DW aZ.1 (fun k_ hk => (⟨hk, hk.2.2.2.2.1⟩ : _ ∧ k_ ≠ l))) (fun k_ hk => (⟨hk, hk.1.2.2.2.1⟩ : _ ∧ k_ ≠ a))) (fun _ hk => hk.1.2) (.slice au aa.length aA)) (fun _ hk => hk.2) (.slice G u.length I)) (fun _ hk => hk.2) (.slice z y.length A)) (fun _ hk => hk.2) (.slice au aa.length aA)) (fun _ hk => hk.2) (.int .i64 D)) (fun _ hk => ⟨hk.1.1.1, ⟨hk.1.1.2.1, hk.1.1.2.2.1⟩⟩), Bz s.1 d.1 j.1, Fo HB.1 (Ae.ge s.1) L.1 T.1, GV HK.1 t.1 x.1⟩
def Dy.f (k : Nat) (d : List Int) : Option (List Int × List Int × (List (S75)) × Int × Int) := (CE.f k d).bind fun b => ((EC.f k b.1 b.2.1 b.2.2).bind fun a => ((Cc.f b.1 a.2.2.2.2.1 a.2.2.2.2.2 60).bind fun c => (some (a.1, a.2.1, a.2.2.1, a.2.2.2.1, c.1))))
theorem Dy.mono : ∀ a k, LeO (Dy.f k a) (Dy.f (k + 1) a) := by
 intro a k
 unfold Dy.f
 exact H8 CE.mono EC.mono
theorem Dy.calls (k : Nat) (A0 : Option Addr) (c0 : Nat) (l0 : List Int) (r1 : List Int) (r2 : List Int) (r3 : List (S75)) (r4 : Int) (r5 : Int) (w : World) (hr0 : Kd.C (Kd.int .u8) w A0 l0.length l0) (am : l0.length ≤ c0) (h : Dy.f k l0 = some (r1, r2, r3, r4, r5)) :
  Calls Tryz.prog 41 #[.slice A0 l0.length c0] w fun e w' => ∃ v0_ v1_ v2_ : Value, e = .returned (.tuple #[.agg #[v0_, v1_, v2_, .int .i64 r4], .int .i64 r5]) ∧ Kd.R (Kd.int .i64) 3 w' w.heap.size (fun k_ => (w.heap.size ≤ k_) ∧ some k_ ≠ (v1_ : Value).ownBlock) v0_ r1 ∧ Kd.R (Kd.int .i64) 3 w' w.heap.size (fun k_ => (w.heap.size ≤ k_) ∧ some k_ ≠ (v0_ : Value).ownBlock) v1_ r2 ∧ Kd.N k75 75 w' w.heap.size (fun k_ => (w.heap.size ≤ k_) ∧ some k_ ≠ (v0_ : Value).ownBlock ∧ some k_ ≠ (v1_ : Value).ownBlock) v2_ r3 ∧ Below w.heap.size w w' := by
 have hu34 := Tryz.underlying34
 have aH := Q_ hr0
 have aG := Q_ am
 clear hr0 am
 have HB := Q_ (Below.refl w.heap.size w)
 unfold Dy.f at h
 have H := h
 clear h
 obtain ⟨⟨O, X, Y⟩, A2, H⟩ := bs_ H
 (try dsimp only at H)
 obtain ⟨⟨l, m, q, s, T, U⟩, A3, H⟩ := bs_ H
 (try dsimp only at H)
 obtain ⟨⟨Z, ai, aj⟩, A4, H⟩ := bs_ H
 replace H : (some (l, m, q, s, Z)) = some (r1, r2, r3, r4, r5) := H
 simp only [Option.some.injEq, Prod.mk.injEq] at H
 obtain ⟨rfl, rfl, rfl, rfl, rfl⟩ := H
 go_enter Tryz.func41, Tryz.ntmps41
 try go_wp2_with (first | (refine bg_ 2 #[.slice none 0 0, .slice none 0 0, .slice none 0 0, .int .i64 0] 34 ?_; intro c hg w5 hbox hb; have _ := Q_ (AD (pb_ HB.1) hb); have d := Q_ (hbox); have ac := Q_ (gw_ (w := w) hg (pb_ HB.1)); have z := ac; clear HB; rename_i HB; clear hb hbox hg) | (refine gk_ 42 7 Tryz.func42 #[.slice A0 l0.length c0] ?_; (with_reducible refine (CE.calls k _ _ l0 O X Y w _ ?side1 aH.1 aG.1 A2.1).mono ?_); (case side1 => exact Hg HB.1 z.1); rintro e w6 ⟨g1010, rfl, hi, hb, hb2⟩; refine ⟨_, rfl, ?_⟩; have _ := Q_ (bb_ d.1 hb2); have _ := Q_ (hb); have _ := Q_ (hi); have _ := Q_ (Ae.ne_blk hi (bb_ d.1 hb2) (by decide)); have _ := Q_ (Ne.symm (Ae.ne_blk hi (bb_ d.1 hb2) (by decide))); clear d HB; rename_i d HB j r P; (try clear hb hb2 hi)) | (refine gk_ 76 9 Tryz.func76 #[.pointer (some ⟨g1010, 0, none⟩)] ?_; (with_reducible refine (EC.calls k g1010 O X Y l m q s T U w _ ?side1 ?side2 A3.1).mono ?_); (case side1 => exact HQ j.1 r.1); (case side2 => exact Jo HB.1 (Ae.ge j.1) z.1); rintro e w7 ⟨aa, ab, aT, rfl, ax, ay, az, hi, hb, hk⟩; refine ⟨_, rfl, ?_⟩; have _ := Q_ (Aw.blk hk (g' := c) (o := .cells #[.slice none 0 0, .slice none 0 0, .slice none 0 0, .int .i64 0] 34 (0, 0)) (pk_ d.1) P.1 (by simp)); have _ := Q_ (Kd.BV (Kd.HN (M := fun k_ => (w.heap.size ≤ k_)) (Kd.Ax (ok' := fun k_ => some k_ ≠ (ab : Value).ownBlock) ax (fun _ hk_ => hk_.2)) (AZ (Jo HB.1 (Ae.ge j.1) z.1)) (fun k_ h_ => h_)) (AZ (Jo HB.1 (Ae.ge j.1) z.1))); have _ := Q_ (Kd.BV (Kd.HN (M := fun k_ => (w.heap.size ≤ k_)) (Kd.Ax (ok' := fun k_ => some k_ ≠ (aa : Value).ownBlock) ay (fun _ hk_ => hk_.2)) (AZ (Jo HB.1 (Ae.ge j.1) z.1)) (fun k_ h_ => h_)) (AZ (Jo HB.1 (Ae.ge j.1) z.1))); have _ := Q_ (Kd.IW (Kd.DW (ok' := fun k_ => (w.heap.size ≤ k_) ∧ some k_ ≠ (aa : Value).ownBlock ∧ some k_ ≠ (ab : Value).ownBlock ∧ k_ ≠ c ∧ k_ ≠ g1010) az (fun k_ hk_ => ⟨(Nat.le_trans (AZ (Jo HB.1 (Ae.ge j.1) z.1)) hk_.1), hk_.2.1, hk_.2.2, (Kd.Gy (g := c) (o := .cells #[.slice none 0 0, .slice none 0 0, .slice none 0 0, .int .i64 0] 34 (0, 0)) (pk_ d.1) k_ hk_.1), (Ae.fresh (HQ j.1 r.1) k_ hk_.1)⟩)) (AZ (Jo HB.1 (Ae.ge j.1) z.1))); have _ := Q_ (hb); have _ := Q_ (hi); clear d HB j; rename_i d u x y HB j; (try clear hb hk hi ax ay az)) | (refine bg_ 5 #[.slice none 0 0, .slice none 0 0, .slice none 0 0, .int .i64 0] 34 ?_; intro a hg w8 hbox hb; have _ := Q_ (Kd.Bv (pr_ u.1) hb); have _ := Q_ (Kd.Bv (pr_ x.1) hb); have _ := Q_ (Kd.FG (Kd.IH (px_ y.1) a (Nat.le_of_eq hg.symm)) hb); have _ := Q_ (bb_ d.1 hb); have _ := Q_ (Ae.below (HQ j.1 r.1) hb); have _ := Q_ (AD (Jo HB.1 (Ae.ge j.1) z.1) hb); have t := Q_ (hbox); have ad := Q_ ((by rw [hg]; exact (AZ (Jo HB.1 (Ae.ge j.1) z.1)) : w.heap.size ≤ a)); have W := ad; have A := Q_ (nb_ hg d); have b := Q_ A.1.symm; have B := Q_ ((by rw [hg]; exact Nat.ne_of_lt (Ae.lt (show Ae w _ g1010 O T U from HQ j.1 r.1)) : g1010 ≠ a)); have Q := Q_ B.1.symm; clear u x y d j HB; rename_i u x y d j HB; clear hb hbox hg; obtain ⟨I, J, aJ⟩ := Kd.Bo u.1; subst aJ; have aP := b.1; have aR := A.1; have aQ := Q.1; have aS := B.1; have aK := E8 t.1; obtain ⟨D, E, ak⟩ := Kd.Bo x.1; subst ak; obtain ⟨F, G, al⟩ := Kd.IM y.1; subst al))
 have n0_ : Aside0 (Kd.R (Kd.int .i64) 3 ((((w8.setCell ⟨a, 0, none⟩ (.slice I l.length J)).setCell ⟨a, 1, none⟩ (.slice D m.length E)).setCell ⟨a, 2, none⟩ (.slice F q.length G)).setCell ⟨a, 3, none⟩ (.int .i64 s)) w.heap.size (fun k_ => (w.heap.size ≤ k_) ∧ some k_ ≠ (.slice D m.length E : Value).ownBlock) (.slice I l.length J) l) := ⟨by (with_reducible repeat (first | apply Kd.Ef | apply Kd.Ed | apply Kd.EU)); exact Kd.Ax (Kd.CC (p := ⟨a, 3, none⟩) (Kd.CC (p := ⟨a, 2, none⟩) (Kd.CC (p := ⟨a, 1, none⟩) (Kd.CC (p := ⟨a, 0, none⟩) (Kd.Bi u.1 t.1 (by decide)) (fun _ hk => hk.2) (.slice I l.length J)) (fun _ hk => hk.2) (.slice D m.length E)) (fun _ hk => hk.2) (.slice F q.length G)) (fun _ hk => hk.2) (.int .i64 s)) (fun _ hk => ⟨hk.1.1, hk.1.2⟩)⟩
 have n1_ : Aside0 (Kd.R (Kd.int .i64) 3 ((((w8.setCell ⟨a, 0, none⟩ (.slice I l.length J)).setCell ⟨a, 1, none⟩ (.slice D m.length E)).setCell ⟨a, 2, none⟩ (.slice F q.length G)).setCell ⟨a, 3, none⟩ (.int .i64 s)) w.heap.size (fun k_ => (w.heap.size ≤ k_) ∧ some k_ ≠ (.slice I l.length J : Value).ownBlock) (.slice D m.length E) m) := ⟨by (with_reducible repeat (first | apply Kd.Ef | apply Kd.Ed | apply Kd.EU)); exact Kd.Ax (Kd.CC (p := ⟨a, 3, none⟩) (Kd.CC (p := ⟨a, 2, none⟩) (Kd.CC (p := ⟨a, 1, none⟩) (Kd.CC (p := ⟨a, 0, none⟩) (Kd.Bi x.1 t.1 (by decide)) (fun _ hk => hk.2) (.slice I l.length J)) (fun _ hk => hk.2) (.slice D m.length E)) (fun _ hk => hk.2) (.slice F q.length G)) (fun _ hk => hk.2) (.int .i64 s)) (fun _ hk => ⟨hk.1.1, hk.1.2⟩)⟩
 have n2_ : Aside0 (Kd.N k75 75 ((((w8.setCell ⟨a, 0, none⟩ (.slice I l.length J)).setCell ⟨a, 1, none⟩ (.slice D m.length E)).setCell ⟨a, 2, none⟩ (.slice F q.length G)).setCell ⟨a, 3, none⟩ (.int .i64 s)) w.heap.size (fun k_ => (w.heap.size ≤ k_) ∧ some k_ ≠ (.slice I l.length J : Value).ownBlock ∧ some k_ ≠ (.slice D m.length E : Value).ownBlock ∧ k_ ≠ c ∧ k_ ≠ g1010 ∧ k_ ≠ a) (.slice F q.length G) q) := ⟨by (with_reducible repeat (first | apply Kd.F4 | apply Kd.F3 | apply Kd.E6)); exact Kd.DW (Kd.EY (p := ⟨a, 3, none⟩) (Kd.EY (p := ⟨a, 2, none⟩) (Kd.EY (p := ⟨a, 1, none⟩) (Kd.EY (p := ⟨a, 0, none⟩) (Kd.DW y.1 (fun k_ hk => (⟨hk, hk.2⟩ : _ ∧ k_ ≠ a))) (fun _ hk => hk.2) (.slice I l.length J)) (fun _ hk => hk.2) (.slice D m.length E)) (fun _ hk => hk.2) (.slice F q.length G)) (fun _ hk => hk.2) (.int .i64 s)) (fun _ hk => ⟨hk.1.1.1, ⟨hk.1.1.2.1, ⟨hk.1.1.2.2.1, ⟨hk.1.1.2.2.2.1, ⟨hk.1.1.2.2.2.2, hk.1.2⟩⟩⟩⟩⟩)⟩
 have n3_ : Aside0 (((((w8.setCell ⟨a, 0, none⟩ (.slice I l.length J)).setCell ⟨a, 1, none⟩ (.slice D m.length E)).setCell ⟨a, 2, none⟩ (.slice F q.length G)).setCell ⟨a, 3, none⟩ (.int .i64 s)).heap[c]? = some (.cells #[.slice none 0 0, .slice none 0 0, .slice none 0 0, .int .i64 0] 34 (0, 0))) := ⟨pp_ d.1⟩
 have n4_ : Aside0 (((((w8.setCell ⟨a, 0, none⟩ (.slice I l.length J)).setCell ⟨a, 1, none⟩ (.slice D m.length E)).setCell ⟨a, 2, none⟩ (.slice F q.length G)).setCell ⟨a, 3, none⟩ (.int .i64 s)).heap[a]? = some (.cells #[.slice I l.length J, .slice D m.length E, .slice F q.length G, .int .i64 s] 34 (0, 0))) := ⟨pp_ t.1⟩
 have n5_ : Aside0 (Ae w ((((w8.setCell ⟨a, 0, none⟩ (.slice I l.length J)).setCell ⟨a, 1, none⟩ (.slice D m.length E)).setCell ⟨a, 2, none⟩ (.slice F q.length G)).setCell ⟨a, 3, none⟩ (.int .i64 s)) g1010 O T U) := ⟨Bz j.1 r.1 B.1⟩
 have n6_ : Aside0 (Below w.heap.size w ((((w8.setCell ⟨a, 0, none⟩ (.slice I l.length J)).setCell ⟨a, 1, none⟩ (.slice D m.length E)).setCell ⟨a, 2, none⟩ (.slice F q.length G)).setCell ⟨a, 3, none⟩ (.int .i64 s))) := ⟨Fo HB.1 (Ae.ge j.1) z.1 W.1⟩
 (try clear u)
 (try clear x)
 (try clear y)
 (try clear d)
 (try clear t)
 (try clear j)
 (try clear HB)
 generalize ((((w8.setCell ⟨a, 0, none⟩ (.slice I l.length J)).setCell ⟨a, 1, none⟩ (.slice D m.length E)).setCell ⟨a, 2, none⟩ (.slice F q.length G)).setCell ⟨a, 3, none⟩ (.int .i64 s)) = aU at n0_ n1_ n2_ n3_ n4_ n5_ n6_ ⊢
 have u := n0_
 have x := n1_
 have y := n2_
 have d := n3_
 have t := n4_
 have j := n5_
 have HB := n6_
 clear n0_ n1_ n2_ n3_ n4_ n5_ n6_
 have _ := Q_ (Kd.EU u.1)
 have _ := Q_ (Kd.EU x.1)
 have _ := Q_ (Kd.E6 y.1)
 have _ := Q_ (Bq d.1)
 have _ := Q_ (Bq t.1)
 have _ := Q_ (Ae.drew j.1)
 have _ := Q_ (Cm HB.1)
 clear u x y d t j HB
 rename_i u x y d t j HB
 refine Lx (n := 5) (S := fun w' => w'.cell? ⟨a, 0, none⟩ = some (.slice I l.length J) ∧ w'.cell? ⟨a, 1, none⟩ = some (.slice D m.length E) ∧ w'.cell? ⟨a, 2, none⟩ = some (.slice F q.length G) ∧ w'.cell? ⟨a, 3, none⟩ = some (.int .i64 s)) (ds := []) (tf_ 0 5) (by kernel_rfl) rfl rfl (sb_ t.1) (fun hHeld => ?_)
 generalize aU.drew = a2 at u x y d t j HB hHeld ⊢
 refine Nh (i := 1) (N := some 11) (v := ?_) (a' := ?_) #[false, true, false, false, false] rfl rfl (by kernel_rfl) (fun _ _ _ h => h) (Or.inl ⟨by rfl, ?_⟩) ?_ ?_
 rotate_left
 ·intro w'
  go_simp
  (try (simp only [Instr.field]; simp only [underlying, hu34]; go_simp; simp only [asAgg]; go_simp))
  with_reducible rfl
 rotate_left
 ·simp only [Act.put, List.setIfInBounds_toArray, List.set_cons_zero, List.set_cons_succ, E4, E']
  rfl
 refine take_ (i := 0) (N := some 10) (v := ?_) (a' := ?_) #[true, true, false, false, false] rfl rfl (by kernel_rfl) (fun _ _ _ h => h) (Or.inl ⟨by rfl, ?_⟩) hHeld ?_ ?_
 rotate_left
 ·rintro w' ⟨s0, s1, s2, s3⟩
  go_simp
  (try (simp only [Instr.field]; simp only [underlying, hu34]; go_simp; simp only [asAgg]; go_simp))
  with_reducible rfl
 rotate_left
 ·simp only [Act.put, List.setIfInBounds_toArray, List.set_cons_zero, List.set_cons_succ, E4, E']
  rfl
 refine Vy (i := 2) (N := some 12) #[true, true, true, false, false] rfl rfl (by kernel_rfl) (by decide) (fun K hK => ?_)
 refine gs_ Tryz.func77 #[.pointer (some ⟨g1010, 0, none⟩), .int .i64 60] ?_
 with_reducible refine (Cc.calls g1010 O T U 60 Z ai aj w _ ?side1 ?side2 A4.1).mono ?_
 (case side1 => exact Bz j.1 r.1 B.1)
 (case side2 => exact Fo HB.1 (Ae.ge j.1) z.1 W.1)
 rintro e af ⟨rfl, hi, hb, hk⟩
 refine ⟨_, rfl, ?_⟩
 have _ := Q_ (Aw.blk hk (g' := c) (o := .cells #[.slice none 0 0, .slice none 0 0, .slice none 0 0, .int .i64 0] 34 (0, 0)) (pk_ d.1) P.1 (by simp))
 have _ := Q_ (Kd.Ax (Kd.Fg (Ae.apart (show Ae w _ g1010 O T U from Bz j.1 r.1 B.1) (pr_ u.1) (by decide)) hk (fun _ h => h.2)) (fun _ h => h.1))
 have _ := Q_ (Kd.Ax (Kd.Fg (Ae.apart (show Ae w _ g1010 O T U from Bz j.1 r.1 B.1) (pr_ x.1) (by decide)) hk (fun _ h => h.2)) (fun _ h => h.1))
 have _ := Q_ (Kd.DW (Kd.Lo (Kd.DW (ok := fun k_ => (((w.heap.size ≤ k_)) ∧ (some k_ ≠ (.slice I l.length J : Value).ownBlock ∧ (some k_ ≠ (.slice D m.length E : Value).ownBlock ∧ (k_ ≠ c ∧ (k_ ≠ g1010 ∧ k_ ≠ a)))))) (px_ y.1) (fun k_ hk_ => (⟨hk_, hk_.2.2.2.2.1⟩ : _ ∧ k_ ≠ g1010))) hk (fun _ h => h.2)) (fun _ h => h.1))
 have _ := Q_ (Aw.blk hk (g' := a) (o := .cells #[.slice I l.length J, .slice D m.length E, .slice F q.length G, .int .i64 s] 34 (0, 0)) (pk_ t.1) Q.1 (by simp))
 have _ := Q_ (hb)
 have _ := Q_ (hi)
 clear d u x y t HB j
 rename_i d u x y t HB j
 (try clear hb hk hi)
 refine hK.out _ _ (sb_ t.1) (fun hHeld => ?_)
 clear hK K
 refine no_ (some 12) ?_
 refine Vy (i := 3) (N := none) #[true, true, true, true, false] rfl rfl (by kernel_rfl) (by decide) (fun K hK => ?_)
 have aV : af.cell? ⟨c, 0, none⟩ = some (.slice none 0 0) := (BM d.1 0).trans rfl
 have aL := DI d.1 0
 have ar := b.1
 have an := A.1
 have aW : af.cell? ⟨c, 1, none⟩ = some (.slice none 0 0) := (BM d.1 1).trans rfl
 have aM := DI d.1 1
 have au := b.1
 have ao := A.1
 have aX : af.cell? ⟨c, 2, none⟩ = some (.slice none 0 0) := (BM d.1 2).trans rfl
 have aN := DI d.1 2
 have av := b.1
 have ap := A.1
 have aY : af.cell? ⟨c, 3, none⟩ = some (.int .i64 0) := (BM d.1 3).trans rfl
 have aO := DI d.1 3
 have aw := b.1
 have aq := A.1
 refine J2 (w1 := ?_) (by rfl) rfl ?_ ?_
 rotate_left
 ·go_simp
  rfl
 refine hK.out _ _ ⟨((cell_far (p := ⟨c, _, none⟩) b.1 _).trans (((cell_far (p := ⟨c, _, none⟩) b.1 _).trans (((cell_far (p := ⟨c, _, none⟩) b.1 _).trans (((cell_far (p := ⟨c, _, none⟩) b.1 _).trans (hHeld.1)))))))), ((cell_far (p := ⟨c, _, none⟩) b.1 _).trans (((cell_far (p := ⟨c, _, none⟩) b.1 _).trans (((cell_far (p := ⟨c, _, none⟩) b.1 _).trans (((cell_far (p := ⟨c, _, none⟩) b.1 _).trans (hHeld.2.1)))))))), ((cell_far (p := ⟨c, _, none⟩) b.1 _).trans (((cell_far (p := ⟨c, _, none⟩) b.1 _).trans (((cell_far (p := ⟨c, _, none⟩) b.1 _).trans (((cell_far (p := ⟨c, _, none⟩) b.1 _).trans (hHeld.2.2.1)))))))), ((cell_far (p := ⟨c, _, none⟩) b.1 _).trans (((cell_far (p := ⟨c, _, none⟩) b.1 _).trans (((cell_far (p := ⟨c, _, none⟩) b.1 _).trans (((cell_far (p := ⟨c, _, none⟩) b.1 _).trans (hHeld.2.2.2))))))))⟩ (fun hHeld => ?_)
 clear hK K
 refine Nh (i := 4) (N := some 3) (v := ?_) (a' := ?_) #[true, true, true, true, true] rfl rfl (by kernel_rfl) (fun _ _ _ h => h) (Or.inl ⟨by rfl, ?_⟩) ?_ ?_
 rotate_left
 ·intro w'
  go_simp
  (try (simp only [Instr.field]; simp only [underlying, hu34]; go_simp; simp only [asAgg]; go_simp))
  with_reducible rfl
 rotate_left
 ·simp only [Act.put, List.setIfInBounds_toArray, List.set_cons_zero, List.set_cons_succ, E4, E']
  rfl
 refine G8 (by kernel_rfl) ?_
 try go_wp2
 refine bodyPost_ret (HY rfl _ _ c 34 #[.slice I l.length J, .slice D m.length E, .slice F q.length G, .int .i64 s] (0, 0) _ rfl (pp_ d.1) Tryz.underlying34 rfl (by kernel_rfl)) rfl ?_
 exact ⟨_, _, _, er_, by (with_reducible repeat (first | apply Kd.Ef | apply Kd.Ed | apply Kd.EU)); exact Kd.Ax (Kd.CC (p := ⟨c, 3, none⟩) (Kd.CC (p := ⟨c, 2, none⟩) (Kd.CC (p := ⟨c, 1, none⟩) (Kd.CC (p := ⟨c, 0, none⟩) (Kd.Bi u.1 d.1 (by decide)) (fun _ hk => hk.2) (.slice I l.length J)) (fun _ hk => hk.2) (.slice D m.length E)) (fun _ hk => hk.2) (.slice F q.length G)) (fun _ hk => hk.2) (.int .i64 s)) (fun _ hk => ⟨hk.1.1, hk.1.2⟩), by (with_reducible repeat (first | apply Kd.Ef | apply Kd.Ed | apply Kd.EU)); exact Kd.Ax (Kd.CC (p := ⟨c, 3, none⟩) (Kd.CC (p := ⟨c, 2, none⟩) (Kd.CC (p := ⟨c, 1, none⟩) (Kd.CC (p := ⟨c, 0, none⟩) (Kd.Bi x.1 d.1 (by decide)) (fun _ hk => hk.2) (.slice I l.length J)) (fun _ hk => hk.2) (.slice D m.length E)) (fun _ hk => hk.2) (.slice F q.length G)) (fun _ hk => hk.2) (.int .i64 s)) (fun _ hk => ⟨hk.1.1, hk.1.2⟩), by (with_reducible repeat (first | apply Kd.F4 | apply Kd.F3 | apply Kd.E6)); exact Kd.DW (Kd.EY (p := ⟨c, 3, none⟩) (Kd.EY (p := ⟨c, 2, none⟩) (Kd.EY (p := ⟨c, 1, none⟩) (Kd.EY (p := ⟨c, 0, none⟩) (Kd.DW y.1 (fun k_ hk => (⟨hk, hk.2.2.2.1⟩ : _ ∧ k_ ≠ c))) (fun _ hk => hk.2) (.slice I l.length J)) (fun _ hk => hk.2) (.slice D m.length E)) (fun _ hk => hk.2) (.slice F q.length G)) (fun _ hk => hk.2) (.int .i64 s)) (fun _ hk => ⟨hk.1.1, ⟨hk.1.2.1, hk.1.2.2.1⟩⟩), Fo HB.1 (Ae.ge j.1) z.1 W.1⟩
end Go.Proofs.YtibmehnippjakaaGreat.Print
