-- Written by a program of this session (printx.py) out of the translation; Lean checks it.
import Derived.Test.YtibmehnippjakaaGreatPrint0
import Derived.Test.YtibmehnippjakaaGreatPrint17
namespace Go.Proofs.YtibmehnippjakaaGreat.Print
open Go.RowKit Go.Proofs.YtibmehnippjakaaGreatW.PrintWords Go.Proofs.YtibmehnippjakaaGreatW.PrintLast Go.Proofs.YtibmehnippjakaaGreatW.PrintMore Go.Proofs.YtibmehnippjakaaGreat.Short
attribute [local go_sem] F8 Fq G5 G6 FA FH F5 Fp
set_option linter.unusedVariables false
set_option maxHeartbeats 8000000
set_option maxRecDepth 100000
set_option linter.unusedSimpArgs false
def Bc.l0 : Nat → List Int → Int → List Int → Int → Int → Option (List Int × Int × Int)
 | 0, _, _, _, _, _ => none
 | k + 1, g, h, b, c, d => if h > 0 then ((D'.f b c d (([1, 2, 3, 10, 40, 200] : List Int))).bind fun a => ((BZ.f k g a.1).bind fun e => (Bc.l0 k e (wrap64 (h - 1)) b a.2.1 a.2.2))) else (some (g, c, d))
def Bc.f (k : Nat) (b : List Int) (c : Int) (d : Int) : Option (List Int × Int × Int) := (Cc.f b c d 5).bind fun a => (Bc.l0 k (([] : List Int)) a.1 b a.2.1 a.2.2)
theorem Bc.mono_l : ∀ k, (∀ a b c d e, LeO (Bc.l0 k a b c d e) (Bc.l0 (k + 1) a b c d e))
 | 0 => fun _ _ _ _ _ r h => by simp [Bc.l0] at h
 | k + 1 => by
  have ih0 := Bc.mono_l k
  ·intro a b c d e
   unfold Bc.l0
   exact H8 ih0 BZ.mono
theorem Bc.mono : ∀ a b c k, LeO (Bc.f k a b c) (Bc.f (k + 1) a b c) := by
 intro a b c k
 have ih0 := Bc.mono_l k
 unfold Bc.f
 exact H8 ih0 BZ.mono
theorem Bc.calls (k : Nat) (g : Nat) (b : List Int) (n : Int) (o : Int) (J : List Int) (K : Int) (L : Int) (w0 w : World) (hI : Ae w0 w g b n o) (hB : Below w0.heap.size w0 w) (h : Bc.f k b n o = some (J, K, L)) :
  Calls Tryz.prog 44 #[.pointer (some ⟨g, 0, none⟩)] w fun e w' => ∃ v0_ : Value, e = .returned (v0_) ∧ Kd.R (Kd.int .i64) 3 w' w.heap.size (fun _ => True) v0_ J ∧ Ae w0 w' g b K L ∧ Below w0.heap.size w0 w' ∧ Aw w w' g none := by
 have a := Q_ hI
 have HK := Q_ (Aw.refl w g none)
 have HL := Q_ hB.size
 clear hI
 have HW0 := Q_ hB.size
 have HB := Q_ hB
 clear hB
 unfold Bc.f at h
 have H := h
 clear h
 obtain ⟨C, hy816⟩ : ∃ y_ : List Int, y_ = (([] : List Int)) := ⟨_, rfl⟩
 replace H : ((Cc.f b n o 5).bind fun l => (Bc.l0 k C l.1 b l.2.1 l.2.2)) = some (J, K, L) := hb_ hy816 H
 have u := Q_ hy816
 clear hy816
 obtain ⟨⟨y, z, A⟩, A2, H⟩ := bs_ H
 replace H : (Bc.l0 k C y b z A) = some (J, K, L) := H
 have H' := Q_ H
 clear H
 go_enter Tryz.func44, Tryz.ntmps44
 go_wp2_with (first | (refine Ie .i64 3 5 ([] : List Int) ?_; intro Y w3 x hb; rw [← u.1] at x; have _ := Q_ (Kd.BV x (DN (w := w) (g := g) (row := none) (Gi HK.1))); have _ := Q_ (Ae.below (D3 a.1) hb); have _ := Q_ (Aw.trans (Gi HK.1) (Aw.of_below hb g none) (.inl rfl)); have _ := Q_ (AD (Hg HB.1 (Ae.ge a.1)) hb); clear a HK HB; rename_i r a HK HB; clear hb x) | (refine gk_ 77 7 Tryz.func77 #[.pointer (some ⟨g, 0, none⟩), .int .i64 5] ?_; (with_reducible refine (Cc.calls g b n o 5 y z A w0 _ ?side1 ?side2 A2.1).mono ?_); (case side1 => exact D3 a.1); (case side2 => exact Hg HB.1 (Ae.ge a.1)); rintro e w5 ⟨rfl, hi, hb, hk⟩; refine ⟨_, rfl, ?_⟩; have _ := Q_ (Kd.Ax (Kd.Fg (Ae.apart (show Ae w0 _ g b n o from D3 a.1) (pr_ r.1) (by decide)) hk (fun _ h => h.2)) (fun _ h => h.1)); have _ := Q_ (Aw.trans (Gi HK.1) hk (.inl rfl)); have _ := Q_ (hb); have _ := Q_ (hi); clear r HK HB a; rename_i r HK HB a; (try clear hb hk hi)))
 (try simp only [Act.put, s1_, s2_, s3_])
 go_loopg [3, 4] k (fun kq v3 v4 w' => ∃ (p : List Int) (q : Int) (i : Int) (j : Int), v4 = .int .i64 q ∧ Aside0 (Bc.l0 kq p q b i j = some (J, K, L)) ∧ Aside0 (kq ≤ k) ∧ Aside0 (Kd.R (Kd.int .i64) 3 w' w.heap.size (fun _ => True) v3 p) ∧ Aside0 (Ae w0 w' g b i j) ∧ Aside0 (Aw w w' g none) ∧ Aside0 (Below w0.heap.size w0 w'))
 case atStart => exact ⟨(C), (y), (z), (A), el_, H', ⟨Nat.le_refl _⟩, ⟨pr_ r.1⟩, ⟨D3 a.1⟩, ⟨Gi HK.1⟩, ⟨Hg HB.1 (Ae.ge a.1)⟩⟩
 clear H'
 obtain ⟨p, q, i, j, rfl, HA, S, d, a, HK, HB⟩ := hrel
 rcases gk with _ | k1
 ·exact absurd HA.1 (by simp [Bc.l0])
 have H := HA.1
 clear HA
 simp only [Bc.l0] at H
 by_cases O : q > 0
 rotate_left
 ·rw [if_neg O] at H
  have T := decide_eq_false O
  clear O
  simp only [Option.some.injEq, Prod.mk.injEq] at H
  obtain ⟨rfl, rfl, rfl⟩ := H
  go_wp2
  go_ret
  exact ⟨_, er_, pr_ d.1, D3 a.1, Hg HB.1 (Ae.ge a.1), Gi HK.1⟩
 rw [if_pos O] at H
 have T := decide_eq_true O
 clear O
 obtain ⟨D, hy822⟩ : ∃ y_ : List Int, y_ = (([1, 2, 3, 10, 40, 200] : List Int)) := ⟨_, rfl⟩
 replace H : ((D'.f b i j D).bind fun s => ((BZ.f k1 p s.1).bind fun t => (Bc.l0 k1 t (wrap64 (q - 1)) b s.2.1 s.2.2))) = some (J, K, L) := hb_ hy822 H
 have v := Q_ hy822
 clear hy822
 obtain ⟨⟨B, F, G⟩, A7, H⟩ := bs_ H
 (try dsimp only at H)
 obtain ⟨t, A8, H⟩ := bs_ H
 (try dsimp only at H)
 have H' := Q_ H
 clear H
 go_wp2_with (first | (refine Ie .i64 3 14 ([1, 2, 3, 10, 40, 200] : List Int) ?_; intro Z w9 m hb; rw [← v.1] at m; have _ := Q_ (Kd.B0 (pr_ d.1) (Kd.BJ m) hb); have _ := Q_ (Kd.BV (Kd.B8 m (Kd.Dj (pr_ d.1))) (DN (w := w) (g := g) (row := none) (Gi HK.1))); have _ := Q_ (Ae.below (D3 a.1) hb); have _ := Q_ (Aw.trans (Gi HK.1) (Aw.of_below hb g none) (.inl rfl)); have _ := Q_ (AD (Hg HB.1 (Ae.ge a.1)) hb); clear d a HK HB; rename_i d c a HK HB; clear hb m; obtain ⟨P, U, W⟩ := Kd.Bo c.1; subst W) | (refine gk_ 45 15 Tryz.func45 #[.pointer (some ⟨g, 0, none⟩), .slice P D.length U] ?_; (with_reducible refine (D'.calls g b i j _ _ D B F G w0 _ ?side1 ?side2 ?side3 ?side4 ?side5 A7.1).mono ?_); (case side1 => exact D3 a.1); (case side2 => exact Hg HB.1 (Ae.ge a.1)); (case side3 => exact pc_ ((Kd.BH c.1).2.2)); (case side4 => exact (Kd.BH c.1).2.1); (case side5 => exact Ig (Ae.own_ne a.1 c.1 (by decide))); rintro e ag ⟨rfl, hi, hb, hk⟩; refine ⟨_, rfl, ?_⟩; have _ := Q_ (Kd.Ax (Kd.Fg (Ae.apart (show Ae w0 _ g b i j from D3 a.1) (pr_ d.1) (by decide)) hk (fun _ h => h.2)) (fun _ h => h.1)); have _ := Q_ (Kd.Ax (Kd.Fg (Ae.apart (show Ae w0 _ g b i j from D3 a.1) (pr_ c.1) (by decide)) hk (fun _ h => h.2)) (fun _ h => h.1)); have _ := Q_ (Aw.trans (Gi HK.1) hk (.inl rfl)); have _ := Q_ (hb); have _ := Q_ (hi); clear d c HK HB a; rename_i d c HK HB a; (try clear hb hk hi); obtain ⟨Q, V, X⟩ := Kd.Bo d.1; subst X) | (refine gk_ 78 16 Tryz.func78 #[.slice Q p.length V, .int .i64 B] ?_; (with_reducible refine (BZ.calls k1 _ _ p B t _ ?side1 ?side2 A8.1).mono ?_); (case side1 => exact pc_ ((Kd.BH d.1).2.2)); (case side2 => exact (Kd.BH d.1).2.1); rintro e ah ⟨aa, rfl, E, hb⟩; refine ⟨_, rfl, ?_⟩; have _ := Q_ (Kd.B0 (pr_ d.1) (Kd.BJ E) hb); have _ := Q_ (Kd.B0 (pr_ c.1) (Kd.BJ E) hb); have _ := Q_ (Kd.BV (Kd.B8 (Kd.B8 E (Kd.Dj (pr_ d.1))) (Kd.Dj (pr_ c.1))) (DN (w := w) (g := g) (row := none) (Gi HK.1))); have _ := Q_ (Ae.below (D3 a.1) hb); have _ := Q_ (Aw.trans (Gi HK.1) (Aw.of_below hb g none) (.inl rfl)); have _ := Q_ (AD (Hg HB.1 (Ae.ge a.1)) hb); clear d c a HK HB; rename_i d c I a HK HB; (try clear hb E)))
 go_roundg k1
 case measure => have := S.1; omega
 case rel => exact ⟨(t), (wrap64 (q - 1)), (F), (G), el_, H', ⟨by have := S.1; omega⟩, ⟨pr_ (Kd.Ax I.1 (fun _ hk => trivial))⟩, ⟨D3 a.1⟩, ⟨Gi HK.1⟩, ⟨Hg HB.1 (Ae.ge a.1)⟩⟩
def EA.f (k : Nat) (e : List Int) (g : Int) (h : Int) : Option (Int × List Int × List Int × Bool × Int × Int) := (Cc.f e g h 7).bind fun a => (if a.1 = 0 then ((Cc.f e a.2.1 a.2.2 6).bind fun b => (some (wrap64 (1 + b.1), ([] : List Int), ([] : List Int), false, b.2.1, b.2.2))) else (if a.1 = 1 then ((Bc.f k e a.2.1 a.2.2).bind fun c => (some (0, c.1, ([] : List Int), false, c.2.1, c.2.2))) else (if a.1 = 2 then ((Bc.f k e a.2.1 a.2.2).bind fun d => (some (0, ([] : List Int), d.1, false, d.2.1, d.2.2))) else (if a.1 = 3 then (some (0, ([] : List Int), ([] : List Int), true, a.2.1, a.2.2)) else (some (0, ([] : List Int), ([] : List Int), false, a.2.1, a.2.2))))))
theorem EA.mono : ∀ a b c k, LeO (EA.f k a b c) (EA.f (k + 1) a b c) := by
 intro a b c k
 unfold EA.f
 exact G7 Bc.mono
theorem EA.calls (k : Nat) (g : Nat) (x : List Int) (A : Int) (B : Int) (r1 : Int) (r2 : List Int) (r3 : List Int) (r4 : Bool) (r5 : Int) (r6 : Int) (w0 w : World) (hI : Ae w0 w g x A B) (hB : Below w0.heap.size w0 w) (h : EA.f k x A B = some (r1, r2, r3, r4, r5, r6)) :
  Calls Tryz.prog 159 #[.pointer (some ⟨g, 0, none⟩)] w fun e w' => ∃ v1_ v2_ : Value, e = .returned (.agg #[.int .i64 r1, v1_, v2_, .bool r4]) ∧ Kd.R (Kd.int .i64) 3 w' w.heap.size (fun k_ => some k_ ≠ (v2_ : Value).ownBlock) v1_ r2 ∧ Kd.R (Kd.int .i64) 3 w' w.heap.size (fun k_ => some k_ ≠ (v1_ : Value).ownBlock) v2_ r3 ∧ Ae w0 w' g x r5 r6 ∧ Below w0.heap.size w0 w' ∧ Aw w w' g none := by
 have hu75 := Tryz.underlying75
 have j := Q_ hI
 have HK := Q_ (Aw.refl w g none)
 have HL := Q_ hB.size
 clear hI
 have HW0 := Q_ hB.size
 have HB := Q_ hB
 clear hB
 unfold EA.f at h
 have H := h
 clear h
 have HS_ := Q_ H
 clear H
 go_enter Tryz.func159, Tryz.ntmps159
 go_upto_region 1 with (first | (refine bg_ 2 #[.int .i64 0, .slice none 0 0, .slice none 0 0, .bool false] 75 ?_; intro i hg w2 hbox hb; have _ := Q_ (Ae.below (D3 j.1) hb); have _ := Q_ (Aw.trans (Gi HK.1) (Aw.of_below hb g none) (.inl rfl)); have _ := Q_ (AD (Hg HB.1 (Ae.ge j.1)) hb); have a := Q_ (hbox); have q := Q_ ((by rw [hg]; exact (DN (w := w) (g := g) (row := none) (Gi HK.1)) : w.heap.size ≤ i)); have v := Q_ (Nat.le_trans HW0.1 q.1); have b := Q_ ((by rw [hg]; exact Nat.ne_of_lt (Ae.lt (show Ae w0 _ g x A B from D3 j.1)) : g ≠ i)); have r := Q_ b.1.symm; clear j HK HB; rename_i j HK HB; clear hb hbox hg))
 (try simp only [Act.put, s1_, s2_, s3_])
 have H := HS_.1
 clear HS_
 have HS_ := Q_ H
 clear H
 go_upto_region 2 with (first | (refine bg_ 3 #[.int .i64 0, .slice none 0 0, .slice none 0 0, .bool false] 75 ?_; intro z hg w3 hbox hb; have _ := Q_ (Ae.below (HQ j.1 b.1) hb); have _ := Q_ (bb_ a.1 hb); have _ := Q_ (Aw.trans (JH HK.1 q.1) (Aw.of_below hb g none) (.inl rfl)); have _ := Q_ (AD (Jo HB.1 (Ae.ge j.1) v.1) hb); have d := Q_ (hbox); have u := Q_ ((by rw [hg]; exact (DN (w := w) (g := g) (row := none) (JH HK.1 q.1)) : w.heap.size ≤ z)); have y := Q_ (Nat.le_trans HW0.1 u.1); have n := Q_ (nb_ hg a); have t := Q_ n.1.symm; have c := Q_ ((by rw [hg]; exact Nat.ne_of_lt (Ae.lt (show Ae w0 _ g x A B from HQ j.1 b.1)) : g ≠ z)); have l := Q_ c.1.symm; clear j a HK HB; rename_i j a HK HB; clear hb hbox hg; have be := t.1; have bg := n.1; have bf := l.1; have bh := c.1; have bd := E8 d.1))
 (try simp only [Act.put, s1_, s2_, s3_])
 have H := HS_.1
 clear HS_
 obtain ⟨⟨m, L, M⟩, A7, H⟩ := bs_ H
 (try dsimp only at H)
 have HS_ := Q_ H
 clear H
 go_upto_if 7 with (first | (refine gk_ 77 6 Tryz.func77 #[.pointer (some ⟨g, 0, none⟩), .int .i64 7] ?_; (with_reducible refine (Cc.calls g x A B 7 m L M w0 _ ?side1 ?side2 A7.1).mono ?_); (case side1 => exact Bz j.1 b.1 c.1); (case side2 => exact Fo HB.1 (Ae.ge j.1) v.1 y.1); rintro e w8 ⟨rfl, hi, hb, hk⟩; refine ⟨_, rfl, ?_⟩; have _ := Q_ (Aw.blk hk (g' := i) (o := .cells #[.int .i64 0, .slice none 0 0, .slice none 0 0, .bool false] 75 (0, 0)) (pp_ a.1) r.1 (by simp)); have _ := Q_ (Aw.blk hk (g' := z) (o := .cells #[.int .i64 0, .slice none 0 0, .slice none 0 0, .bool false] 75 (0, 0)) (pp_ d.1) l.1 (by simp)); have _ := Q_ (Aw.trans (GV HK.1 q.1 u.1) hk (.inl rfl)); have _ := Q_ (hb); have _ := Q_ (hi); clear a d HK HB j; rename_i a d HK HB j; (try clear hb hk hi)))
 (try simp only [Act.put, s1_, s2_, s3_])
 have H := HS_.1
 clear HS_
 by_cases c9 : m = 0
 ·rw [if_pos c9] at H
  have C : (m == 0) = true := beq_iff_eq.mpr c9
  have D : (m != 0) = false := bne_eq_false_iff_eq.mpr c9
  clear c9
  (first | rw [C] | (simp only [E4, E']; rw [C]) | rw [D] | (have c_ := D; rw [bne] at c_; rw [c_]; clear c_) | skip)
  obtain ⟨⟨Y, ai, aj⟩, ao, H⟩ := bs_ H
  (try dsimp only at H)
  simp only [Option.some.injEq, Prod.mk.injEq] at H
  obtain ⟨rfl, rfl, rfl, rfl, rfl, rfl⟩ := H
  go_wp2_with (first | (refine gk_ 77 10 Tryz.func77 #[.pointer (some ⟨g, 0, none⟩), .int .i64 6] ?_; (with_reducible refine (Cc.calls g x L M 6 Y ai aj w0 _ ?side1 ?side2 ao.1).mono ?_); (case side1 => exact Bz j.1 b.1 c.1); (case side2 => exact Fo HB.1 (Ae.ge j.1) v.1 y.1); rintro e bl ⟨rfl, hi, hb, hk⟩; refine ⟨_, rfl, ?_⟩; have _ := Q_ (Aw.blk hk (g' := i) (o := .cells #[.int .i64 0, .slice none 0 0, .slice none 0 0, .bool false] 75 (0, 0)) (pk_ a.1) r.1 (by simp)); have _ := Q_ (Aw.blk hk (g' := z) (o := .cells #[.int .i64 0, .slice none 0 0, .slice none 0 0, .bool false] 75 (0, 0)) (pk_ d.1) l.1 (by simp)); have _ := Q_ (Aw.trans (GV HK.1 q.1 u.1) hk (.inl rfl)); have _ := Q_ (hb); have _ := Q_ (hi); clear a d HK HB j; rename_i a d HK HB j; (try clear hb hk hi); have aD := t.1; have aS := n.1; have aE := l.1; have aT := c.1; have ar := E8 d.1; have aF := r.1; have aU := b.1; have au := E8 a.1))
  refine bodyPost_ret (results_cell_row rfl _ _ i 75 #[.int .i64 (wrap64 (1 + Y)), .slice none 0 0, .slice none 0 0, .bool false] (0, 0) _ rfl (pp_ a.1) Tryz.underlying75 rfl (by kernel_rfl)) rfl ?_
  exact ⟨_, _, er_, nl_, nl_, Bz j.1 b.1 c.1, Fo HB.1 (Ae.ge j.1) v.1 y.1, GV HK.1 q.1 u.1⟩
 rw [if_neg c9] at H
 have C : (m == 0) = false := beq_eq_false_iff_ne.mpr c9
 have D : (m != 0) = true := bne_iff_ne.mpr c9
 (first | rw [C] | (simp only [E4, E']; rw [C]) | rw [D] | (have c_ := D; rw [bne] at c_; rw [c_]; clear c_) | skip)
 by_cases I : m = 1
 ·rw [if_pos I] at H
  have Z : (m == 1) = true := beq_iff_eq.mpr I
  have aa : (m != 1) = false := bne_eq_false_iff_eq.mpr I
  clear I
  obtain ⟨⟨O, ak, al⟩, ap, H⟩ := bs_ H
  (try dsimp only at H)
  simp only [Option.some.injEq, Prod.mk.injEq] at H
  obtain ⟨rfl, rfl, rfl, rfl, rfl, rfl⟩ := H
  go_wp2_with (first | (refine gk_ 44 16 Tryz.func44 #[.pointer (some ⟨g, 0, none⟩)] ?_; (with_reducible refine (Bc.calls k g x L M O ak al w0 _ ?side1 ?side2 ap.1).mono ?_); (case side1 => exact Bz j.1 b.1 c.1); (case side2 => exact Fo HB.1 (Ae.ge j.1) v.1 y.1); rintro e bm ⟨bi, rfl, X, hi, hb, hk⟩; refine ⟨_, rfl, ?_⟩; have _ := Q_ (Aw.blk hk (g' := i) (o := .cells #[.int .i64 0, .slice none 0 0, .slice none 0 0, .bool false] 75 (0, 0)) (pk_ a.1) r.1 (by simp)); have _ := Q_ (Aw.blk hk (g' := z) (o := .cells #[.int .i64 0, .slice none 0 0, .slice none 0 0, .bool false] 75 (0, 0)) (pk_ d.1) l.1 (by simp)); have _ := Q_ (Kd.BV X (DN (w := w) (g := g) (row := none) (GV HK.1 q.1 u.1))); have _ := Q_ (Aw.trans (GV HK.1 q.1 u.1) hk (.inl rfl)); have _ := Q_ (hb); have _ := Q_ (hi); clear a d HK HB j; rename_i a d T HK HB j; (try clear hb hk hi X); obtain ⟨Q, V, ag⟩ := Kd.Bo T.1; subst ag; have aG := t.1; have aV := n.1; have aH := l.1; have aW := c.1; have av := E8 d.1; have aI := r.1; have aX := b.1; have aw := E8 a.1))
  refine bodyPost_ret (results_cell_row rfl _ _ i 75 #[.int .i64 0, .slice Q O.length V, .slice none 0 0, .bool false] (0, 0) _ rfl (pp_ a.1) Tryz.underlying75 rfl (by kernel_rfl)) rfl ?_
  exact ⟨_, _, er_, by (with_reducible repeat (first | apply Kd.Ef | apply Kd.Ed | apply Kd.EU)); exact Kd.Ax (Kd.CC (p := ⟨i, 3, none⟩) (Kd.CC (p := ⟨i, 2, none⟩) (Kd.CC (p := ⟨i, 1, none⟩) (Kd.CC (p := ⟨i, 0, none⟩) (Kd.CC (p := ⟨z, 1, none⟩) (Kd.Bi (Kd.Bi T.1 d.1 (by decide)) a.1 (by decide)) (fun _ hk => hk.1.2) (.slice Q O.length V)) (fun _ hk => hk.2) (.int .i64 0)) (fun _ hk => hk.2) (.slice Q O.length V)) (fun _ hk => hk.2) (.slice none 0 0)) (fun _ hk => hk.2) (.bool false)) (fun _ hk => (by simp [Value.ownBlock])), nl_, Bz j.1 b.1 c.1, Fo HB.1 (Ae.ge j.1) v.1 y.1, GV HK.1 q.1 u.1⟩
 rw [if_neg I] at H
 have Z : (m == 1) = false := beq_eq_false_iff_ne.mpr I
 have aa : (m != 1) = true := bne_iff_ne.mpr I
 by_cases J : m = 2
 ·rw [if_pos J] at H
  have ab : (m == 2) = true := beq_iff_eq.mpr J
  have ac : (m != 2) = false := bne_eq_false_iff_eq.mpr J
  clear J
  obtain ⟨⟨P, am, an⟩, aq, H⟩ := bs_ H
  (try dsimp only at H)
  simp only [Option.some.injEq, Prod.mk.injEq] at H
  obtain ⟨rfl, rfl, rfl, rfl, rfl, rfl⟩ := H
  go_wp2_with (first | (refine gk_ 44 21 Tryz.func44 #[.pointer (some ⟨g, 0, none⟩)] ?_; (with_reducible refine (Bc.calls k g x L M P am an w0 _ ?side1 ?side2 aq.1).mono ?_); (case side1 => exact Bz j.1 b.1 c.1); (case side2 => exact Fo HB.1 (Ae.ge j.1) v.1 y.1); rintro e bn ⟨bj, rfl, X, hi, hb, hk⟩; refine ⟨_, rfl, ?_⟩; have _ := Q_ (Aw.blk hk (g' := i) (o := .cells #[.int .i64 0, .slice none 0 0, .slice none 0 0, .bool false] 75 (0, 0)) (pk_ a.1) r.1 (by simp)); have _ := Q_ (Aw.blk hk (g' := z) (o := .cells #[.int .i64 0, .slice none 0 0, .slice none 0 0, .bool false] 75 (0, 0)) (pk_ d.1) l.1 (by simp)); have _ := Q_ (Kd.BV X (DN (w := w) (g := g) (row := none) (GV HK.1 q.1 u.1))); have _ := Q_ (Aw.trans (GV HK.1 q.1 u.1) hk (.inl rfl)); have _ := Q_ (hb); have _ := Q_ (hi); clear a d HK HB j; rename_i a d U HK HB j; (try clear hb hk hi X); obtain ⟨S, W, ah⟩ := Kd.Bo U.1; subst ah; have aJ := t.1; have aY := n.1; have aK := l.1; have aZ := c.1; have ax := E8 d.1; have aL := r.1; have a0 := b.1; have ay := E8 a.1))
  refine bodyPost_ret (results_cell_row rfl _ _ i 75 #[.int .i64 0, .slice none 0 0, .slice S P.length W, .bool false] (0, 0) _ rfl (pp_ a.1) Tryz.underlying75 rfl (by kernel_rfl)) rfl ?_
  exact ⟨_, _, er_, nl_, by (with_reducible repeat (first | apply Kd.Ef | apply Kd.Ed | apply Kd.EU)); exact Kd.Ax (Kd.CC (p := ⟨i, 3, none⟩) (Kd.CC (p := ⟨i, 2, none⟩) (Kd.CC (p := ⟨i, 1, none⟩) (Kd.CC (p := ⟨i, 0, none⟩) (Kd.CC (p := ⟨z, 2, none⟩) (Kd.Bi (Kd.Bi U.1 d.1 (by decide)) a.1 (by decide)) (fun _ hk => hk.1.2) (.slice S P.length W)) (fun _ hk => hk.2) (.int .i64 0)) (fun _ hk => hk.2) (.slice none 0 0)) (fun _ hk => hk.2) (.slice S P.length W)) (fun _ hk => hk.2) (.bool false)) (fun _ hk => (by simp [Value.ownBlock])), Bz j.1 b.1 c.1, Fo HB.1 (Ae.ge j.1) v.1 y.1, GV HK.1 q.1 u.1⟩
 rw [if_neg J] at H
 have ab : (m == 2) = false := beq_eq_false_iff_ne.mpr J
 have ac : (m != 2) = true := bne_iff_ne.mpr J
 by_cases K : m = 3
 rotate_left
 ·rw [if_neg K] at H
  have ad : (m == 3) = false := beq_eq_false_iff_ne.mpr K
  have ae : (m != 3) = true := bne_iff_ne.mpr K
  simp only [Option.some.injEq, Prod.mk.injEq] at H
  obtain ⟨rfl, rfl, rfl, rfl, rfl, rfl⟩ := H
  have aM := t.1
  have a1 := n.1
  have aN := l.1
  have a2 := c.1
  have az := E8 d.1
  have aO := r.1
  have a3 := b.1
  have aA := E8 a.1
  go_wp2
  refine bodyPost_ret (results_cell_row rfl _ _ i 75 #[.int .i64 0, .slice none 0 0, .slice none 0 0, .bool false] (0, 0) _ rfl (pp_ a.1) Tryz.underlying75 rfl (by kernel_rfl)) rfl ?_
  exact ⟨_, _, er_, nl_, nl_, Bz j.1 b.1 c.1, Fo HB.1 (Ae.ge j.1) v.1 y.1, GV HK.1 q.1 u.1⟩
 rw [if_pos K] at H
 have ad : (m == 3) = true := beq_iff_eq.mpr K
 have ae : (m != 3) = false := bne_eq_false_iff_eq.mpr K
 clear K
 simp only [Option.some.injEq, Prod.mk.injEq] at H
 obtain ⟨rfl, rfl, rfl, rfl, rfl, rfl⟩ := H
 have aP := t.1
 have a4 := n.1
 have aQ := l.1
 have a5 := c.1
 have aB := E8 d.1
 have aR := r.1
 have a6 := b.1
 have aC := E8 a.1
 go_wp2
 refine bodyPost_ret (results_cell_row rfl _ _ i 75 #[.int .i64 0, .slice none 0 0, .slice none 0 0, .bool true] (0, 0) _ rfl (pp_ a.1) Tryz.underlying75 rfl (by kernel_rfl)) rfl ?_
 exact ⟨_, _, er_, nl_, nl_, Bz j.1 b.1 c.1, Fo HB.1 (Ae.ge j.1) v.1 y.1, GV HK.1 q.1 u.1⟩
def Br.l0 : Nat → List (S75) → Int → List Int → Int → Int → Option ((List (S75)) × Int × Int)
 | 0, _, _, _, _, _ => none
 | k + 1, e, g, b, c, d => if g > 0 then ((EA.f k b c d).bind fun a => (if e.length < 2199023255552 then (Br.l0 k (e ++ [(⟨a.1, a.2.1, a.2.2.1, a.2.2.2.1⟩ : S75)]) (wrap64 (g - 1)) b a.2.2.2.2.1 a.2.2.2.2.2) else (none))) else (some (e, c, d))
def Br.f (k : Nat) (b : List Int) (c : Int) (d : Int) : Option ((List (S75)) × Int × Int) := (Cc.f b c d 4).bind fun a => (Br.l0 k (([] : List (S75))) a.1 b a.2.1 a.2.2)
theorem Br.mono_l : ∀ k, (∀ a b c d e, LeO (Br.l0 k a b c d e) (Br.l0 (k + 1) a b c d e))
 | 0 => fun _ _ _ _ _ r h => by simp [Br.l0] at h
 | k + 1 => by
  have ih0 := Br.mono_l k
  ·intro a b c d e
   unfold Br.l0
   exact H8 ih0 EA.mono
theorem Br.mono : ∀ a b c k, LeO (Br.f k a b c) (Br.f (k + 1) a b c) := by
 intro a b c k
 have ih0 := Br.mono_l k
 unfold Br.f
 exact H8 ih0 EA.mono
theorem Br.calls (k : Nat) (g : Nat) (c : List Int) (m : Int) (n : Int) (R : List (S75)) (T : Int) (U : Int) (w0 w : World) (hI : Ae w0 w g c m n) (hB : Below w0.heap.size w0 w) (h : Br.f k c m n = some (R, T, U)) :
  Calls Tryz.prog 158 #[.pointer (some ⟨g, 0, none⟩)] w fun e w' => ∃ v0_ : Value, e = .returned (v0_) ∧ Kd.S k75 75 w' w.heap.size (fun _ => True) v0_ R ∧ Ae w0 w' g c T U ∧ Below w0.heap.size w0 w' ∧ Aw w w' g none := by
 have a := Q_ hI
 have HK := Q_ (Aw.refl w g none)
 have HL := Q_ hB.size
 clear hI
 have HW0 := Q_ hB.size
 have HB := Q_ hB
 clear hB
 unfold Br.f at h
 have H := h
 clear h
 obtain ⟨F, hy849⟩ : ∃ y_ : List (S75), y_ = (([] : List (S75))) := ⟨_, rfl⟩
 replace H : ((Cc.f c m n 4).bind fun l => (Br.l0 k F l.1 c l.2.1 l.2.2)) = some (R, T, U) := hb_ hy849 H
 have y := Q_ hy849
 clear hy849
 obtain ⟨⟨A, B, C⟩, A2, H⟩ := bs_ H
 replace H : (Br.l0 k F A c B C) = some (R, T, U) := H
 have H' := Q_ H
 clear H
 go_enter Tryz.func158, Tryz.ntmps158
 go_wp2_with (first | ((with_reducible refine FP (N := 5) rfl ?_); refine Kd.Nn k75 _ 75 ?hg (N := 5) ?hd (xs := ([] : List (S75))) (inner := []) (ok := fun _ => True) (okp := fun _ => True) ?hr ?hp (fun _ hk => hk) trivial (Below.refl _ _) (Nat.le_refl _) (by simp) ?_; (case hd => rfl); (case hg => rfl); (case hr => first | (go_simp; done) | (go_simp; rfl)); (case hp => exact (Reps.none _ _)); intro ac w3 z hb hg_ hnew_; clear hg_ hnew_; rw [← y.1] at z; have _ := Q_ (Kd.Fh z (DN (w := w) (g := g) (row := none) (Gi HK.1))); have _ := Q_ (Ae.below (D3 a.1) hb); have _ := Q_ (Aw.trans (Gi HK.1) (Aw.of_below hb g none) (.inl rfl)); have _ := Q_ (AD (Hg HB.1 (Ae.ge a.1)) hb); clear a HK HB; rename_i s a HK HB; clear hb z) | (refine gk_ 77 7 Tryz.func77 #[.pointer (some ⟨g, 0, none⟩), .int .i64 4] ?_; (with_reducible refine (Cc.calls g c m n 4 A B C w0 _ ?side1 ?side2 A2.1).mono ?_); (case side1 => exact D3 a.1); (case side2 => exact Hg HB.1 (Ae.ge a.1)); rintro e w5 ⟨rfl, hi, hb, hk⟩; refine ⟨_, rfl, ?_⟩; have _ := Q_ (Kd.Ea (Kd.Nk (Ae.apartS (show Ae w0 _ g c m n from D3 a.1) (ps_ s.1) (by decide)) hk (fun _ h => h.2)) (fun _ h => h.1)); have _ := Q_ (Aw.trans (Gi HK.1) hk (.inl rfl)); have _ := Q_ (hb); have _ := Q_ (hi); clear s HK HB a; rename_i s HK HB a; (try clear hb hk hi)))
 (try simp only [Act.put, s1_, s2_, s3_])
 go_loopg [3, 4] k (fun kq v3 v4 w' => ∃ (q : List (S75)) (r : Int) (i : Int) (j : Int), v4 = .int .i64 r ∧ Aside0 (Br.l0 kq q r c i j = some (R, T, U)) ∧ Aside0 (kq ≤ k) ∧ Aside0 (Kd.S k75 75 w' w.heap.size (fun _ => True) v3 q) ∧ Aside0 (Ae w0 w' g c i j) ∧ Aside0 (Aw w w' g none) ∧ Aside0 (Below w0.heap.size w0 w'))
 case atStart => exact ⟨(F), (A), (B), (C), el_, H', ⟨Nat.le_refl _⟩, ⟨ps_ s.1⟩, ⟨D3 a.1⟩, ⟨Gi HK.1⟩, ⟨Hg HB.1 (Ae.ge a.1)⟩⟩
 clear H'
 obtain ⟨q, r, i, j, rfl, HA, W, d, a, HK, HB⟩ := hrel
 rcases gk with _ | k1
 ·exact absurd HA.1 (by simp [Br.l0])
 have H := HA.1
 clear HA
 simp only [Br.l0] at H
 by_cases V : r > 0
 rotate_left
 ·rw [if_neg V] at H
  have Y := decide_eq_false V
  clear V
  simp only [Option.some.injEq, Prod.mk.injEq] at H
  obtain ⟨rfl, rfl, rfl⟩ := H
  go_wp2
  go_ret
  exact ⟨_, er_, ps_ d.1, D3 a.1, Hg HB.1 (Ae.ge a.1), Gi HK.1⟩
 rw [if_pos V] at H
 have Y := decide_eq_true V
 clear V
 obtain ⟨⟨v, o, p, x, D, E⟩, A7, H⟩ := bs_ H
 (try dsimp only at H)
 by_cases c8 : q.length < 2199023255552
 rotate_left
 ·rw [if_neg c8] at H
  exact nn_ H
 rw [if_pos c8] at H
 have X := Q_ c8
 clear c8
 obtain ⟨L, hy865⟩ : ∃ y_ : List (S75), y_ = (q ++ [(⟨v, o, p, x⟩ : S75)]) := ⟨_, rfl⟩
 replace H : (Br.l0 k1 L (wrap64 (r - 1)) c D E) = some (R, T, U) := hb_ hy865 H
 have O := Q_ hy865
 clear hy865
 have H' := Q_ H
 clear H
 go_wp2_with (first | (refine gk_ 159 14 Tryz.func159 #[.pointer (some ⟨g, 0, none⟩)] ?_; (with_reducible refine (EA.calls k1 g c i j v o p x D E w0 _ ?side1 ?side2 A7.1).mono ?_); (case side1 => exact D3 a.1); (case side2 => exact Hg HB.1 (Ae.ge a.1)); rintro e w9 ⟨ad, ae, rfl, P, Q, hi, hb, hk⟩; refine ⟨_, rfl, ?_⟩; have _ := Q_ (Kd.Ea (Kd.JW (Kd.JW (Kd.Xg (Ae.apartS (show Ae w0 _ g c i j from D3 a.1) (ps_ d.1) (by decide)) hk) (Kd.BJ P)) (Kd.BJ Q)) (fun _ h_ => h_.1)); have _ := Q_ (Kd.BV P (DN (w := w) (g := g) (row := none) (Gi HK.1))); have _ := Q_ (Kd.BV Q (DN (w := w) (g := g) (row := none) (Gi HK.1))); have _ := Q_ (Aw.trans (Gi HK.1) hk (.inl rfl)); have _ := Q_ (hb); have _ := Q_ (hi); clear d HK HB a; rename_i d t u HK HB a; (try clear hb hk hi P Q); obtain ⟨G, J, Z⟩ := Kd.Bo t.1; subst Z; obtain ⟨I, K, aa⟩ := Kd.Bo u.1; subst aa) | ((with_reducible refine FO (b := .append) (xs := #[.tmp 12, .tmp 15]) rfl ?_); at_builtin; refine Kd.QO k75 w.heap.size rfl (.tmp 12) (.tmp 15) 32 75 (.agg #[(.int .i64 0), (.slice none 0 0), (.slice none 0 0), (.bool false)]) 64 rfl Tryz.underlying32 Vm rfl (by decide) (by omega) u3 q (⟨v, o, p, x⟩ : S75) [.int .i64 v, .slice G o.length J, .slice I p.length K, .bool x] (fun _ => True) (fun k_ => some k_ = (.slice G o.length J : Value).ownBlock ∨ some k_ = (.slice I p.length K : Value).ownBlock) rfl rfl ?aP (fun k_ hk_ => hk_.elim (fun h_ => ((Kd.Ax (ok' := fun k_ => ((fun _ => True)) k_ ∧ some k_ ≠ (u3 : Value).ownBlock) (Kd.Eh (t.1) (Kd.IG d.1) (by decide)) (fun k_ hk => ⟨trivial, hk.2⟩))).1 k_ h_.symm) (fun h_ => ((Kd.Ax (ok' := fun k_ => ((fun _ => True)) k_ ∧ some k_ ≠ (u3 : Value).ownBlock) (Kd.Eh (u.1) (Kd.IG d.1) (by decide)) (fun k_ hk => ⟨trivial, hk.2⟩))).1 k_ h_.symm)) ?aF ?aO (Below.refl _ _) ?aS ?aL ?_; (case aP => exact XI _ _ _ (⟨v, o, p, x⟩ : S75) (Kd.Ax (Kd.I' rfl (Kd.Ax (ok' := fun k_ => ((fun _ => True)) k_ ∧ some k_ ≠ (u3 : Value).ownBlock) (Kd.Eh (t.1) (Kd.IG d.1) (by decide)) (fun k_ hk => ⟨trivial, hk.2⟩))) (fun _ h_ => Or.inl h_)) (Kd.Ax (Kd.I' rfl (Kd.Ax (ok' := fun k_ => ((fun _ => True)) k_ ∧ some k_ ≠ (u3 : Value).ownBlock) (Kd.Eh (u.1) (Kd.IG d.1) (by decide)) (fun k_ hk => ⟨trivial, hk.2⟩))) (fun _ h_ => Or.inr (h_)))); (case aF => exact (fun _ _ => trivial)); (case aO => exact (by (with_reducible repeat (first | apply Kd.Gq | apply Kd.Fz | apply Kd.Gz)); exact Kd.Ea d.1 (fun k_ hk => ⟨trivial, fun e_ => e_.elim (fun h_ => hk.1.2 h_) (fun h_ => hk.2 h_)⟩))); (case aS => exact (DN (w := w) (g := g) (row := none) (Gi HK.1))); (case aL => have := X.1; omega); intro af ak ho hb hg hat; rw [← O.1] at ho; have _ := Q_ (Ae.grown (D3 a.1) hg (Ae.own_neS a.1 d.1 (by decide))); have _ := Q_ (Jp (Hg HB.1 (Ae.ge a.1)) HL.1 hb); have _ := Q_ (Aw.trans (Gi HK.1) (Aw.of_grown hg g) (Kd.Wl d.1)); have _ := Q_ (ho); clear a HB HK d t u; rename_i a HB HK M; clear ho hb hg hat))
 go_roundg k1
 case measure => have := W.1; omega
 case rel => exact ⟨(L), (wrap64 (r - 1)), (D), (E), el_, H', ⟨by have := W.1; omega⟩, ⟨ps_ M.1⟩, ⟨D3 a.1⟩, ⟨Gi HK.1⟩, ⟨Hg HB.1 (Ae.ge a.1)⟩⟩
def Bg.l0 : Nat → Int → List Int → Int → Int → List Int → List Int → List (S75) → Int → Option (List Int × List Int × (List (S75)) × Int × Int × Int)
 | 0, _, _, _, _, _, _, _, _ => none
 | k + 1, l, g, h, i, a, b, c, d => if l > 0 then ((D'.f g h i (([1, 2, 3, 40, 200] : List Int))).bind fun e => ((BZ.f k b e.1).bind fun j => (Bg.l0 k (wrap64 (l - 1)) g e.2.1 e.2.2 a j c d))) else (some (a, b, c, d, h, i))
def Bg.f (k : Nat) (a : List Int) (g : Int) (h : Int) : Option (List Int × List Int × (List (S75)) × Int × Int × Int) := (BW.f k a g h).bind fun b => ((Br.f k a b.2.1 b.2.2).bind fun c => ((Cc.f a c.2.1 c.2.2 6).bind fun d => ((Cc.f a d.2.1 d.2.2 4).bind fun e => (Bg.l0 k e.1 a e.2.1 e.2.2 b.1 ([] : List Int) c.1 d.1))))
theorem Bg.mono_l : ∀ k, (∀ a b c d e f g i, LeO (Bg.l0 k a b c d e f g i) (Bg.l0 (k + 1) a b c d e f g i))
 | 0 => fun _ _ _ _ _ _ _ _ r h => by simp [Bg.l0] at h
 | k + 1 => by
  have ih0 := Bg.mono_l k
  ·intro a b c d e f g i
   unfold Bg.l0
   exact M5 ih0 BW.mono Br.mono BZ.mono
theorem Bg.mono : ∀ a b c k, LeO (Bg.f k a b c) (Bg.f (k + 1) a b c) := by
 intro a b c k
 have ih0 := Bg.mono_l k
 unfold Bg.f
 exact M5 ih0 BW.mono Br.mono BZ.mono
def Bg.T5 : Bool × List (List Nat × List Nat) := (true, [([], []), ([0], [0]), ([], []), ([], []), ([2, 3], [2, 3]), ([1, 4, 4], [1, 4]), ([0, 1, 2, 3, 4, 5], []), ([6, 5, 5, 0, 1, 2, 3, 4, 5], [5, 6])])
def Bg.B5 : List Nat := [0, 1, 0, 0, 12, 31, 63, 127]
theorem Bg.tab5 : rtab .any (opsOf Tryz.f114 5) = Bg.T5 := by kernel_rfl
theorem Bg.bits5 : Fa Bg.T5.2 Bg.B5 = true := by kernel_rfl
theorem Bg.calls (k : Nat) (g : Nat) (r : List Int) (ab : Int) (ac : Int) (r1 : List Int) (r2 : List Int) (r3 : List (S75)) (r4 : Int) (r5 : Int) (r6 : Int) (w0 w : World) (hI : Ae w0 w g r ab ac) (hB : Below w0.heap.size w0 w) (h : Bg.f k r ab ac = some (r1, r2, r3, r4, r5, r6)) :
  Calls Tryz.prog 114 #[.pointer (some ⟨g, 0, none⟩)] w fun e w' => ∃ v0_ v1_ v2_ : Value, e = .returned (.agg #[v0_, v1_, v2_, .int .i64 r4]) ∧ Kd.R (Kd.int .i64) 3 w' w.heap.size (fun k_ => some k_ ≠ (v1_ : Value).ownBlock) v0_ r1 ∧ Kd.R (Kd.int .i64) 3 w' w.heap.size (fun k_ => some k_ ≠ (v0_ : Value).ownBlock) v1_ r2 ∧ Kd.S k75 75 w' w.heap.size (fun k_ => some k_ ≠ (v0_ : Value).ownBlock ∧ some k_ ≠ (v1_ : Value).ownBlock) v2_ r3 ∧ Ae w0 w' g r r5 r6 ∧ Below w0.heap.size w0 w' ∧ Aw w w' g none := by
 have hu34 := Tryz.underlying34
 have m := Q_ hI
 have HK := Q_ (Aw.refl w g none)
 have HL := Q_ hB.size
 clear hI
 have HW0 := Q_ hB.size
 have HB := Q_ hB
 clear hB
 unfold Bg.f at h
 have H := h
 clear h
 obtain ⟨⟨G, ar, au⟩, A2, H⟩ := bs_ H
 (try dsimp only at H)
 obtain ⟨⟨J, am, an⟩, A3, H⟩ := bs_ H
 (try dsimp only at H)
 obtain ⟨⟨U, ad, ae⟩, A4, H⟩ := bs_ H
 (try dsimp only at H)
 obtain ⟨⟨aE, aF, aG⟩, A5, H⟩ := bs_ H
 (try dsimp only at H)
 have H' := Q_ H
 clear H
 go_enter Tryz.func114, Tryz.ntmps114
 go_wp2_with (first | (refine bg_ 2 #[.slice none 0 0, .slice none 0 0, .slice none 0 0, .int .i64 0] 34 ?_; intro y hg w6 hbox hb; have _ := Q_ (Ae.below (D3 m.1) hb); have _ := Q_ (Aw.trans (Gi HK.1) (Aw.of_below hb g none) (.inl rfl)); have _ := Q_ (AD (Hg HB.1 (Ae.ge m.1)) hb); have b := Q_ (hbox); have t := Q_ ((by rw [hg]; exact (DN (w := w) (g := g) (row := none) (Gi HK.1)) : w.heap.size ≤ y)); have A := Q_ (Nat.le_trans HW0.1 t.1); have d := Q_ ((by rw [hg]; exact Nat.ne_of_lt (Ae.lt (show Ae w0 _ g r ab ac from D3 m.1)) : g ≠ y)); have F := Q_ d.1.symm; clear m HK HB; rename_i m HK HB; clear hb hbox hg) | (refine gk_ 43 6 Tryz.func43 #[.pointer (some ⟨g, 0, none⟩)] ?_; (with_reducible refine (BW.calls k g r ab ac G ar au w0 _ ?side1 ?side2 A2.1).mono ?_); (case side1 => exact HQ m.1 d.1); (case side2 => exact Jo HB.1 (Ae.ge m.1) A.1); rintro e w7 ⟨bg, rfl, X, hi, hb, hk⟩; refine ⟨_, rfl, ?_⟩; have _ := Q_ (Aw.blk hk (g' := y) (o := .cells #[.slice none 0 0, .slice none 0 0, .slice none 0 0, .int .i64 0] 34 (0, 0)) (pk_ b.1) F.1 (by simp)); have _ := Q_ (Kd.BV X (DN (w := w) (g := g) (row := none) (JH HK.1 t.1))); have _ := Q_ (Aw.trans (JH HK.1 t.1) hk (.inl rfl)); have _ := Q_ (hb); have _ := Q_ (hi); clear b HK HB m; rename_i b u HK HB m; (try clear hb hk hi X)) | (refine gk_ 158 8 Tryz.func158 #[.pointer (some ⟨g, 0, none⟩)] ?_; (with_reducible refine (Br.calls k g r ar au J am an w0 _ ?side1 ?side2 A3.1).mono ?_); (case side1 => exact HQ m.1 d.1); (case side2 => exact Jo HB.1 (Ae.ge m.1) A.1); rintro e w8 ⟨bh, rfl, X, hi, hb, hk⟩; refine ⟨_, rfl, ?_⟩; have _ := Q_ (Aw.blk hk (g' := y) (o := .cells #[.slice none 0 0, .slice none 0 0, .slice none 0 0, .int .i64 0] 34 (0, 0)) (pk_ b.1) F.1 (by simp)); have _ := Q_ (Kd.Ax (Kd.Fg (Ae.apart (show Ae w0 _ g r ar au from HQ m.1 d.1) (pr_ u.1) (by decide)) hk (fun _ h => h.2)) (fun _ h => h.1)); have _ := Q_ (Kd.Fh (Kd.Hz X (Kd.Dj (pr_ u.1))) (DN (w := w) (g := g) (row := none) (JH HK.1 t.1))); have _ := Q_ (Aw.trans (JH HK.1 t.1) hk (.inl rfl)); have _ := Q_ (hb); have _ := Q_ (hi); clear b u HK HB m; rename_i b u B HK HB m; (try clear hb hk hi X)) | (refine gk_ 77 10 Tryz.func77 #[.pointer (some ⟨g, 0, none⟩), .int .i64 6] ?_; (with_reducible refine (Cc.calls g r am an 6 U ad ae w0 _ ?side1 ?side2 A4.1).mono ?_); (case side1 => exact HQ m.1 d.1); (case side2 => exact Jo HB.1 (Ae.ge m.1) A.1); rintro e w9 ⟨rfl, hi, hb, hk⟩; refine ⟨_, rfl, ?_⟩; have _ := Q_ (Aw.blk hk (g' := y) (o := .cells #[.slice none 0 0, .slice none 0 0, .slice none 0 0, .int .i64 0] 34 (0, 0)) (pk_ b.1) F.1 (by simp)); have _ := Q_ (Kd.Ax (Kd.Fg (Ae.apart (show Ae w0 _ g r am an from HQ m.1 d.1) (pr_ u.1) (by decide)) hk (fun _ h => h.2)) (fun _ h => h.1)); have _ := Q_ (Kd.Ea (Kd.Nk (Ae.apartS (show Ae w0 _ g r am an from HQ m.1 d.1) (ps_ B.1) (by decide)) hk (fun _ h => h.2)) (fun _ h => h.1)); have _ := Q_ (Aw.trans (JH HK.1 t.1) hk (.inl rfl)); have _ := Q_ (hb); have _ := Q_ (hi); clear b u B HK HB m; rename_i b u B HK HB m; (try clear hb hk hi); obtain ⟨Y, Z, aN⟩ := Kd.Gv B.1; subst aN; obtain ⟨P, T, aO⟩ := Kd.Bo u.1; subst aO) | (refine bg_ 3 #[.slice none 0 0, .slice none 0 0, .slice none 0 0, .int .i64 0] 34 ?_; intro z hg bp hbox hb; have _ := Q_ (Kd.Bv (pr_ u.1) hb); have _ := Q_ (Kd.FB (ps_ B.1) hb); have _ := Q_ (Ae.below (HQ m.1 d.1) hb); have _ := Q_ (bb_ b.1 hb); have _ := Q_ (Aw.trans (JH HK.1 t.1) (Aw.of_below hb g none) (.inl rfl)); have _ := Q_ (AD (Jo HB.1 (Ae.ge m.1) A.1) hb); have j := Q_ (hbox); have E := Q_ ((by rw [hg]; exact (DN (w := w) (g := g) (row := none) (JH HK.1 t.1)) : w.heap.size ≤ z)); have L := Q_ (Nat.le_trans HW0.1 E.1); have I := Q_ (nb_ hg b); have O := Q_ I.1.symm; have q := Q_ ((by rw [hg]; exact Nat.ne_of_lt (Ae.lt (show Ae w0 _ g r ad ae from HQ m.1 d.1)) : g ≠ z)); have Q := Q_ q.1.symm; clear u B m b HK HB; rename_i u B m b HK HB; clear hb hbox hg; have a4 := O.1; have a9 := I.1; have a5 := Q.1; have ba := q.1; have a0 := E8 j.1) | (refine gk_ 77 13 Tryz.func77 #[.pointer (some ⟨g, 0, none⟩), .int .i64 4] ?_; (with_reducible refine (Cc.calls g r ad ae 4 aE aF aG w0 _ ?side1 ?side2 A5.1).mono ?_); (case side1 => exact Bz m.1 d.1 q.1); (case side2 => exact Fo HB.1 (Ae.ge m.1) A.1 L.1); rintro e bq ⟨rfl, hi, hb, hk⟩; refine ⟨_, rfl, ?_⟩; have _ := Q_ (Aw.blk hk (g' := y) (o := .cells #[.slice none 0 0, .slice none 0 0, .slice none 0 0, .int .i64 0] 34 (0, 0)) (pp_ b.1) F.1 (by simp)); have _ := Q_ (Kd.Ax (Kd.Fg (Ae.apart (show Ae w0 _ g r ad ae from Bz m.1 d.1 q.1) (pr_ (Ir u.1 j.1)) (by decide)) hk (fun _ h => h.2)) (fun _ h => h.1)); have _ := Q_ (Kd.Ea (Kd.Nk (Ae.apartS (show Ae w0 _ g r ad ae from Bz m.1 d.1 q.1) (ps_ (Zj B.1 j.1)) (by decide)) hk (fun _ h => h.2)) (fun _ h => h.1)); have _ := Q_ (Aw.blk hk (g' := z) (o := .cells #[.slice P G.length T, .slice none 0 0, .slice Y J.length Z, .int .i64 U] 34 (0, 0)) (pp_ j.1) Q.1 (by simp)); have _ := Q_ (Aw.trans (GV HK.1 t.1 E.1) hk (.inl rfl)); have _ := Q_ (hb); have _ := Q_ (hi); clear b u B j HK HB m; rename_i b u B j HK HB m; (try clear hb hk hi)))
 (try simp only [Act.put, s1_, s2_, s3_])
 go_loopg [4] k (fun kq v4 w' => ∃ (aa : Int) (v : Int) (x : Int) (s : List Int) (D : Value), v4 = .int .i64 aa ∧ Aside0 (Bg.l0 kq aa r v x G s J U = some (r1, r2, r3, r4, r5, r6)) ∧ Aside0 (kq ≤ k) ∧ Aside0 (Kd.R (Kd.int .i64) 3 w' w.heap.size (fun k_ => some k_ ≠ (D : Value).ownBlock) (.slice P G.length T) G) ∧ Aside0 (Kd.R (Kd.int .i64) 3 w' w.heap.size (fun k_ => some k_ ≠ ((.slice P G.length T) : Value).ownBlock) D s) ∧ Aside0 (Kd.S k75 75 w' w.heap.size (fun k_ => some k_ ≠ ((.slice P G.length T) : Value).ownBlock ∧ some k_ ≠ (D : Value).ownBlock) (.slice Y J.length Z) J) ∧ Aside0 (w'.heap[y]? = some (.cells #[(.slice none 0 0), (.slice none 0 0), (.slice none 0 0), .int .i64 0] 34 (0, 0))) ∧ Aside0 (w'.heap[z]? = some (.cells #[(.slice P G.length T), D, (.slice Y J.length Z), .int .i64 U] 34 (0, 0))) ∧ Aside0 (Ae w0 w' g r v x) ∧ Aside0 (Aw w w' g none) ∧ Aside0 (Below w0.heap.size w0 w'))
 case atStart => exact ⟨(aE), (aF), (aG), (([] : List Int)), (.slice none 0 0), el_, H', ⟨Nat.le_refl _⟩, ⟨by (with_reducible repeat (first | apply Kd.Ef | apply Kd.Ed | apply Kd.EU)); exact Kd.Ax u.1 (fun _ hk => (by simp [Value.ownBlock]))⟩, ⟨nl_⟩, ⟨by (with_reducible repeat (first | apply Kd.Gq | apply Kd.Fz | apply Kd.Gz)); exact Kd.Ea B.1 (fun _ hk => ⟨hk.2, (by simp [Value.ownBlock])⟩)⟩, ⟨pk_ b.1⟩, ⟨pk_ j.1⟩, ⟨Bz m.1 d.1 q.1⟩, ⟨GV HK.1 t.1 E.1⟩, ⟨Fo HB.1 (Ae.ge m.1) A.1 L.1⟩⟩
 clear H'
 obtain ⟨aa, v, x, s, D, rfl, HA, aL, c, a, l, b, j, m, HK, HB⟩ := hrel
 rcases gk with _ | k1
 ·exact absurd HA.1 (by simp [Bg.l0])
 have H := HA.1
 clear HA
 simp only [Bg.l0] at H
 by_cases ao : aa > 0
 rotate_left
 ·rw [if_neg ao] at H
  have aJ := decide_eq_false ao
  clear ao
  simp only [Option.some.injEq, Prod.mk.injEq] at H
  obtain ⟨rfl, rfl, rfl, rfl, rfl, rfl⟩ := H
  have a6 := O.1
  have bb := I.1
  have a7 := Q.1
  have bc := q.1
  have a1 := E8 j.1
  have a8 := F.1
  have bd := d.1
  have a2 := E8 b.1
  obtain ⟨ax, az, aP⟩ := Kd.Bo a.1
  subst aP
  go_wp2
  refine bodyPost_ret (results_cell_row rfl _ _ y 34 #[.slice P G.length T, .slice ax s.length az, .slice Y J.length Z, .int .i64 U] (0, 0) _ rfl (pp_ b.1) Tryz.underlying34 rfl (by kernel_rfl)) rfl ?_
  exact ⟨_, _, _, er_, pr_ (Ir c.1 b.1), pr_ (Ir a.1 b.1), by (with_reducible repeat (first | apply Kd.Gq | apply Kd.Fz | apply Kd.Gz)); exact Kd.Ea (Kd.GQ (p := ⟨y, 3, none⟩) (Kd.GQ (p := ⟨y, 2, none⟩) (Kd.GQ (p := ⟨y, 1, none⟩) (Kd.GQ (p := ⟨y, 0, none⟩) (Kd.IL l.1 b.1 (by decide)) (fun _ hk => hk.2) (.slice P G.length T)) (fun _ hk => hk.2) (.slice ax s.length az)) (fun _ hk => hk.2) (.slice Y J.length Z)) (fun _ hk => hk.2) (.int .i64 U)) (fun _ hk => ⟨hk.1.1, hk.1.2⟩), Bz m.1 d.1 q.1, Fo HB.1 (Ae.ge m.1) A.1 L.1, GV HK.1 t.1 E.1⟩
 rw [if_pos ao] at H
 have aJ := decide_eq_true ao
 clear ao
 obtain ⟨aw, hy886⟩ : ∃ y_ : List Int, y_ = (([1, 2, 3, 40, 200] : List Int)) := ⟨_, rfl⟩
 replace H : ((D'.f r v x aw).bind fun aj => ((BZ.f k1 s aj.1).bind fun W => (Bg.l0 k1 (wrap64 (aa - 1)) r aj.2.1 aj.2.2 G W J U))) = some (r1, r2, r3, r4, r5, r6) := hb_ hy886 H
 have aq := Q_ hy886
 clear hy886
 obtain ⟨⟨av, aH, aI⟩, aY, H⟩ := bs_ H
 (try dsimp only at H)
 obtain ⟨W, aZ, H⟩ := bs_ H
 (try dsimp only at H)
 have H' := Q_ H
 clear H
 try go_wp2
 have _ := Q_ (Kd.EU c.1)
 have _ := Q_ (Kd.EU a.1)
 have _ := Q_ (Kd.Gz l.1)
 have _ := Q_ (Bq b.1)
 have _ := Q_ (Bq j.1)
 have _ := Q_ (Ae.drew m.1)
 have _ := Q_ (Jc HK.1)
 have _ := Q_ (Cm HB.1)
 clear c a l b j m HK HB
 rename_i c a l b j m HK HB
 refine Lx (n := 8) (S := fun w' => w'.cell? ⟨z, 0, none⟩ = some (.slice P G.length T) ∧ w'.cell? ⟨z, 1, none⟩ = some (D) ∧ w'.cell? ⟨z, 2, none⟩ = some (.slice Y J.length Z) ∧ w'.cell? ⟨z, 3, none⟩ = some (.int .i64 U)) (ds := [7]) #[false, false, false, false, false, false, false, false] (by kernel_rfl) rfl rfl (sb_ j.1) (fun hHeld => ?_); refine Lu Bg.tab5 Bg.bits5 (fun HT_ HW_ => ?_)
 generalize wr.drew = br at c a l b j m HK HB hHeld ⊢
 refine Ba 0 18 8 1 ?_
 refine Ba 2 20 8 5 ?_
 refine E1 1 19 8 7 hHeld ?_
 refine on_ 3 (some 21) (tf_ 4 8) HT_ (fun K hK => ?_)
 refine JY .i64 3 21 ([1, 2, 3, 40, 200] : List Int) ?_
 intro bi bs V hb
 rw [← aq.1] at V
 have _ := Q_ (Kd.B0 (pr_ c.1) (Kd.BJ V) hb)
 have _ := Q_ (Kd.B0 (pr_ a.1) (Kd.BJ V) hb)
 have _ := Q_ (Kd.H2 (ps_ l.1) (Kd.BJ V) hb)
 have _ := Q_ (Kd.BV (Kd.B8 (Kd.B8 V (Kd.Dj (pr_ c.1))) (Kd.Dj (pr_ a.1))) (DN (w := w) (g := g) (row := none) (GV HK.1 t.1 E.1)))
 have _ := Q_ (bb_ b.1 hb)
 have _ := Q_ (bb_ j.1 hb)
 have _ := Q_ (Ae.below (Bz m.1 d.1 q.1) hb)
 have _ := Q_ (Aw.trans (GV HK.1 t.1 E.1) (Aw.of_below hb g none) (.inl rfl))
 have _ := Q_ (AD (Fo HB.1 (Ae.ge m.1) A.1 L.1) hb)
 clear c a l b j m HK HB
 rename_i c a l C b j m HK HB
 clear hb V
 obtain ⟨aK, aM, aB⟩ := Kd.Bo C.1
 (first | subst aB | (injection aB with f1_ f2_ f3_; have f4_ := f1_.symm; have f5_ := f3_.symm; clear f1_ f2_ f3_; subst f4_; subst f5_))
 refine hK.out _ _ (sb_ j.1) (fun hHeld => ?_)
 clear hK K
 refine no_ (some 21) ?_
 refine on_ 4 (some 22) (tf_ 5 8) HT_ (fun K hK => ?_)
 refine gs_ Tryz.func45 #[.pointer (some ⟨g, 0, none⟩), .slice aK aw.length aM] ?_
 with_reducible refine (D'.calls g r v x _ _ aw av aH aI w0 _ ?side1 ?side2 ?side3 ?side4 ?side5 aY.1).mono ?_
 (case side1 => exact Bz m.1 d.1 q.1)
 (case side2 => exact Fo HB.1 (Ae.ge m.1) A.1 L.1)
 (case side3 => exact pc_ ((Kd.BH C.1).2.2))
 (case side4 => exact (Kd.BH C.1).2.1)
 (case side5 => exact Ig (Ae.own_ne m.1 C.1 (by decide)))
 rintro e bt ⟨rfl, hi, hb, hk⟩
 refine ⟨_, rfl, ?_⟩
 have _ := Q_ (Kd.Ax (Kd.Fg (Ae.apart (show Ae w0 _ g r v x from Bz m.1 d.1 q.1) (pr_ c.1) (by decide)) hk (fun _ h => h.2)) (fun _ h => h.1))
 have _ := Q_ (Kd.Ax (Kd.Fg (Ae.apart (show Ae w0 _ g r v x from Bz m.1 d.1 q.1) (pr_ a.1) (by decide)) hk (fun _ h => h.2)) (fun _ h => h.1))
 have _ := Q_ (Kd.Ea (Kd.Nk (Ae.apartS (show Ae w0 _ g r v x from Bz m.1 d.1 q.1) (ps_ l.1) (by decide)) hk (fun _ h => h.2)) (fun _ h => h.1))
 have _ := Q_ (Aw.blk hk (g' := y) (o := .cells #[.slice none 0 0, .slice none 0 0, .slice none 0 0, .int .i64 0] 34 (0, 0)) (pk_ b.1) F.1 (by simp))
 have _ := Q_ (Aw.blk hk (g' := z) (o := .cells #[.slice P G.length T, D, .slice Y J.length Z, .int .i64 U] 34 (0, 0)) (pk_ j.1) Q.1 (by simp))
 have _ := Q_ (Kd.Ax (Kd.Fg (Ae.apart (show Ae w0 _ g r v x from Bz m.1 d.1 q.1) (pr_ C.1) (by decide)) hk (fun _ h => h.2)) (fun _ h => h.1))
 have _ := Q_ (Aw.trans (GV HK.1 t.1 E.1) hk (.inl rfl))
 have _ := Q_ (hb)
 have _ := Q_ (hi)
 clear c a l b j C HK HB m
 rename_i c a l b j C HK HB m
 (try clear hb hk hi)
 obtain ⟨ay, aA, aC⟩ := Kd.Bo a.1
 (first | subst aC | (injection aC with f1_ f2_ f3_; have f4_ := f1_.symm; have f5_ := f3_.symm; clear f1_ f2_ f3_; subst f4_; subst f5_))
 refine hK.out _ _ (sb_ j.1) (fun hHeld => ?_)
 clear hK K
 refine no_ (some 22) ?_
 refine on_ 5 (some 23) (tf_ 6 8) HT_ (fun K hK => ?_)
 refine gs_ Tryz.func78 #[.slice ay s.length aA, .int .i64 av] ?_
 with_reducible refine (BZ.calls k1 _ _ s av W _ ?side1 ?side2 aZ.1).mono ?_
 (case side1 => exact pc_ ((Kd.BH a.1).2.2))
 (case side2 => exact (Kd.BH a.1).2.1)
 rintro e be ⟨bj, rfl, X, hb⟩
 refine ⟨_, rfl, ?_⟩
 have _ := Q_ (Kd.B0 (pr_ c.1) (Kd.BJ X) hb)
 have _ := Q_ (Kd.B0 (pr_ a.1) (Kd.BJ X) hb)
 have _ := Q_ (Kd.H2 (ps_ l.1) (Kd.BJ X) hb)
 have _ := Q_ (Kd.B0 (pr_ C.1) (Kd.BJ X) hb)
 have _ := Q_ (Kd.BV (Kd.B8 (Kd.B8 (Kd.B8 X (Kd.Dj (pr_ c.1))) (Kd.Dj (pr_ a.1))) (Kd.Dj (pr_ C.1))) (DN (w := w) (g := g) (row := none) (GV HK.1 t.1 E.1)))
 have _ := Q_ (bb_ b.1 hb)
 have _ := Q_ (bb_ j.1 hb)
 have _ := Q_ (Ae.below (Bz m.1 d.1 q.1) hb)
 have _ := Q_ (Aw.trans (GV HK.1 t.1 E.1) (Aw.of_below hb g none) (.inl rfl))
 have _ := Q_ (AD (Fo HB.1 (Ae.ge m.1) A.1 L.1) hb)
 clear c a l C b j m HK HB
 rename_i c a l C ap b j m HK HB
 (try clear hb X)
 obtain ⟨ak, al, aD⟩ := Kd.Bo ap.1
 (first | subst aD | (injection aD with f1_ f2_ f3_; have f4_ := f1_.symm; have f5_ := f3_.symm; clear f1_ f2_ f3_; subst f4_; subst f5_))
 refine hK.out _ _ (sb_ j.1) (fun hHeld => ?_)
 clear hK K
 refine no_ (some 23) ?_
 refine Ba 6 24 8 127 ?_
 refine VF (i := 7) (N := none) #[true, true, true, true, true, true, true, true] rfl rfl (PE HT_.1 (by kernel_rfl)) (by decide) (fun K hK => ?_)
 have bf : be.cell? ⟨z, 1, none⟩ = some (.slice ay s.length aA) := (BM j.1 1).trans rfl
 have a3 := DI j.1 1
 have aR := I.1
 have aQ := O.1
 refine J2 (w1 := ?_) (by rfl) rfl ?_ ?_
 rotate_left
 ·go_simp
  rfl
 refine hK.out _ _ ?_
 clear hK K
 refine G8 (E0 HT_.1 (by kernel_rfl)) ?_
 try go_wp2
 go_roundg k1
 case measure => have := aL.1; omega
 case rel => exact ⟨(wrap64 (aa - 1)), (aH), (aI), (W), (.slice ak W.length al), el_, H', ⟨by have := aL.1; omega⟩, ⟨pr_ (Kd.Ax (Kd.CC (p := ⟨z, 1, none⟩) (Kd.Bi c.1 j.1 (by decide)) (fun _ hk => hk.2) (.slice ak W.length al)) (fun _ hk => hk.1.2))⟩, ⟨pr_ (Kd.Ax (Kd.CC (p := ⟨z, 1, none⟩) (Kd.Bi ap.1 j.1 (by decide)) (fun _ hk => hk.2) (.slice ak W.length al)) (fun _ hk => hk.1.1.1.2))⟩, ⟨by (with_reducible repeat (first | apply Kd.Gq | apply Kd.Fz | apply Kd.Gz)); exact Kd.Ea (Kd.GQ (p := ⟨z, 1, none⟩) (Kd.IL l.1 j.1 (by decide)) (fun _ hk => hk.2) (.slice ak W.length al)) (fun _ hk => ⟨hk.1.1.1.1, hk.1.2⟩)⟩, ⟨pp_ b.1⟩, ⟨pp_ j.1⟩, ⟨Bz m.1 d.1 q.1⟩, ⟨GV HK.1 t.1 E.1⟩, ⟨Fo HB.1 (Ae.ge m.1) A.1 L.1⟩⟩
def Eo.f (k : Nat) (d : List Int) (e : Int) (g : Int) : Option (List Int × Int × Int) := (BW.f k d e g).bind fun b => ((Cc.f d b.2.1 b.2.2 9).bind fun a => (if a.1 = 0 then ((D'.f d a.2.1 a.2.2 (([0, (-1), 9, 10] : List Int))).bind fun c => (if 0 < (b.1.length : Int) then (some ((b.1.set (0 : Int).toNat c.1), c.2.1, c.2.2)) else (none))) else (if a.1 = 1 then (if 0 < (b.1.length : Int) then (if b.1.length < 17592186044416 then (some ((b.1 ++ [rd b.1 0]), a.2.1, a.2.2)) else (none)) else (none)) else (if a.1 = 2 then (some ((([] : List Int)), a.2.1, a.2.2)) else (some (b.1, a.2.1, a.2.2))))))
theorem Eo.mono : ∀ a b c k, LeO (Eo.f k a b c) (Eo.f (k + 1) a b c) := by
 intro a b c k
 unfold Eo.f
 exact G7 BW.mono
theorem Eo.calls (k : Nat) (g : Nat) (m : List Int) (D : Int) (E : Int) (r1 : List Int) (r2 : Int) (r3 : Int) (w0 w : World) (hI : Ae w0 w g m D E) (hB : Below w0.heap.size w0 w) (h : Eo.f k m D E = some (r1, r2, r3)) :
  Calls Tryz.prog 115 #[.pointer (some ⟨g, 0, none⟩)] w fun e w' => ∃ v0_ : Value, e = .returned (v0_) ∧ Kd.R (Kd.int .i64) 3 w' w.heap.size (fun _ => True) v0_ r1 ∧ Ae w0 w' g m r2 r3 ∧ Below w0.heap.size w0 w' ∧ Aw w w' g none := by
 have c := Q_ hI
 have HK := Q_ (Aw.refl w g none)
 have HL := Q_ hB.size
 clear hI
 have HW0 := Q_ hB.size
 have HB := Q_ hB
 clear hB
 unfold Eo.f at h
 have H := h
 clear h
 obtain ⟨⟨d, T, U⟩, A2, H⟩ := bs_ H
 (try dsimp only at H)
 have HS_ := Q_ H
 clear H
 go_enter Tryz.func115, Tryz.ntmps115
 go_upto_region 2 with (first | (refine gk_ 43 5 Tryz.func43 #[.pointer (some ⟨g, 0, none⟩)] ?_; (with_reducible refine (BW.calls k g m D E d T U w0 _ ?side1 ?side2 A2.1).mono ?_); (case side1 => exact D3 c.1); (case side2 => exact Hg HB.1 (Ae.ge c.1)); rintro e w3 ⟨aN, rfl, ay, hi, hb, hk⟩; refine ⟨_, rfl, ?_⟩; have _ := Q_ (Kd.BV ay (DN (w := w) (g := g) (row := none) (Gi HK.1))); have _ := Q_ (Aw.trans (Gi HK.1) hk (.inl rfl)); have _ := Q_ (hb); have _ := Q_ (hi); clear HK HB c; rename_i a HK HB c; (try clear hb hk hi ay)))
 (try simp only [Act.put, s1_, s2_, s3_])
 have H := HS_.1
 clear HS_
 obtain ⟨⟨i, q, r⟩, A4, H⟩ := bs_ H
 (try dsimp only at H)
 have HS_ := Q_ H
 clear H
 go_upto_if 8 with (first | (refine gk_ 77 7 Tryz.func77 #[.pointer (some ⟨g, 0, none⟩), .int .i64 9] ?_; (with_reducible refine (Cc.calls g m T U 9 i q r w0 _ ?side1 ?side2 A4.1).mono ?_); (case side1 => exact D3 c.1); (case side2 => exact Hg HB.1 (Ae.ge c.1)); rintro e w5 ⟨rfl, hi, hb, hk⟩; refine ⟨_, rfl, ?_⟩; have _ := Q_ (Kd.Ax (Kd.Fg (Ae.apart (show Ae w0 _ g m T U from D3 c.1) (pr_ a.1) (by decide)) hk (fun _ h => h.2)) (fun _ h => h.1)); have _ := Q_ (Aw.trans (Gi HK.1) hk (.inl rfl)); have _ := Q_ (hb); have _ := Q_ (hi); clear a HK HB c; rename_i a HK HB c; (try clear hb hk hi)))
 (try simp only [Act.put, s1_, s2_, s3_])
 have H := HS_.1
 clear HS_
 by_cases c6 : i = 0
 ·rw [if_pos c6] at H
  have x : (i == 0) = true := beq_iff_eq.mpr c6
  have y : (i != 0) = false := bne_eq_false_iff_eq.mpr c6
  clear c6
  (first | rw [x] | (simp only [E4, E']; rw [x]) | rw [y] | (have c_ := y; rw [bne] at c_; rw [c_]; clear c_) | skip)
  obtain ⟨A, hy903⟩ : ∃ y_ : List Int, y_ = (([0, (-1), 9, 10] : List Int)) := ⟨_, rfl⟩
  replace H : ((D'.f m q r A).bind fun o => (if 0 < (d.length : Int) then (some ((d.set (0 : Int).toNat o.1), o.2.1, o.2.2)) else (none))) = some (r1, r2, r3) := hb_ hy903 H
  have I := Q_ hy903
  clear hy903
  obtain ⟨⟨F, X, Y⟩, A7, H⟩ := bs_ H
  (try dsimp only at H)
  by_cases c8 : 0 < (d.length : Int)
  rotate_left
  ·rw [if_neg c8] at H
   exact nn_ H
  rw [if_pos c8] at H
  have aK := decide_eq_true c8
  have aM : decide (0 < d.length) = true := decide_eq_true (by omega)
  clear c8
  obtain ⟨Z, hy909⟩ : ∃ y_ : List Int, y_ = (d.set (0 : Int).toNat F) := ⟨_, rfl⟩
  replace H : (some (Z, X, Y)) = some (r1, r2, r3) := hb_ hy909 H
  have ad := Q_ hy909
  clear hy909
  simp only [Option.some.injEq, Prod.mk.injEq] at H
  obtain ⟨rfl, rfl, rfl⟩ := H
  go_wp2_with (first | (refine Ie .i64 3 12 ([0, (-1), 9, 10] : List Int) ?_; intro aQ aZ s hb; rw [← I.1] at s; have _ := Q_ (Kd.B0 (pr_ a.1) (Kd.BJ s) hb); have _ := Q_ (Kd.BV (Kd.B8 s (Kd.Dj (pr_ a.1))) (DN (w := w) (g := g) (row := none) (Gi HK.1))); have _ := Q_ (Ae.below (D3 c.1) hb); have _ := Q_ (Aw.trans (Gi HK.1) (Aw.of_below hb g none) (.inl rfl)); have _ := Q_ (AD (Hg HB.1 (Ae.ge c.1)) hb); clear a c HK HB; rename_i a l c HK HB; clear hb s; obtain ⟨G, K, au⟩ := Kd.Bo l.1; subst au) | (refine gk_ 45 13 Tryz.func45 #[.pointer (some ⟨g, 0, none⟩), .slice G A.length K] ?_; (with_reducible refine (D'.calls g m q r _ _ A F X Y w0 _ ?side1 ?side2 ?side3 ?side4 ?side5 A7.1).mono ?_); (case side1 => exact D3 c.1); (case side2 => exact Hg HB.1 (Ae.ge c.1)); (case side3 => exact pc_ ((Kd.BH l.1).2.2)); (case side4 => exact (Kd.BH l.1).2.1); (case side5 => exact Ig (Ae.own_ne c.1 l.1 (by decide))); rintro e az ⟨rfl, hi, hb, hk⟩; refine ⟨_, rfl, ?_⟩; have _ := Q_ (Kd.Ax (Kd.Fg (Ae.apart (show Ae w0 _ g m q r from D3 c.1) (pr_ a.1) (by decide)) hk (fun _ h => h.2)) (fun _ h => h.1)); have _ := Q_ (Kd.Ax (Kd.Fg (Ae.apart (show Ae w0 _ g m q r from D3 c.1) (pr_ l.1) (by decide)) hk (fun _ h => h.2)) (fun _ h => h.1)); have _ := Q_ (Aw.trans (Gi HK.1) hk (.inl rfl)); have _ := Q_ (hb); have _ := Q_ (hi); clear a l HK HB c; rename_i a l HK HB c; (try clear hb hk hi); have p9 : 0 ≤ (0 : Int) := (by omega); have q9 : (0 : Int) < ((d.length : Int) : Int) := dt_; have qi9 : (0 < d.length) = True := eq_true (by omega); obtain ⟨L, al, aw, ax, gl9, aY, HG9⟩ := Kd.Xj a.1 (by omega); (first | cases aw | (injection aw with ea_ en_ ec_; (first | subst ea_ | (injection ea_ with ea_; subst ea_)); subst ec_; clear en_)); have aD := Q_ ax; have aX := Q_ HG9; clear ax gl9 HG9; obtain ⟨P, O⟩ := Kd.Ti 0 a.1 (0 : Int) p9 q9; (try rw [show ((0 : Int)).toNat = 0 from rfl] at P); (try simp only [Nat.reduceMul, Nat.zero_mul, Nat.zero_add, Nat.reduceAdd] at P); (try rw [show ((0 : Int)).toNat = 0 from rfl] at O); (try simp only [Nat.reduceMul, Nat.zero_mul, Nat.zero_add, Nat.reduceAdd] at O); replace p9 := eq_true p9; replace q9 := eq_true q9; have n_ := Q_ (Kd.Ax (ok' := (fun k_ => some k_ ≠ (.slice G A.length K : Value).ownBlock)) a.1 (fun k_ hk => hk.2)); clear a; have a := n_; clear n_; obtain ⟨hy14_, hz14_⟩ := Kd.Ti 0 a.1 (0 : Int) (by omega) dt_; (try simp only [Int.reduceToNat, Int.toNat_zero, Int.toNat_ofNat, Nat.reduceMul, Nat.zero_mul, Nat.zero_add] at hy14_ hz14_); (try rw [show ((0 : Int)).toNat = 0 from rfl] at hy14_); (try rw [show ((0 : Int)).toNat = 0 from rfl] at hz14_); have HP14 := Kd.Xr a.1 (0 : Int) F) | ((with_reducible refine RZ (t := 3) (p := 14) rfl ?_); refine Qx (t := 3) (p := 14) (v := ?vo_w15) (w1 := (az.setCell ⟨L, (0 : Int).toNat, none⟩ (.int .i64 F))) ?hg ?ho ?hn ?hr ?_; (case ho => rfl); (case hg => rfl); (case hn => rfl); (case hr => first | (go_simp; done) | (go_simp; rfl)); intro ap hw; have hg : az.grownBy ap (some L) := (by rw [hw]; exact HP14.2); have hp_ : Kd.R (Kd.int .i64) 3 ap w.heap.size (fun k_ => some k_ ≠ (.slice G A.length K : Value).ownBlock) (.slice (some ⟨L, 0, none⟩) d.length al) Z := (by rw [hw, ad.1]; exact HP14.1); clear HP14; have _ := Q_ (Ae.grown (D3 c.1) hg (Ae.own_ne c.1 a.1 (by decide))); have _ := Q_ (hp_); have _ := Q_ (Kd.Ho (v := (.slice (some ⟨L, 0, none⟩) d.length al)) (v1 := (.slice (some ⟨L, 0, none⟩) d.length al)) (ok := (fun _ => True)) (pr_ l.1) hg (.inl rfl)); have _ := Q_ ((by rw [hw]; exact Fb (HB.1) (Nat.le_trans HL.1 aD.1) : Below w0.heap.size w0 ap)); have _ := Q_ (Aw.trans (Gi HK.1) (Aw.of_grown hg g) (Kd.NA a.1)); clear c a l HB HK; rename_i c a l HB HK; clear hg hw hp_))
  go_ret
  exact ⟨_, er_, pr_ (Kd.Ax a.1 (fun _ hk => trivial)), D3 c.1, Hg HB.1 (Ae.ge c.1), Gi HK.1⟩
 rw [if_neg c6] at H
 have x : (i == 0) = false := beq_eq_false_iff_ne.mpr c6
 have y : (i != 0) = true := bne_iff_ne.mpr c6
 (first | rw [x] | (simp only [E4, E']; rw [x]) | rw [y] | (have c_ := y; rw [bne] at c_; rw [c_]; clear c_) | skip)
 by_cases B : i = 1
 rotate_left
 ·rw [if_neg B] at H
  have ag : (i == 1) = false := beq_eq_false_iff_ne.mpr B
  have ah : (i != 1) = true := bne_iff_ne.mpr B
  by_cases C : i = 2
  rotate_left
  ·rw [if_neg C] at H
   have ai : (i == 2) = false := beq_eq_false_iff_ne.mpr C
   have aj : (i != 2) = true := bne_iff_ne.mpr C
   simp only [Option.some.injEq, Prod.mk.injEq] at H
   obtain ⟨rfl, rfl, rfl⟩ := H
   go_wp2
   go_ret
   exact ⟨_, er_, pr_ a.1, D3 c.1, Hg HB.1 (Ae.ge c.1), Gi HK.1⟩
  rw [if_pos C] at H
  have ai : (i == 2) = true := beq_iff_eq.mpr C
  have aj : (i != 2) = false := bne_eq_false_iff_eq.mpr C
  clear C
  obtain ⟨aB, hy914⟩ : ∃ y_ : List Int, y_ = (([] : List Int)) := ⟨_, rfl⟩
  replace H : (some (aB, q, r)) = some (r1, r2, r3) := hb_ hy914 H
  have J := Q_ hy914
  clear hy914
  simp only [Option.some.injEq, Prod.mk.injEq] at H
  obtain ⟨rfl, rfl, rfl⟩ := H
  go_wp2_with (first | (refine Ie .i64 3 25 ([] : List Int) ?_; intro aT a0 u hb; rw [← J.1] at u; have _ := Q_ (Kd.B0 (pr_ a.1) (Kd.BJ u) hb); have _ := Q_ (Kd.BV (Kd.B8 u (Kd.Dj (pr_ a.1))) (DN (w := w) (g := g) (row := none) (Gi HK.1))); have _ := Q_ (Ae.below (D3 c.1) hb); have _ := Q_ (Aw.trans (Gi HK.1) (Aw.of_below hb g none) (.inl rfl)); have _ := Q_ (AD (Hg HB.1 (Ae.ge c.1)) hb); clear a c HK HB; rename_i a ab c HK HB; clear hb u))
  go_ret
  exact ⟨_, er_, pr_ (Kd.Ax ab.1 (fun _ hk => trivial)), D3 c.1, Hg HB.1 (Ae.ge c.1), Gi HK.1⟩
 rw [if_pos B] at H
 have ag : (i == 1) = true := beq_iff_eq.mpr B
 have ah : (i != 1) = false := bne_eq_false_iff_eq.mpr B
 clear B
 by_cases V : 0 < (d.length : Int)
 rotate_left
 ·rw [if_neg V] at H
  exact nn_ H
 rw [if_pos V] at H
 have aE := decide_eq_true V
 have aG : decide (0 < d.length) = true := decide_eq_true (by omega)
 clear V
 by_cases W : d.length < 17592186044416
 rotate_left
 ·rw [if_neg W] at H
  exact nn_ H
 rw [if_pos W] at H
 have ac := Q_ W
 clear W
 obtain ⟨aA, hy911⟩ : ∃ y_ : List Int, y_ = (d ++ [rd d 0]) := ⟨_, rfl⟩
 replace H : (some (aA, q, r)) = some (r1, r2, r3) := hb_ hy911 H
 have ae := Q_ hy911
 clear hy911
 simp only [Option.some.injEq, Prod.mk.injEq] at H
 obtain ⟨rfl, rfl, rfl⟩ := H
 obtain ⟨aJ, aq, av⟩ := Kd.Bo a.1
 subst av
 have Q : 0 ≤ (0 : Int) := (by omega)
 have S : 0 < (d.length : Int) := dt_
 obtain ⟨af, ar, z⟩ := Kd.GG (Kd.BH a.1).2.2 0 Q S
 cases ar
 have qi910 : (0 < d.length) = True := eq_true (by omega)
 (try rw [show ((0 : Int)).toNat = 0 from rfl] at z)
 (try rw [Addr.add_zero'] at z)
 replace Q := eq_true Q
 replace S := eq_true S
 go_wp2_with (first | ((with_reducible refine FO (b := .append) (xs := #[.tmp 17, .tmp 21]) rfl ?_); at_builtin; refine Kd.I4 (Kd.int .i64) w.heap.size rfl (.tmp 17) (.tmp 21) 22 3 (.int .i64 0) 8 rfl Tryz.underlying22 HI rfl (by decide) (by omega) (.slice (some af) d.length aq) d (rd d 0) [.int .i64 (rd d 0)] (fun _ => True) (fun _ => False) rfl rfl ?aP (fun _ hk => hk.elim) ?aF ?aO (Below.refl _ _) ?aS ?aL ?_; (case aP => exact rfl); (case aF => exact (fun _ _ => trivial)); (case aO => exact (pr_ a.1)); (case aS => exact (DN (w := w) (g := g) (row := none) (Gi HK.1))); (case aL => have := ac.1; omega); intro aR a1 ho hb hg hat; rw [← ae.1] at ho; have _ := Q_ (Ae.grown (D3 c.1) hg (Ae.own_ne c.1 a.1 (by decide))); have _ := Q_ (Jp (Hg HB.1 (Ae.ge c.1)) HL.1 hb); have _ := Q_ (Aw.trans (Gi HK.1) (Aw.of_grown hg g) (Kd.NA a.1)); have _ := Q_ (ho); clear c HB HK a; rename_i c HB HK aa; clear ho hb hg hat))
 go_ret
 exact ⟨_, er_, pr_ aa.1, D3 c.1, Hg HB.1 (Ae.ge c.1), Gi HK.1⟩
end Go.Proofs.YtibmehnippjakaaGreat.Print
