-- Written by a program of this session (printx.py) out of the translation; Lean checks it.
import Derived.Test.YtibmehnippjakaaGreatPrint0
import Derived.Test.YtibmehnippjakaaGreatPrint1
import Derived.Test.YtibmehnippjakaaGreatPrint4
import Derived.Test.YtibmehnippjakaaGreatPrint8
namespace Go.Proofs.YtibmehnippjakaaGreat.Print
open Go.RowKit Go.Proofs.YtibmehnippjakaaGreatW.PrintWords Go.Proofs.YtibmehnippjakaaGreatW.PrintLast Go.Proofs.YtibmehnippjakaaGreatW.PrintMore Go.Proofs.YtibmehnippjakaaGreat.Short
attribute [local go_sem] F8 Fq G5 G6 FA FH F5 Fp
set_option linter.unusedVariables false
set_option maxHeartbeats 8000000
set_option maxRecDepth 100000
set_option linter.unusedSimpArgs false
def EN.f (k : Nat) (b : List Int) (c : List (S81)) (i : List (S75)) : Option (List Int × (List (S81)) × Int × Bool) := (BQ.f k b c).bind fun e => (if e = true then ((Cj.f k b c i).bind fun g => (if g = true then ((DC.f k b c).bind fun d => (some (d.1, d.2, 1, true))) else ((CB.f k b c i).bind fun a => (if a.2.2 = true then ((Cj.f k a.1 a.2.1 i).bind fun h => (if h = true then (some (a.1, a.2.1, 2, true)) else (some (([] : List Int), ([] : List (S81)), 2, false)))) else (some (([] : List Int), ([] : List (S81)), 2, false)))))) else (some (([] : List Int), ([] : List (S81)), 0, false)))
theorem EN.mono : ∀ a b c k, LeO (EN.f k a b c) (EN.f (k + 1) a b c) := by
 intro a b c k
 unfold EN.f
 exact M5 CB.mono BQ.mono Cj.mono DC.mono
theorem EN.calls (k : Nat) (z : Option Addr) (B : Nat) (m : List Int) (A : Option Addr) (D : Nat) (p : List (S81)) (A1 : Option Addr) (c1 : Nat) (U : List (S75)) (r1 : List Int) (r2 : List (S81)) (r3 : Int) (r4 : Bool) (w : World) (hr0_0 : Kd.C (Kd.int .i64) w z m.length m) (aa : m.length ≤ B) (hr0_1 : Kd.C k81 w A p.length p) (ab : p.length ≤ D) (hr1 : Kd.C k75 w A1 U.length U) (aC : U.length ≤ c1) (h : EN.f k m p U = some (r1, r2, r3, r4)) :
  Calls Tryz.prog 72 #[.agg #[.slice z m.length B, .slice A p.length D], .slice A1 U.length c1] w fun e w' => ∃ v0_ v1_ : Value, e = .returned (.tuple #[.agg #[v0_, v1_], .int .i64 r3, .bool r4]) ∧ Kd.R (Kd.int .i64) 3 w' w.heap.size (fun _ => True) v0_ r1 ∧ Kd.S k81 81 w' w.heap.size (fun k_ => some k_ ≠ (v0_ : Value).ownBlock) v1_ r2 ∧ Below w.heap.size w w' := by
 have hu53 := Tryz.underlying53
 have K := Q_ hr0_0
 have I := Q_ aa
 clear hr0_0 aa
 have L := Q_ hr0_1
 have J := Q_ ab
 clear hr0_1 ab
 have ap := Q_ hr1
 have ao := Q_ aC
 clear hr1 aC
 have HB := Q_ (Below.refl w.heap.size w)
 unfold EN.f at h
 have H := h
 clear h
 have HS_ := Q_ H
 clear H
 go_enter Tryz.func72, Tryz.ntmps72
 go_upto_region 1 with (first | (refine bg_ 2 #[.slice z m.length B, .slice A p.length D] 53 ?_; intro aq hg w3 hbox hb; have _ := Q_ (AD (pb_ HB.1) hb); have b := Q_ (hbox); have al := Q_ (gw_ (w := w) hg (pb_ HB.1)); have d := al; clear HB; rename_i HB; clear hb hbox hg) | (refine bg_ 4 #[.slice none 0 0, .slice none 0 0] 53 ?_; intro y hg w4 hbox hb; have _ := Q_ (bb_ b.1 hb); have _ := Q_ (AD (CM HB.1 d.1) hb); have a := Q_ (hbox); have am := Q_ (gw_ (w := w) hg (CM HB.1 d.1)); have j := am; have i := Q_ (nb_ hg b); have l := Q_ i.1.symm; clear b HB; rename_i b HB; clear hb hbox hg))
 (try simp only [Act.put, s1_, s2_, s3_])
 have H := HS_.1
 clear HS_
 obtain ⟨P, A5, H⟩ := bs_ H
 (try dsimp only at H)
 have HS_ := Q_ H
 clear H
 have bu := i.1
 have bv := l.1
 have bt := Ew b.1
 go_upto_if 11 with (first | (refine gk_ 23 10 Tryz.func23 #[.agg #[.slice z m.length B, .slice A p.length D]] ?_; (with_reducible refine (BQ.calls k _ _ m _ _ p P _ (cb_ K HB) I.1 (cb_ L HB) J.1 A5.1).mono ?_); rintro e w8 ⟨rfl, hb⟩; refine ⟨_, rfl, ?_⟩; have _ := Q_ (bb_ b.1 hb); have _ := Q_ (bb_ a.1 hb); have _ := Q_ (AD (Dw HB.1 d.1 j.1) hb); clear b a HB; rename_i b a HB; (try clear hb)))
 (try simp only [Act.put, s1_, s2_, s3_])
 have H := HS_.1
 clear HS_
 by_cases c9 : P = true
 rotate_left
 ·replace c9 := bf_ c9
  subst c9
  rw [if_neg ff_] at H
  simp only [Option.some.injEq, Prod.mk.injEq] at H
  obtain ⟨rfl, rfl, rfl, rfl⟩ := H
  have aZ := l.1
  have be := i.1
  have aO := Ew a.1
  go_wp2
  refine bodyPost_ret (I5 rfl _ _ y 53 #[.slice none 0 0, .slice none 0 0] (0, 0) _ rfl (pp_ a.1) Tryz.underlying53 rfl (by kernel_rfl)) rfl ?_
  exact ⟨_, _, er_, nl_, by first | exact Kd.J' _ _ _ _ _ | exact Kd.J4 _ _ _ _ _ | exact Kd.KO _ _ _ _ _ | exact Kd.KX _ _ _ _ _ | exact Kd.I7 _ _ _ _ _, Dw HB.1 d.1 j.1⟩
 subst c9
 rw [if_pos rfl] at H
 obtain ⟨Q, aK, H⟩ := bs_ H
 (try dsimp only at H)
 have HS_ := Q_ H
 clear H
 have a0 := i.1
 have bf := l.1
 have aP := Ew b.1
 go_upto_if 15 with (first | (refine gk_ 110 15 Tryz.func110 #[.agg #[.slice z m.length B, .slice A p.length D], .slice A1 U.length c1] ?_; (with_reducible refine (Cj.calls k _ _ m _ _ p _ _ U Q _ (cb_ K HB) I.1 (cb_ L HB) J.1 (cb_ ap HB) ao.1 aK.1).mono ?_); rintro e bC ⟨rfl, hb⟩; refine ⟨_, rfl, ?_⟩; have _ := Q_ (bb_ b.1 hb); have _ := Q_ (bb_ a.1 hb); have _ := Q_ (AD (Dw HB.1 d.1 j.1) hb); clear b a HB; rename_i b a HB; (try clear hb)))
 (try simp only [Act.put, s1_, s2_, s3_])
 have H := HS_.1
 clear HS_
 by_cases ag : Q = true
 ·subst ag
  rw [if_pos rfl] at H
  obtain ⟨⟨ae, af⟩, aL, H⟩ := bs_ H
  replace H : (some (ae, af, 1, true)) = some (r1, r2, r3, r4) := H
  simp only [Option.some.injEq, Prod.mk.injEq] at H
  obtain ⟨rfl, rfl, rfl, rfl⟩ := H
  have a1 := i.1
  have bg := l.1
  have aQ := Ew b.1
  go_wp2_with (first | (refine gk_ 111 17 Tryz.func111 #[.agg #[.slice z m.length B, .slice A p.length D]] ?_; (with_reducible refine (DC.calls k _ _ m _ _ p ae af _ (cb_ K HB) I.1 (cb_ L HB) J.1 aL.1).mono ?_); rintro e bD ⟨bw, bx, rfl, ac, ad, hb⟩; refine ⟨_, rfl, ?_⟩; have _ := Q_ (Kd.BV ac (AZ (Dw HB.1 d.1 j.1))); have _ := Q_ (Kd.Fh ad (AZ (Dw HB.1 d.1 j.1))); have _ := Q_ (bb_ b.1 hb); have _ := Q_ (bb_ a.1 hb); have _ := Q_ (AD (Dw HB.1 d.1 j.1) hb); clear b a HB; rename_i W X b a HB; (try clear hb ac ad); obtain ⟨au, aw, ay⟩ := Kd.Bo W.1; subst ay; have aR := Ew a.1; obtain ⟨av, ax, az⟩ := Kd.Gv X.1; subst az))
  refine bodyPost_ret (I5 rfl _ _ y 53 #[.slice au ae.length aw, .slice av af.length ax] (0, 0) _ rfl (pp_ a.1) Tryz.underlying53 rfl (by kernel_rfl)) rfl ?_
  exact ⟨_, _, er_, pr_ (Kd.Ax (H5 W.1 a.1) (fun _ hk => trivial)), ps_ (L' X.1 a.1), Dw HB.1 d.1 j.1⟩
 replace ag := bf_ ag
 subst ag
 rw [if_neg ff_] at H
 obtain ⟨⟨G, M, ak⟩, aM, H⟩ := bs_ H
 (try dsimp only at H)
 have HS_ := Q_ H
 clear H
 have a2 := i.1
 have bh := l.1
 have aS := Ew b.1
 go_upto_region 6 with (first | (refine gk_ 112 21 Tryz.func112 #[.agg #[.slice z m.length B, .slice A p.length D], .slice A1 U.length c1] ?_; (with_reducible refine (CB.calls k _ _ m _ _ p _ _ U G M ak _ (cb_ K HB) I.1 (cb_ L HB) J.1 (cb_ ap HB) ao.1 aM.1).mono ?_); rintro e bE ⟨bz, bA, rfl, ac, ad, hb⟩; refine ⟨_, rfl, ?_⟩; have _ := Q_ (Kd.BV ac (AZ (Dw HB.1 d.1 j.1))); have _ := Q_ (Kd.Fh ad (AZ (Dw HB.1 d.1 j.1))); have _ := Q_ (bb_ b.1 hb); have _ := Q_ (bb_ a.1 hb); have _ := Q_ (AD (Dw HB.1 d.1 j.1) hb); clear b a HB; rename_i t u b a HB; (try clear hb ac ad)) | (refine bg_ 7 #[.slice none 0 0, .slice none 0 0] 53 ?_; intro ar hg bF hbox hb; have _ := Q_ (Kd.Bv (pr_ t.1) hb); have _ := Q_ (Kd.FB (ps_ u.1) hb); have _ := Q_ (bb_ b.1 hb); have _ := Q_ (bb_ a.1 hb); have _ := Q_ (AD (Dw HB.1 d.1 j.1) hb); have s := Q_ (hbox); have an := Q_ (gw_ (w := w) hg (Dw HB.1 d.1 j.1)); have E := an; have v := Q_ (nb_ hg b); have x := Q_ v.1.symm; have q := Q_ (nb_ hg a); have r := Q_ q.1.symm; clear t u b a HB; rename_i t u b a HB; clear hb hbox hg; obtain ⟨V, O, aA⟩ := Kd.Bo t.1; subst aA; have a3 := x.1; have bi := v.1; have a4 := r.1; have bj := q.1; have aT := Ew s.1; obtain ⟨aj, Z, aB⟩ := Kd.Gv u.1; subst aB))
 (try simp only [Act.put, s1_, s2_, s3_])
 have H := HS_.1
 clear HS_
 by_cases ah : ak = true
 rotate_left
 ·replace ah := bf_ ah
  subst ah
  rw [if_neg ff_] at H
  simp only [Option.some.injEq, Prod.mk.injEq] at H
  obtain ⟨rfl, rfl, rfl, rfl⟩ := H
  have a5 := l.1
  have bk := i.1
  have a6 := q.1
  have bl := r.1
  have aU := Ew a.1
  go_wp2
  refine bodyPost_ret (I5 rfl _ _ y 53 #[.slice none 0 0, .slice none 0 0] (0, 0) _ rfl (pp_ a.1) Tryz.underlying53 rfl (by kernel_rfl)) rfl ?_
  exact ⟨_, _, er_, nl_, by first | exact Kd.J' _ _ _ _ _ | exact Kd.J4 _ _ _ _ _ | exact Kd.KO _ _ _ _ _ | exact Kd.KX _ _ _ _ _ | exact Kd.I7 _ _ _ _ _, Gg HB.1 d.1 j.1 E.1⟩
 subst ah
 rw [if_pos rfl] at H
 obtain ⟨T, aN, H⟩ := bs_ H
 (try dsimp only at H)
 have HS_ := Q_ H
 clear H
 have a7 := x.1
 have bm := v.1
 have a8 := r.1
 have bn := q.1
 have aV := Ew s.1
 go_upto_if 31 with (first | (go_at_call 110; (with_reducible refine (Cj.calls k _ _ G _ _ M _ _ U T _ ?side1 ?side2 ?side3 ?side4 ?side5 ?side6 aN.1).mono ?_); (case side1 => refine (Kd.BH (e := 3) (base := w.heap.size) (ok := fun k_ => True) (n := G.length) (c := O) ?_).2.2; exact (pr_ (H5 t.1 s.1))); (case side2 => exact (Kd.BH t.1).2.1); (case side3 => refine (Kd.GX (e := 81) (base := w.heap.size) (ok := fun k_ => some k_ ≠ (.slice V G.length O : Value).ownBlock) (n := M.length) (c := Z) ?_).2.2; exact (ps_ (L' u.1 s.1))); (case side4 => exact (Kd.GX u.1).2.1); (case side5 => exact Kd.Ec ap.1 (Gg HB.1 d.1 j.1 E.1)); (case side6 => exact ao.1); rintro e bG ⟨rfl, hb⟩; have _ := Q_ (Kd.Bv (pr_ (H5 t.1 s.1)) hb); have _ := Q_ (Kd.FB (ps_ (L' u.1 s.1)) hb); have _ := Q_ (Ej (g := aq) (o := .cells #[.slice z m.length B, .slice A p.length D] 53 (0, 0)) (pp_ b.1) hb); have _ := Q_ (Ej (g := y) (o := .cells #[.slice none 0 0, .slice none 0 0] 53 (0, 0)) (pp_ a.1) hb); have _ := Q_ (Ej (g := ar) (o := .cells #[.slice V G.length O, .slice aj M.length Z] 53 (0, 0)) (pp_ s.1) hb); have _ := Q_ (AD (Gg HB.1 d.1 j.1 E.1) hb); clear t u b a s HB; rename_i t u b a s HB; (try clear hb)))
 (try simp only [Act.put, s1_, s2_, s3_])
 have H := HS_.1
 clear HS_
 by_cases ai : T = true
 rotate_left
 ·replace ai := bf_ ai
  subst ai
  rw [if_neg ff_] at H
  simp only [Option.some.injEq, Prod.mk.injEq] at H
  obtain ⟨rfl, rfl, rfl, rfl⟩ := H
  have a9 := l.1
  have bo := i.1
  have ba := q.1
  have bp := r.1
  have aW := Ew a.1
  go_wp2
  refine bodyPost_ret (I5 rfl _ _ y 53 #[.slice none 0 0, .slice none 0 0] (0, 0) _ rfl (pp_ a.1) Tryz.underlying53 rfl (by kernel_rfl)) rfl ?_
  exact ⟨_, _, er_, nl_, by first | exact Kd.J' _ _ _ _ _ | exact Kd.J4 _ _ _ _ _ | exact Kd.KO _ _ _ _ _ | exact Kd.KX _ _ _ _ _ | exact Kd.I7 _ _ _ _ _, Gg HB.1 d.1 j.1 E.1⟩
 subst ai
 rw [if_pos rfl] at H
 simp only [Option.some.injEq, Prod.mk.injEq] at H
 obtain ⟨rfl, rfl, rfl, rfl⟩ := H
 have bb := x.1
 have bq := v.1
 have bc := r.1
 have br := q.1
 have aX := Ew s.1
 have bd := l.1
 have bs := i.1
 have aY := Ew a.1
 go_wp2
 refine bodyPost_ret (I5 rfl _ _ y 53 #[.slice V G.length O, .slice aj M.length Z] (0, 0) _ rfl (pp_ a.1) Tryz.underlying53 rfl (by kernel_rfl)) rfl ?_
 exact ⟨_, _, er_, pr_ (Kd.Ax (H5 t.1 a.1) (fun _ hk => trivial)), ps_ (L' u.1 a.1), Gg HB.1 d.1 j.1 E.1⟩
def BO.l0 : Nat → List Int → List (S81) → Int → Int → Option (List Int)
 | 0, _, _, _, _ => none
 | k + 1, b, c, d, a => if a < d then (if 0 ≤ a then (if a < (c.length : Int) then (if b.length < 17592186044416 then (BO.l0 k (b ++ [(AX c a).f0]) c d (wrap64 (a + 1))) else (none)) else (none)) else (none)) else (some b)
def BO.f (k : Nat) (a : List (S81)) : Option (List Int) := BO.l0 k (([] : List Int)) a (a.length : Int) 0
theorem BO.mono_l : ∀ k, (∀ a b c d, LeO (BO.l0 k a b c d) (BO.l0 (k + 1) a b c d))
 | 0 => fun _ _ _ _ r h => by simp [BO.l0] at h
 | k + 1 => by
  have ih0 := BO.mono_l k
  ·intro a b c d
   unfold BO.l0
   exact G7 ih0
theorem BO.mono : ∀ a k, LeO (BO.f k a) (BO.f (k + 1) a) := by
 intro a k
 have ih0 := BO.mono_l k
 unfold BO.f
 exact G7 ih0
theorem BO.calls (k : Nat) (V : Option Addr) (W : Nat) (i : List (S81)) (r : List Int) (w : World) (hr0 : Kd.C k81 w V i.length i) (O : i.length ≤ W) (h : BO.f k i = some r) :
  Calls Tryz.prog 58 #[.slice V i.length W] w fun e w' => ∃ v0_ : Value, e = .returned (v0_) ∧ Kd.R (Kd.int .i64) 3 w' w.heap.size (fun _ => True) v0_ r ∧ Below w.heap.size w w' := by
 have hu81 := Tryz.underlying81
 have T := Q_ hr0
 have ac := Q_ O
 clear hr0 O
 have HB := Q_ (Below.refl w.heap.size w)
 unfold BO.f at h
 have H := h
 clear h
 obtain ⟨x, hy452⟩ : ∃ y_ : List Int, y_ = (([] : List Int)) := ⟨_, rfl⟩
 replace H : (BO.l0 k x i (i.length : Int) 0) = some r := hb_ hy452 H
 have p := Q_ hy452
 clear hy452
 have H' := Q_ H
 clear H
 go_enter Tryz.func58, Tryz.ntmps58
 go_wp2_with (first | (refine Ie .i64 3 6 ([] : List Int) ?_; intro aa w2 q hb; rw [← p.1] at q; have _ := Q_ (Kd.BV q (AZ (pb_ HB.1))); have _ := Q_ (AD (pb_ HB.1) hb); clear HB; rename_i A HB; clear hb q))
 (try simp only [Act.put, s1_, s2_, s3_])
 go_loopg [3, 9] k (fun kq v3 v9 w' => ∃ (j : List Int) (a : Int), v9 = .int .i64 a ∧ Aside0 (BO.l0 kq j i (i.length : Int) a = some r) ∧ Aside0 (kq ≤ k) ∧ Aside0 (Kd.R (Kd.int .i64) 3 w' w.heap.size (fun _ => True) v3 j) ∧ Aside0 (Below w.heap.size w w'))
 case atStart => exact ⟨(x), (0), el_, H', ⟨Nat.le_refl _⟩, ⟨pr_ A.1⟩, ⟨pb_ HB.1⟩⟩
 clear H'
 obtain ⟨j, a, rfl, HA, I, d, HB⟩ := hrel
 rcases gk with _ | k1
 ·exact absurd HA.1 (by simp [BO.l0])
 have H := HA.1
 clear HA
 simp only [BO.l0] at H
 by_cases F : a < (i.length : Int)
 rotate_left
 ·rw [if_neg F] at H
  have L := decide_eq_false F
  clear F
  obtain rfl := Option.some.inj H
  go_wp2
  go_ret
  exact ⟨_, er_, pr_ d.1, pb_ HB.1⟩
 rw [if_pos F] at H
 have L := decide_eq_true F
 clear F
 by_cases P : 0 ≤ a
 rotate_left
 ·rw [if_neg P] at H
  exact nn_ H
 rw [if_pos P] at H
 have X := decide_eq_true P
 clear P
 by_cases Q : a < (i.length : Int)
 rotate_left
 ·rw [if_neg Q] at H
  exact nn_ H
 rw [if_pos Q] at H
 have Y := decide_eq_true Q
 clear Q
 by_cases S : j.length < 17592186044416
 rotate_left
 ·rw [if_neg S] at H
  exact nn_ H
 rw [if_pos S] at H
 have K := Q_ S
 clear S
 obtain ⟨y, hy457⟩ : ∃ y_ : List Int, y_ = (j ++ [(AX i a).f0]) := ⟨_, rfl⟩
 replace H : (BO.l0 k1 y i (i.length : Int) (wrap64 (a + 1))) = some r := hb_ hy457 H
 have D := Q_ hy457
 clear hy457
 have H' := Q_ H
 clear H
 have s : 0 ≤ (a : Int) := dt_
 have t : a < (i.length : Int) := dt_
 obtain ⟨U, u, v, M, l, m, G, J⟩ := Ip T.1 a s t
 cases M
 replace l := bt_ HB l
 replace m := bt_ HB m
 replace s := eq_true s
 replace t := eq_true t
 go_wp2_with (first | (refine bg_ 5 #[.int .i64 0, .slice none 0 0] 81 ?_; intro E hg w8 hbox hb; have _ := Q_ (Kd.Bv (pr_ d.1) hb); have _ := Q_ (AD (pb_ HB.1) hb); have c := Q_ (hbox); have z := Q_ (gw_ (w := w) hg (pb_ HB.1)); have n := z; clear d HB; rename_i d HB; clear hb hbox hg; have Z := Ew c.1) | ((with_reducible refine FO (b := .append) (xs := #[.tmp 13, .tmp 16]) rfl ?_); at_builtin; refine Kd.I4 (Kd.int .i64) (w0 := w) w.heap.size rfl (.tmp 13) (.tmp 16) 22 3 (.int .i64 0) 8 rfl Tryz.underlying22 HI rfl (by decide) (by omega) u3 j ((AX i a).f0) [.int .i64 ((AX i a).f0)] (fun _ => True) (fun _ => False) rfl (by first | (go_simp; done) | (go_simp; rfl)) ?aP (fun _ hk => hk.elim) ?aF ?aO ?aB ?aS ?aL ?_; (case aP => exact rfl); (case aB => exact (CM HB.1 n.1)); (case aF => exact (fun _ _ => trivial)); (case aO => exact (pr_ (Kd.Ax (H5 d.1 c.1) (fun _ hk => trivial)))); (case aS => exact (AZ (CM HB.1 n.1))); (case aL => have := K.1; omega); intro ab af ho hb hg hat; rw [← D.1] at ho; have _ := Q_ (Eb (g := E) (o := .cells #[.int .i64 ((AX i a).f0), .slice u ((AX i a).f1).length v] 81 (0, 0)) (pp_ c.1) hg (Kd.JB d.1 c.1 (by decide))); have _ := Q_ (hb); have _ := Q_ (ho); clear c HB d; rename_i c HB B; clear ho hb hg hat))
 go_roundg k1
 case measure => have := I.1; omega
 case rel => exact ⟨(y), (wrap64 (a + 1)), el_, H', ⟨by have := I.1; omega⟩, ⟨pr_ B.1⟩, ⟨CM HB.1 n.1⟩⟩
def Bf.l0 : Nat → List Int → List Int → List Int → Int → Int → Option (List Int)
 | 0, _, _, _, _, _ => none
 | k + 1, g, e, d, b, a => if a < b then (if 0 ≤ a then (if a < (d.length : Int) then ((Ad.f k g (rd d a)).bind fun c => (if c = true then (if e.length < 17592186044416 then (Bf.l0 k g (e ++ [rd d a]) d b (wrap64 (a + 1))) else (none)) else (Bf.l0 k g e d b (wrap64 (a + 1))))) else (none)) else (none)) else (some e)
def Bf.f (k : Nat) (a : List Int) (b : List Int) : Option (List Int) := Bf.l0 k b (([] : List Int)) a (a.length : Int) 0
theorem Bf.mono_l : ∀ k, (∀ a b c d e, LeO (Bf.l0 k a b c d e) (Bf.l0 (k + 1) a b c d e))
 | 0 => fun _ _ _ _ _ r h => by simp [Bf.l0] at h
 | k + 1 => by
  have ih0 := Bf.mono_l k
  ·intro a b c d e
   unfold Bf.l0
   exact H8 ih0 Ad.mono
theorem Bf.mono : ∀ a b k, LeO (Bf.f k a b) (Bf.f (k + 1) a b) := by
 intro a b k
 have ih0 := Bf.mono_l k
 unfold Bf.f
 exact H8 ih0 Ad.mono
theorem Bf.calls (k : Nat) (T : Option Addr) (U : Nat) (d : List Int) (K : Option Addr) (Q : Nat) (m : List Int) (r : List Int) (w : World) (hr0 : Kd.C (Kd.int .i64) w T d.length d) (E : d.length ≤ U) (hr1 : Kd.C (Kd.int .i64) w K m.length m) (F : m.length ≤ Q) (h : Bf.f k d m = some r) :
  Calls Tryz.prog 61 #[.slice T d.length U, .slice K m.length Q] w fun e w' => ∃ v0_ : Value, e = .returned (v0_) ∧ Kd.R (Kd.int .i64) 3 w' w.heap.size (fun _ => True) v0_ r ∧ Below w.heap.size w w' := by
 have M := Q_ hr0
 have aa := Q_ E
 clear hr0 E
 have O := Q_ hr1
 have L := Q_ F
 clear hr1 F
 have HB := Q_ (Below.refl w.heap.size w)
 unfold Bf.f at h
 have H := h
 clear h
 obtain ⟨t, hy460⟩ : ∃ y_ : List Int, y_ = (([] : List Int)) := ⟨_, rfl⟩
 replace H : (Bf.l0 k m t d (d.length : Int) 0) = some r := hb_ hy460 H
 have j := Q_ hy460
 clear hy460
 have H' := Q_ H
 clear H
 go_enter Tryz.func61, Tryz.ntmps61
 go_wp2_with (first | (refine Ie .i64 3 8 ([] : List Int) ?_; intro X w3 l hb; rw [← j.1] at l; have _ := Q_ (Kd.BV l (AZ (pb_ HB.1))); have _ := Q_ (AD (pb_ HB.1) hb); clear HB; rename_i v HB; clear hb l))
 (try simp only [Act.put, s1_, s2_, s3_])
 go_loopg [5, 11] k (fun kq v5 S w' => ∃ (c : List Int) (a : Int), S = .int .i64 a ∧ Aside0 (Bf.l0 kq m c d (d.length : Int) a = some r) ∧ Aside0 (kq ≤ k) ∧ Aside0 (Kd.R (Kd.int .i64) 3 w' w.heap.size (fun _ => True) v5 c) ∧ Aside0 (Below w.heap.size w w'))
 case atStart => exact ⟨(t), (0), el_, H', ⟨Nat.le_refl _⟩, ⟨pr_ v.1⟩, ⟨pb_ HB.1⟩⟩
 clear H'
 obtain ⟨c, a, rfl, HA, p, i, HB⟩ := hrel
 rcases gk with _ | k1
 ·exact absurd HA.1 (by simp [Bf.l0])
 have H := HA.1
 clear HA
 simp only [Bf.l0] at H
 by_cases A : a < (d.length : Int)
 rotate_left
 ·rw [if_neg A] at H
  have B := decide_eq_false A
  clear A
  obtain rfl := Option.some.inj H
  go_wp2
  go_ret
  exact ⟨_, er_, pr_ i.1, pb_ HB.1⟩
 rw [if_pos A] at H
 have B := decide_eq_true A
 clear A
 by_cases G : 0 ≤ a
 rotate_left
 ·rw [if_neg G] at H
  exact nn_ H
 rw [if_pos G] at H
 have V := decide_eq_true G
 clear G
 by_cases I : a < (d.length : Int)
 rotate_left
 ·rw [if_neg I] at H
  exact nn_ H
 rw [if_pos I] at H
 have W := decide_eq_true I
 clear I
 obtain ⟨s, Z, H⟩ := bs_ H
 (try dsimp only at H)
 have HS_ := Q_ H
 clear H
 have n : 0 ≤ (a : Int) := dt_
 have o : a < (d.length : Int) := dt_
 obtain ⟨P, D, g⟩ := Kd.GG M.1 a n o
 cases D
 replace g := bt_ HB g
 replace n := eq_true n
 replace o := eq_true o
 go_upto_if 17 with (first | (refine gk_ 83 17 Tryz.func83 #[.slice K m.length Q, .int .i64 (rd d a)] ?_; (with_reducible refine (Ad.calls k1 _ _ m (rd d a) s _ (cb_ O HB) L.1 Z.1).mono ?_); rintro e w' ⟨rfl, ⟨nd, rfl⟩⟩; refine ⟨_, rfl, ?_⟩))
 (try simp only [Act.put, s1_, s2_, s3_])
 have H := HS_.1
 clear HS_
 by_cases J : s = true
 rotate_left
 ·replace J := bf_ J
  subst J
  rw [if_neg ff_] at H
  have H' := Q_ H
  clear H
  go_wp2
  go_roundg k1
  case measure => have := p.1; omega
  case rel => exact ⟨(c), (wrap64 (a + 1)), el_, H', ⟨by have := p.1; omega⟩, ⟨pr_ i.1⟩, ⟨pb_ HB.1⟩⟩
 subst J
 rw [if_pos rfl] at H
 by_cases q : c.length < 17592186044416
 rotate_left
 ·rw [if_neg q] at H
  exact nn_ H
 rw [if_pos q] at H
 have y := Q_ q
 clear q
 obtain ⟨u, hy465⟩ : ∃ y_ : List Int, y_ = (c ++ [rd d a]) := ⟨_, rfl⟩
 replace H : (Bf.l0 k1 m u d (d.length : Int) (wrap64 (a + 1))) = some r := hb_ hy465 H
 have z := Q_ hy465
 clear hy465
 have H' := Q_ H
 clear H
 go_wp2_with (first | ((with_reducible refine FO (b := .append) (xs := #[.tmp 18, .tmp 20]) rfl ?_); at_builtin; refine Kd.I4 (Kd.int .i64) (w0 := w) w.heap.size rfl (.tmp 18) (.tmp 20) 22 3 (.int .i64 0) 8 rfl Tryz.underlying22 HI rfl (by decide) (by omega) u5 c (rd d a) [.int .i64 (rd d a)] (fun _ => True) (fun _ => False) rfl rfl ?aP (fun _ hk => hk.elim) ?aF ?aO ?aB ?aS ?aL ?_; (case aP => exact rfl); (case aB => exact (pb_ HB.1)); (case aF => exact (fun _ _ => trivial)); (case aO => exact (pr_ i.1)); (case aS => exact (AZ (pb_ HB.1))); (case aL => have := y.1; omega); intro Y ac ho hb hg hat; rw [← z.1] at ho; have _ := Q_ (hb); have _ := Q_ (ho); clear HB i; rename_i HB x; clear ho hb hg hat))
 go_roundg k1
 case measure => have := p.1; omega
 case rel => exact ⟨(u), (wrap64 (a + 1)), el_, H', ⟨by have := p.1; omega⟩, ⟨pr_ x.1⟩, ⟨pb_ HB.1⟩⟩
mutual
def Ak.j0 : Nat → List Int → List Int → Bool → Option (Int)
 | 0, _, _, _ => none
 | k + 1, c, d, b => if b = true then (some 0) else ((Bf.f k c d).bind fun a => (Ak.l0 k 0 a (a.length : Int) 0))
def Ak.l0 : Nat → Int → List Int → Int → Int → Option (Int)
 | 0, _, _, _, _ => none
 | k + 1, d, b, c, a => if a < c then (if 0 ≤ a then (if a < (b.length : Int) then (Ak.l0 k (mx d (rd b a)) b c (wrap64 (a + 1))) else (none)) else (none)) else (some d)
end
def Ak.f (k : Nat) (c : List Int) (d : List Int) : Option (Int) := (Ah.f k c).bind fun a => (if a = true then ((Ah.f k d).bind fun b => (Ak.j0 k c d (!b))) else (Ak.j0 k c d true))
theorem Ak.mono_l : ∀ k, (∀ a b c, LeO (Ak.j0 k a b c) (Ak.j0 (k + 1) a b c)) ∧ (∀ a b c d, LeO (Ak.l0 k a b c d) (Ak.l0 (k + 1) a b c d))
 | 0 => ⟨fun _ _ _ r h => by simp [Ak.j0] at h, fun _ _ _ _ r h => by simp [Ak.l0] at h⟩
 | k + 1 => by
  obtain ⟨ih0, ih1⟩ := Ak.mono_l k
  refine ⟨?_, ?_⟩
  ·intro a b c
   unfold Ak.j0
   exact M5 ih0 ih1 Ah.mono Bf.mono
  ·intro a b c d
   unfold Ak.l0
   exact M5 ih0 ih1 Ah.mono Bf.mono
theorem Ak.mono : ∀ a b k, LeO (Ak.f k a b) (Ak.f (k + 1) a b) := by
 intro a b k
 obtain ⟨ih0, ih1⟩ := Ak.mono_l k
 unfold Ak.f
 exact M5 ih0 ih1 Ah.mono Bf.mono
theorem Ak.calls (k : Nat) (A : Option Addr) (I : Nat) (i : List Int) (T : Option Addr) (V : Nat) (l : List Int) (r : Int) (w : World) (hr0 : Kd.C (Kd.int .i64) w A i.length i) (M : i.length ≤ I) (hr1 : Kd.C (Kd.int .i64) w T l.length l) (N : l.length ≤ V) (h : Ak.f k i l = some r) :
  Calls Tryz.prog 27 #[.slice A i.length I, .slice T l.length V] w fun e w' => e = .returned (.int .i64 r) ∧ Below w.heap.size w w' := by
 have y := Q_ hr0
 have v := Q_ M
 clear hr0 M
 have G := Q_ hr1
 have D := Q_ N
 clear hr1 N
 have HB := Q_ (Below.refl w.heap.size w)
 unfold Ak.f at h
 have H := h
 clear h
 have x := Q_ H
 clear H
 go_enter Tryz.func27, Tryz.ntmps27
 go_upto_region 1 with (fail)
 go_cut [15] (fun Y wc => ∃ (kq : Nat) (d : Bool), Y = .bool d ∧ Aside0 (Ak.j0 kq i l d = some r) ∧ Aside0 (kq ≤ k) ∧ Aside0 (Below w.heap.size w wc))
 case first =>
  have H := x.1
  clear x
  obtain ⟨s, A4, H⟩ := bs_ H
  (try dsimp only at H)
  by_cases Q : s = true
  rotate_left
  ·replace Q := bf_ Q
   subst Q
   rw [if_neg ff_] at H
   have H' := Q_ H
   clear H
   go_wp2_with (first | (refine gk_ 47 9 Tryz.func47 #[.slice A i.length I] ?_; (with_reducible refine (Ah.calls k _ _ i false _ (cb_ y HB) v.1 A4.1).mono ?_); rintro e w' ⟨rfl, ⟨nd, rfl⟩⟩; refine ⟨_, rfl, ?_⟩))
   go_meet
   case rel => exact ⟨_, (true), el_, H', ⟨by first | omega | exact Nat.le_refl _⟩, ⟨pb_ HB.1⟩⟩
  subst Q
  rw [if_pos rfl] at H
  obtain ⟨g, A6, H⟩ := bs_ H
  replace H : (Ak.j0 k i l (!g)) = some r := H
  have H' := Q_ H
  clear H
  go_wp2_with (first | (refine gk_ 47 9 Tryz.func47 #[.slice A i.length I] ?_; (with_reducible refine (Ah.calls k _ _ i true _ (cb_ y HB) v.1 A4.1).mono ?_); rintro e w' ⟨rfl, ⟨nd, rfl⟩⟩; refine ⟨_, rfl, ?_⟩) | (go_at_call 47; (with_reducible refine (Ah.calls k _ _ l g _ ?side1 D.1 A6.1).mono ?_); (case side1 => exact pc_ (Kd.Ec G.1 (pb_ HB.1))); rintro e w' ⟨rfl, ⟨nd, rfl⟩⟩))
  go_meet
  case rel => exact ⟨_, (!g), el_, H', ⟨by first | omega | exact Nat.le_refl _⟩, ⟨pb_ HB.1⟩⟩
 clear x
 obtain ⟨kq, d, rfl, HA, E, HB⟩ := hcut
 rcases kq with _ | kj2
 ·exact absurd HA.1 (by simp [Ak.j0])
 have H := HA.1
 clear HA
 simp only [Ak.j0] at H
 by_cases S : d = true
 ·subst S
  rw [if_pos rfl] at H
  obtain rfl := Option.some.inj H
  go_wp2
  go_ret
  exact ⟨er_, pb_ HB.1⟩
 replace S := bf_ S
 subst S
 rw [if_neg ff_] at H
 obtain ⟨b, A8, H⟩ := bs_ H
 replace H : (Ak.l0 kj2 0 b (b.length : Int) 0) = some r := H
 have H' := Q_ H
 clear H
 go_wp2_with (first | (refine gk_ 61 18 Tryz.func61 #[.slice A i.length I, .slice T l.length V] ?_; (with_reducible refine (Bf.calls kj2 _ _ i _ _ l b _ (cb_ y HB) v.1 (cb_ G HB) D.1 A8.1).mono ?_); rintro e w9 ⟨ab, rfl, O, hb⟩; refine ⟨_, rfl, ?_⟩; have _ := Q_ (Kd.BV O (AZ (pb_ HB.1))); have _ := Q_ (AD (pb_ HB.1) hb); clear HB; rename_i m HB; (try clear hb O); obtain ⟨B, J, L⟩ := Kd.Bo m.1; subst L))
 (try simp only [Act.put, s1_, s2_, s3_])
 go_loopg [5, 20] kj2 (fun kq v5 Z w' => ∃ (c : Int) (a : Int), v5 = .int .i64 c ∧ Z = .int .i64 a ∧ Aside0 (Ak.l0 kq c b (b.length : Int) a = some r) ∧ Aside0 (kq ≤ kj2) ∧ Aside0 (Kd.R (Kd.int .i64) 3 w' w.heap.size (fun _ => True) (.slice B b.length J) b) ∧ Aside0 (Below w.heap.size w w'))
 case atStart => exact ⟨(0), (0), el_, el_, H', ⟨Nat.le_refl _⟩, ⟨pr_ m.1⟩, ⟨pb_ HB.1⟩⟩
 clear H'
 obtain ⟨c, a, rfl, rfl, HA, F, n, HB⟩ := hrel
 rcases gk with _ | k2
 ·exact absurd HA.1 (by simp [Ak.l0])
 have H := HA.1
 clear HA
 simp only [Ak.l0] at H
 by_cases j : a < (b.length : Int)
 rotate_left
 ·rw [if_neg j] at H
  have z := decide_eq_false j
  clear j
  obtain rfl := Option.some.inj H
  go_wp2
  go_ret
  exact ⟨er_, pb_ HB.1⟩
 rw [if_pos j] at H
 have z := decide_eq_true j
 clear j
 by_cases t : 0 ≤ a
 rotate_left
 ·rw [if_neg t] at H
  exact nn_ H
 rw [if_pos t] at H
 have W := decide_eq_true t
 clear t
 by_cases u : a < (b.length : Int)
 rotate_left
 ·rw [if_neg u] at H
  exact nn_ H
 rw [if_pos u] at H
 have X := decide_eq_true u
 clear u
 obtain ⟨o, hji14⟩ : ∃ j_ : Int, (mx c (rd b a)) = j_ := ⟨_, rfl⟩
 replace H : (Ak.l0 k2 o b (b.length : Int) (wrap64 (a + 1))) = some r := by first | (rw [hji14] at H; exact H) | (simp only [hji14] at H ⊢; exact H)
 have hji14_ : (if c < (rd b a) then (rd b a) else c) = o := hji14
 have H' := Q_ H
 clear H
 have p : 0 ≤ (a : Int) := dt_
 have q : a < (b.length : Int) := dt_
 obtain ⟨U, K, P⟩ := Kd.GG (Kd.BH n.1).2.2 a p q
 cases K
 replace p := eq_true p
 replace q := eq_true q
 go_wp2
 go_roundg k2
 case measure => have := E.1; have := F.1; omega
 case rel => exact ⟨(o), (wrap64 (a + 1)), (by first | rfl | (simp; done) | (simp only [← hji14] <;> (first | rfl | simp)) | (simp [*]; done)), el_, H', ⟨by have := E.1; have := F.1; omega⟩, ⟨pr_ n.1⟩, ⟨pb_ HB.1⟩⟩
def Gx.f (b : Int) : Option (Bool) := (GU.f b).bind fun a => (some (!a))
theorem Gx.calls (b : Int) (r : Bool) (w : World) (h : Gx.f b = some r) :
  Calls Tryz.prog 189 #[.int .i64 b] w fun e w' => e = .returned (.bool r) ∧ C' w w' := by
 unfold Gx.f at h
 have H := h
 clear h
 obtain ⟨a, c, H⟩ := bs_ H
 replace H : (some (!a)) = some r := H
 obtain rfl := Option.some.inj H
 go_enter Tryz.func189, Tryz.ntmps189
 go_wp2_with (first | (refine gk_ 81 4 Tryz.func81 #[.int .i64 b] ?_; (with_reducible refine (GU.calls b a _ c.1).mono ?_); rintro e w' ⟨rfl, ⟨nd, rfl⟩⟩; refine ⟨_, rfl, ?_⟩))
 go_ret
 exact ⟨by first | rfl | (simp; done) | (simp [*]; done), by repeat (first | exact C'.refl _ | apply C'.step)⟩
def AM.l0 : Nat → List (S81) → List (S81) → Int → Int → Option ((List (S81)))
 | 0, _, _, _, _ => none
 | k + 1, g, d, c, a => if a < c then (if 0 ≤ a then (if a < (d.length : Int) then ((Gx.f ((AX d a).f0)).bind fun e => (if e = true then ((some (([] : List Int) : List Int)).bind fun b => (if b.length + ((AX d a).f1).length < 17592186044416 then (if g.length < 4398046511104 then (AM.l0 k (g ++ [(⟨(AX d a).f0, (b ++ ((AX d a).f1))⟩ : S81)]) d c (wrap64 (a + 1))) else (none)) else (none))) else (AM.l0 k g d c (wrap64 (a + 1))))) else (none)) else (none)) else (some g)
def AM.f (k : Nat) (a : List (S81)) : Option ((List (S81))) := AM.l0 k (([] : List (S81))) a (a.length : Int) 0
theorem AM.mono_l : ∀ k, (∀ a b c d, LeO (AM.l0 k a b c d) (AM.l0 (k + 1) a b c d))
 | 0 => fun _ _ _ _ r h => by simp [AM.l0] at h
 | k + 1 => by
  have ih0 := AM.mono_l k
  ·intro a b c d
   unfold AM.l0
   exact G7 ih0
theorem AM.mono : ∀ a k, LeO (AM.f k a) (AM.f (k + 1) a) := by
 intro a k
 have ih0 := AM.mono_l k
 unfold AM.f
 exact G7 ih0
def AM.T6 : Bool × List (List Nat × List Nat) := (true, [([], []), ([], []), ([1], [1]), ([], []), ([], []), ([4], [4]), ([3, 5], [3, 5]), ([2, 6], [2, 6]), ([7], [7]), ([0, 8, 6], [0, 8]), ([9, 9, 0, 1, 2, 3, 4, 5, 6, 7, 8, 9], [0, 9])])
def AM.B6 : List Nat := [0, 0, 2, 0, 0, 16, 56, 126, 254, 511, 1023]
theorem AM.tab6 : rtab .any (opsOf Tryz.f122 6) = AM.T6 := by kernel_rfl
theorem AM.bits6 : Fa AM.T6.2 AM.B6 = true := by kernel_rfl
theorem AM.calls (k : Nat) (A0 : Option Addr) (c0 : Nat) (l : List (S81)) (r : List (S81)) (w : World) (hr0 : Kd.C k81 w A0 l.length l) (ai : l.length ≤ c0) (h : AM.f k l = some r) :
  Calls Tryz.prog 122 #[.slice A0 l.length c0, .func (.func 189) #[] #[]] w fun e w' => ∃ v0_ : Value, e = .returned (v0_) ∧ Kd.S k81 81 w' w.heap.size (fun _ => True) v0_ r ∧ Below w.heap.size w w' := by
 have hu81 := Tryz.underlying81
 have an := Q_ hr0
 have aD := Q_ ai
 clear hr0 ai
 have HB := Q_ (Below.refl w.heap.size w)
 unfold AM.f at h
 have H := h
 clear h
 obtain ⟨V, hy475⟩ : ∃ y_ : List (S81), y_ = (([] : List (S81))) := ⟨_, rfl⟩
 replace H : (AM.l0 k V l (l.length : Int) 0) = some r := hb_ hy475 H
 have E := Q_ hy475
 clear hy475
 have H' := Q_ H
 clear H
 go_enter Tryz.func122, Tryz.ntmps122
 go_wp2_with (first | ((with_reducible refine FP (N := 8) rfl ?_); refine Kd.Nn k81 _ 81 ?hg (N := 8) ?hd (xs := ([] : List (S81))) (inner := []) (ok := fun _ => True) (okp := fun _ => True) ?hr ?hp (fun _ hk => hk) trivial (Below.refl _ _) (Nat.le_refl _) (by simp) ?_; (case hd => rfl); (case hg => rfl); (case hr => first | (go_simp; done) | (go_simp; rfl)); (case hp => exact (Reps.none _ _)); intro ay w2 G hb hg_ hnew_; clear hg_ hnew_; rw [← E.1] at G; have _ := Q_ (Kd.Fh G (AZ (pb_ HB.1))); have _ := Q_ (AD (pb_ HB.1) hb); clear HB; rename_i Y HB; clear hb G))
 (try simp only [Act.put, s1_, s2_, s3_])
 go_loopg [5, 11] k (fun kq v5 aq w' => ∃ (q : List (S81)) (a : Int), aq = .int .i64 a ∧ Aside0 (AM.l0 kq q l (l.length : Int) a = some r) ∧ Aside0 (kq ≤ k) ∧ Aside0 (Kd.S k81 81 w' w.heap.size (fun _ => True) v5 q) ∧ Aside0 (Below w.heap.size w w'))
 case atStart => exact ⟨(V), (0), el_, H', ⟨Nat.le_refl _⟩, ⟨ps_ Y.1⟩, ⟨pb_ HB.1⟩⟩
 clear H'
 obtain ⟨q, a, rfl, HA, L, d, HB⟩ := hrel
 rcases gk with _ | k1
 ·exact absurd HA.1 (by simp [AM.l0])
 have H := HA.1
 clear HA
 simp only [AM.l0] at H
 by_cases c4 : a < (l.length : Int)
 rotate_left
 ·rw [if_neg c4] at H
  have ag := decide_eq_false c4
  clear c4
  obtain rfl := Option.some.inj H
  go_wp2
  go_ret
  exact ⟨_, er_, ps_ d.1, pb_ HB.1⟩
 rw [if_pos c4] at H
 have ag := decide_eq_true c4
 clear c4
 by_cases c5 : 0 ≤ a
 rotate_left
 ·rw [if_neg c5] at H
  exact nn_ H
 rw [if_pos c5] at H
 have av := decide_eq_true c5
 clear c5
 by_cases c6 : a < (l.length : Int)
 rotate_left
 ·rw [if_neg c6] at H
  exact nn_ H
 rw [if_pos c6] at H
 have aw := decide_eq_true c6
 clear c6
 have HS_ := Q_ H
 clear H
 have I : 0 ≤ (a : Int) := dt_
 have J : a < (l.length : Int) := dt_
 obtain ⟨ao, i, j, ah, y, z, af, D⟩ := Ip an.1 a I J
 cases ah
 replace y := bt_ HB y
 replace z := bt_ HB z
 replace I := eq_true I
 replace J := eq_true J
 go_upto_region 5 with (first | (refine bg_ 7 #[.int .i64 0, .slice none 0 0] 81 ?_; intro c hg w7 hbox hb; have _ := Q_ (Kd.FB (Kd.J5 (ps_ d.1) c (Nat.le_of_eq hg.symm)) hb); have _ := Q_ (AD (pb_ HB.1) hb); have b := Q_ (hbox); have X := Q_ (gw_ (w := w) hg (pb_ HB.1)); have m := X; clear d HB; rename_i d HB; clear hb hbox hg; have ax := Ew b.1))
 (try simp only [Act.put, s1_, s2_, s3_])
 have H := HS_.1
 clear HS_
 obtain ⟨U, A9, H⟩ := bs_ H
 (try dsimp only at H)
 have HS_ := Q_ H
 clear H
 have ap := Ew b.1
 go_upto_if 18 with (first | (go_at_call 189; (with_reducible refine (Gx.calls ((AX l a).f0) U _ A9.1).mono ?_); rintro e w' ⟨rfl, ⟨nd, rfl⟩⟩))
 (try simp only [Act.put, s1_, s2_, s3_])
 have H := HS_.1
 clear HS_
 by_cases M : U = true
 rotate_left
 ·replace M := bf_ M
  subst M
  rw [if_neg ff_] at H
  have H' := Q_ H
  clear H
  go_wp2
  go_roundg k1
  case measure => have := L.1; omega
  case rel => exact ⟨(q), (wrap64 (a + 1)), el_, H', ⟨by have := L.1; omega⟩, ⟨by (with_reducible repeat (first | apply Kd.Gq | apply Kd.Fz | apply Kd.Gz)); exact Kd.Ea (Kd.GQ (p := ⟨c, 1, none⟩) (Kd.GQ (p := ⟨c, 0, none⟩) (Kd.Ea d.1 (fun k_ hk => (⟨hk, hk.2⟩ : _ ∧ k_ ≠ c))) (fun _ hk => hk.2) (.int .i64 ((AX l a).f0))) (fun _ hk => hk.2) (.slice i ((AX l a).f1).length j)) (fun _ hk => trivial)⟩, ⟨CM HB.1 m.1⟩⟩
 subst M
 rw [if_pos rfl] at H
 obtain ⟨A, hy481⟩ : ∃ y_ : List Int, y_ = (([] : List Int)) := ⟨_, rfl⟩
 replace H : (if A.length + ((AX l a).f1).length < 17592186044416 then (if q.length < 4398046511104 then (AM.l0 k1 (q ++ [(⟨(AX l a).f0, (A ++ ((AX l a).f1))⟩ : S81)]) l (l.length : Int) (wrap64 (a + 1))) else (none)) else (none)) = some r := hb_ hy481 H
 have F := Q_ hy481
 clear hy481
 by_cases O : A.length + ((AX l a).f1).length < 17592186044416
 rotate_left
 ·rw [if_neg O] at H
  exact nn_ H
 rw [if_pos O] at H
 have aa := Q_ O
 clear O
 obtain ⟨u, hy484⟩ : ∃ y_ : List Int, y_ = (A ++ ((AX l a).f1)) := ⟨_, rfl⟩
 replace H : (if q.length < 4398046511104 then (AM.l0 k1 (q ++ [(⟨(AX l a).f0, u⟩ : S81)]) l (l.length : Int) (wrap64 (a + 1))) else (none)) = some r := hb_ hy484 H
 have ac := Q_ hy484
 clear hy484
 by_cases P : q.length < 4398046511104
 rotate_left
 ·rw [if_neg P] at H
  exact nn_ H
 rw [if_pos P] at H
 have ab := Q_ P
 clear P
 obtain ⟨W, hy487⟩ : ∃ y_ : List (S81), y_ = (q ++ [(⟨(AX l a).f0, u⟩ : S81)]) := ⟨_, rfl⟩
 replace H : (AM.l0 k1 W l (l.length : Int) (wrap64 (a + 1))) = some r := hb_ hy487 H
 have ad := Q_ hy487
 clear hy487
 have H' := Q_ H
 clear H
 try go_wp2
 have n0_ : Aside0 (Kd.S k81 81 ((w7.setCell ⟨c, 0, none⟩ (.int .i64 ((AX l a).f0))).setCell ⟨c, 1, none⟩ (.slice i ((AX l a).f1).length j)) w.heap.size (fun k_ => k_ ≠ c) u5 q) := ⟨by (with_reducible repeat (first | apply Kd.Gq | apply Kd.Fz | apply Kd.Gz)); exact Kd.Ea (Kd.GQ (p := ⟨c, 1, none⟩) (Kd.GQ (p := ⟨c, 0, none⟩) (Kd.Ea d.1 (fun k_ hk => (⟨hk, hk.2⟩ : _ ∧ k_ ≠ c))) (fun _ hk => hk.2) (.int .i64 ((AX l a).f0))) (fun _ hk => hk.2) (.slice i ((AX l a).f1).length j)) (fun _ hk => hk.1.2)⟩
 have n1_ : Aside0 (((w7.setCell ⟨c, 0, none⟩ (.int .i64 ((AX l a).f0))).setCell ⟨c, 1, none⟩ (.slice i ((AX l a).f1).length j)).heap[c]? = some (.cells #[.int .i64 ((AX l a).f0), .slice i ((AX l a).f1).length j] 81 (0, 0))) := ⟨pp_ b.1⟩
 have n2_ : Aside0 (Below w.heap.size w ((w7.setCell ⟨c, 0, none⟩ (.int .i64 ((AX l a).f0))).setCell ⟨c, 1, none⟩ (.slice i ((AX l a).f1).length j))) := ⟨CM HB.1 m.1⟩
 (try clear d)
 (try clear b)
 (try clear HB)
 generalize ((w7.setCell ⟨c, 0, none⟩ (.int .i64 ((AX l a).f0))).setCell ⟨c, 1, none⟩ (.slice i ((AX l a).f1).length j)) = s at n0_ n1_ n2_ ⊢
 (try (rw [show s.drewN nd = s.drewN nd from rfl]; replace n0_ := Q_ (Kd.Fz n0_.1 nd); replace n1_ := Q_ (E2 n1_.1 nd); replace n2_ := Q_ (D5 n2_.1 nd); generalize s.drewN nd = s at n0_ n1_ n2_ ⊢))
 have d := n0_
 have b := n1_
 have HB := n2_
 clear n0_ n1_ n2_
 (try (rw [JK s]; generalize hq_ : World.drewN s _ = s; have n0_ : Aside0 (Kd.S k81 81 s w.heap.size (fun k_ => k_ ≠ c) u5 q) := ⟨by rw [← hq_]; exact (ps_ d.1)⟩; have n1_ : Aside0 (s.heap[c]? = some (.cells #[.int .i64 ((AX l a).f0), .slice i ((AX l a).f1).length j] 81 (0, 0))) := ⟨by rw [← hq_]; exact (pk_ b.1)⟩; have n2_ : Aside0 (Below w.heap.size w s) := ⟨by rw [← hq_]; exact (CM HB.1 m.1)⟩; clear d b HB hq_; have d := n0_; have b := n1_; have HB := n2_; clear n0_ n1_ n2_))
 have _ := Q_ (Kd.Gz d.1)
 have _ := Q_ (Bq b.1)
 have _ := Q_ (Cm HB.1)
 clear d b HB
 rename_i d b HB
 refine sw_ (S := fun w' => w'.cell? ⟨c, 0, none⟩ = some (.int .i64 ((AX l a).f0)) ∧ w'.cell? ⟨c, 1, none⟩ = some (.slice i ((AX l a).f1).length j)) 11 AM.tab6 AM.bits6 (sb_ b.1) (fun hHeld HT_ HW_ => ?_)
 generalize s.drew = aG at d b HB hHeld ⊢
 refine Ba 0 19 11 1 ?_
 refine Ba 1 20 11 3 ?_
 refine Ba 4 23 11 19 ?_
 refine E1 2 21 11 23 hHeld ?_
 refine E1 5 24 11 55 hHeld ?_
 refine on_ 3 (some 22) (tf_ 6 11) HT_ (fun K hK => ?_)
 refine JY .i64 3 22 ([] : List Int) ?_
 intro aj aH t hb
 rw [← F.1] at t
 have _ := Q_ (Kd.H2 (ps_ d.1) (Kd.BJ t) hb)
 have _ := Q_ (Kd.BV t (AZ (CM HB.1 m.1)))
 have _ := Q_ (bb_ b.1 hb)
 have _ := Q_ (AD (CM HB.1 m.1) hb)
 clear d b HB
 rename_i d B b HB
 clear hb t
 refine hK.out _ _ (sb_ b.1) (fun hHeld => ?_)
 clear hK K
 refine no_ (some 22) ?_
 refine on_ 6 (some 25) (tf_ 7 11) HT_ (fun K hK => ?_)
 refine Kd.D2 (Kd.int .i64) (w0 := w) w.heap.size (by rfl) (.tmp 22) (.tmp 24) 22 3 (.int .i64 0) 8 rfl Tryz.underlying22 HI rfl (by decide) (by omega) aj A ((AX l a).f1) _ _ _ (fun _ => True) (fun _ => False) rfl rfl ?aO ?aR (fun _ _ h => h) (fun _ h => h.elim) ?aF ?aB ?aS ?aL ?_
 (case aR => exact cb_ D HB)
 (case aB => exact (CM HB.1 m.1))
 (case aF => exact (fun _ _ => trivial))
 (case aO => exact (pr_ B.1))
 (case aS => exact (AZ (CM HB.1 m.1)))
 (case aL => have := aa.1; omega)
 intro az aI ho hb hg hat
 rw [← ac.1] at ho
 have _ := Q_ (Kd.JP (ok := (fun k_ => k_ ≠ c)) (ps_ d.1) hg hat)
 have _ := Q_ (Eb (g := c) (o := .cells #[.int .i64 ((AX l a).f0), .slice i ((AX l a).f1).length j] 81 (0, 0)) (pk_ b.1) hg (Kd.JB B.1 b.1 (by decide)))
 have _ := Q_ (hb)
 have _ := Q_ (ho)
 clear d b HB B
 rename_i d b HB x
 clear ho hb hg hat
 obtain ⟨Q, R, T⟩ := Kd.Bo x.1
 (first | subst T | (injection T with f1_ f2_ f3_; have f4_ := f1_.symm; have f5_ := f3_.symm; clear f1_ f2_ f3_; subst f4_; subst f5_))
 refine hK.out _ _ (sb_ b.1) (fun hHeld => ?_)
 clear hK K
 refine no_ (some 25) ?_
 refine Ba 7 26 11 255 ?_
 refine on_ 8 (some 27) (tf_ 9 11) HT_ (fun K hK => ?_)
 refine Nz (w1 := ?_) (v := ?_) (by rfl) rfl ?_ ?_
 rotate_left 2
 ·go_simp
  constructor
  ·rfl
  ·rfl
 refine hK.out _ _ (sb_ (G3 b.1 _)) (fun hHeld => ?_)
 clear hK K
 refine no_ (some 27) ?_
 refine on_ 9 (some 28) (tf_ 10 11) HT_ (fun K hK => ?_)
 refine Kd.IR k81 (w0 := w) w.heap.size (by rfl) (.tmp 19) (.tmp 27) 51 81 (.agg #[(.int .i64 0), (.slice none 0 0)]) 32 rfl Tryz.underlying51 Jv rfl (by decide) (by omega) u5 q (⟨(AX l a).f0, u⟩ : S81) [.int .i64 ((AX l a).f0), .slice Q u.length R] (fun k_ => k_ ≠ c) (fun k_ => some k_ = (.slice Q u.length R : Value).ownBlock) rfl rfl ?aP (fun k_ hk_ => ((Kd.Ax (ok' := fun k_ => ((fun k_ => k_ ≠ c)) k_ ∧ some k_ ≠ (u5 : Value).ownBlock) (Kd.Bi (Kd.Eh (x.1) (Kd.IG d.1) (by decide)) b.1 (by decide)) (fun k_ hk => ⟨hk.2, hk.1.2⟩))).1 k_ hk_.symm) ?aF ?aO ?aB ?aS ?aL ?_
 (case aP => exact Jq _ _ _ (⟨(AX l a).f0, u⟩ : S81) (Kd.Ax (Kd.I' rfl (Kd.Ax (ok' := fun k_ => ((fun k_ => k_ ≠ c)) k_ ∧ some k_ ≠ (u5 : Value).ownBlock) (Kd.Bi (Kd.Eh (x.1) (Kd.IG d.1) (by decide)) b.1 (by decide)) (fun k_ hk => ⟨hk.2, hk.1.2⟩))) (fun _ h_ => h_)))
 (case aB => exact (CM HB.1 m.1))
 (case aF => exact (fun k_ hk => Kd.Gy (g := c) (o := .cells #[.int .i64 ((AX l a).f0), .slice i ((AX l a).f1).length j] 81 (0, 0)) (pk_ b.1) k_ hk))
 (case aO => exact (by (with_reducible repeat (first | apply Kd.Gq | apply Kd.Fz | apply Kd.Gz)); exact Kd.Ea d.1 (fun k_ hk => ⟨hk.1, fun e_ => hk.2 e_⟩)))
 (case aS => exact (AZ (CM HB.1 m.1)))
 (case aL => have := ab.1; omega)
 intro aA aJ ho hb hg hat
 rw [← ad.1] at ho
 have _ := Q_ (Eb (g := c) (o := .cells #[.int .i64 ((AX l a).f0), .slice i ((AX l a).f1).length j] 81 (0, 0)) (pk_ b.1) hg (Kd.Nv d.1 (fun _ hk => hk.1)))
 have _ := Q_ (hb)
 have _ := Q_ (ho)
 clear b HB d x
 rename_i b HB Z
 clear ho hb hg hat
 refine hK.out _ _ (sb_ b.1) (fun hHeld => ?_)
 clear hK K
 refine no_ (some 28) ?_
 refine Ba 10 5 11 2047 ?_
 refine G8 (E0 HT_.1 (by kernel_rfl)) ?_
 try go_wp2
 go_roundg k1
 case measure => have := L.1; omega
 case rel => exact ⟨(W), (wrap64 (a + 1)), el_, H', ⟨by have := L.1; omega⟩, ⟨ps_ (Kd.Ea Z.1 (fun _ hk => trivial))⟩, ⟨CM HB.1 m.1⟩⟩
def Dl.f (k : Nat) (b : List (S81)) : Option ((List (S81))) := (AM.f k b).bind fun a => (some a)
theorem Dl.mono : ∀ a k, LeO (Dl.f k a) (Dl.f (k + 1) a) := by
 intro a k
 unfold Dl.f
 exact G7 AM.mono
theorem Dl.calls (k : Nat) (l : Option Addr) (m : Nat) (c : List (S81)) (r : List (S81)) (w : World) (hr0 : Kd.C k81 w l c.length c) (d : c.length ≤ m) (h : Dl.f k c = some r) :
  Calls Tryz.prog 174 #[.slice l c.length m] w fun e w' => ∃ v0_ : Value, e = .returned (v0_) ∧ Kd.S k81 81 w' w.heap.size (fun _ => True) v0_ r ∧ Below w.heap.size w w' := by
 have j := Q_ hr0
 have i := Q_ d
 clear hr0 d
 have HB := Q_ (Below.refl w.heap.size w)
 unfold Dl.f at h
 have H := h
 clear h
 obtain ⟨a, o, H⟩ := bs_ H
 replace H : (some a) = some r := H
 obtain rfl := Option.some.inj H
 go_enter Tryz.func174, Tryz.ntmps174
 go_wp2_with (first | (go_at_call 122; (with_reducible refine (AM.calls k _ _ c a _ (pc_ j.1) i.1 o.1).mono ?_); rintro e p ⟨n, rfl, g, hb⟩; have _ := Q_ (Kd.Fh g (AZ (pb_ HB.1))); have _ := Q_ (AD (pb_ HB.1) hb); clear HB; rename_i b HB; (try clear hb g)))
 go_ret
 exact ⟨_, er_, ps_ b.1, pb_ HB.1⟩
def EH.f (k : Nat) (c : Int) (a : List Int) : Option (Bool) := (Ad.f k a c).bind fun b => (some b)
theorem EH.mono : ∀ a b k, LeO (EH.f k a b) (EH.f (k + 1) a b) := by
 intro a b k
 unfold EH.f
 exact G7 Ad.mono
theorem EH.calls (k : Nat) (m : Int) (B1 : Nat) (b : Option Addr) (c : Nat) (a : List Int) (r : Bool) (w : World) (hr1_0 : Kd.C (Kd.int .i64) w b a.length a) (g : a.length ≤ c) (hbv1 : w.heap[B1]? = some (.cells #[.slice b a.length c] 22 (0, 0))) (h : EH.f k m a = some r) :
  Calls Tryz.prog 190 #[.int .i64 m, .pointer (some ⟨B1, 0, none⟩)] w fun e w' => e = .returned (.bool r) ∧ C' w w' := by
 have j := Q_ hr1_0
 have i := Q_ g
 clear hr1_0 g
 have l := Q_ hbv1
 clear hbv1
 unfold EH.f at h
 have H := h
 clear h
 obtain ⟨d, p, H⟩ := bs_ H
 replace H : (some d) = some r := H
 obtain rfl := Option.some.inj H
 have n : w.cell? ⟨B1, 0, none⟩ = some (.slice b a.length c) := (BM l.1 0).trans rfl
 have o := DI l.1 0
 go_enter Tryz.func190, Tryz.ntmps190
 go_wp2_with (first | (refine gk_ 83 6 Tryz.func83 #[.slice b a.length c, .int .i64 m] ?_; (with_reducible refine (Ad.calls k _ _ a m d _ (pc_ j.1) i.1 p.1).mono ?_); rintro e w' ⟨rfl, ⟨nd, rfl⟩⟩; refine ⟨_, rfl, ?_⟩))
 go_ret
 exact ⟨by first | rfl | (simp; done) | (simp [*]; done), by repeat (first | exact C'.refl _ | apply C'.step)⟩
def AV.l0 : Nat → List (S81) → List (S81) → Int → Int → List Int → Option ((List (S81)))
 | 0, _, _, _, _, _ => none
 | k + 1, h, e, d, a, b => if a < d then (if 0 ≤ a then (if a < (e.length : Int) then ((EH.f k ((AX e a).f0) b).bind fun g => (if g = true then ((some (([] : List Int) : List Int)).bind fun c => (if c.length + ((AX e a).f1).length < 17592186044416 then (if h.length < 4398046511104 then (AV.l0 k (h ++ [(⟨(AX e a).f0, (c ++ ((AX e a).f1))⟩ : S81)]) e d (wrap64 (a + 1)) b) else (none)) else (none))) else (AV.l0 k h e d (wrap64 (a + 1)) b))) else (none)) else (none)) else (some h)
def AV.f (k : Nat) (b : List (S81)) (a : List Int) : Option ((List (S81))) := AV.l0 k (([] : List (S81))) b (b.length : Int) 0 a
theorem AV.mono_l : ∀ k, (∀ a b c d e, LeO (AV.l0 k a b c d e) (AV.l0 (k + 1) a b c d e))
 | 0 => fun _ _ _ _ _ r h => by simp [AV.l0] at h
 | k + 1 => by
  have ih0 := AV.mono_l k
  ·intro a b c d e
   unfold AV.l0
   exact H8 ih0 EH.mono
theorem AV.mono : ∀ a b k, LeO (AV.f k a b) (AV.f (k + 1) a b) := by
 intro a b k
 have ih0 := AV.mono_l k
 unfold AV.f
 exact H8 ih0 EH.mono
def AV.T6 : Bool × List (List Nat × List Nat) := (true, [([], []), ([], []), ([1], [1]), ([], []), ([], []), ([4], [4]), ([3, 5], [3, 5]), ([2, 6], [2, 6]), ([7], [7]), ([0, 8, 6], [0, 8]), ([9, 9, 0, 1, 2, 3, 4, 5, 6, 7, 8, 9], [0, 9])])
def AV.B6 : List Nat := [0, 0, 2, 0, 0, 16, 56, 126, 254, 511, 1023]
theorem AV.tab6 : rtab .any (opsOf Tryz.f122 6) = AV.T6 := by kernel_rfl
theorem AV.bits6 : Fa AV.T6.2 AV.B6 = true := by kernel_rfl
theorem AV.calls (k : Nat) (A0 : Option Addr) (c0 : Nat) (m : List (S81)) (B1 : Nat) (x : Option Addr) (y : Nat) (q : List Int) (r : List (S81)) (w : World) (hr0 : Kd.C k81 w A0 m.length m) (ar : m.length ≤ c0) (hr1_0 : Kd.C (Kd.int .i64) w x q.length q) (P : q.length ≤ y) (hbv1 : w.heap[B1]? = some (.cells #[.slice x q.length y] 22 (0, 0))) (h : AV.f k m q = some r) :
  Calls Tryz.prog 122 #[.slice A0 m.length c0, .func (.func 190) #[] #[.pointer (some ⟨B1, 0, none⟩)]] w fun e w' => ∃ v0_ : Value, e = .returned (v0_) ∧ Kd.S k81 81 w' w.heap.size (fun _ => True) v0_ r ∧ Below w.heap.size w w' := by
 have hu81 := Tryz.underlying81
 have az := Q_ hr0
 have aW := Q_ ar
 clear hr0 ar
 have ai := Q_ hr1_0
 have af := Q_ P
 clear hr1_0 P
 have l := Q_ hbv1
 clear hbv1
 have HB := Q_ (Below.refl w.heap.size w)
 unfold AV.f at h
 have H := h
 clear h
 obtain ⟨ac, hy494⟩ : ∃ y_ : List (S81), y_ = (([] : List (S81))) := ⟨_, rfl⟩
 replace H : (AV.l0 k ac m (m.length : Int) 0 q) = some r := hb_ hy494 H
 have M := Q_ hy494
 clear hy494
 have H' := Q_ H
 clear H
 go_enter Tryz.func122, Tryz.ntmps122
 go_wp2_with (first | ((with_reducible refine FP (N := 8) rfl ?_); refine Kd.Nn k81 _ 81 ?hg (N := 8) ?hd (xs := ([] : List (S81))) (inner := []) (ok := fun _ => True) (okp := fun _ => True) ?hr ?hp (fun _ hk => hk) trivial (Below.refl _ _) (Nat.le_refl _) (by simp) ?_; (case hd => rfl); (case hg => rfl); (case hr => first | (go_simp; done) | (go_simp; rfl)); (case hp => exact (Reps.none _ _)); intro aT w3 Q hb hg_ hnew_; clear hg_ hnew_; rw [← M.1] at Q; have _ := Q_ (Kd.Fh Q (AZ (pb_ HB.1))); have _ := Q_ (bb_ l.1 hb); have _ := Q_ (AD (pb_ HB.1) hb); clear l HB; rename_i ag l HB; clear hb Q))
 (try simp only [Act.put, s1_, s2_, s3_])
 go_loopg [5, 11] k (fun kq v5 aH w' => ∃ (t : List (S81)) (a : Int), aH = .int .i64 a ∧ Aside0 (AV.l0 kq t m (m.length : Int) a q = some r) ∧ Aside0 (kq ≤ k) ∧ Aside0 (Kd.S k81 81 w' w.heap.size (fun _ => True) v5 t) ∧ Aside0 (w'.heap[B1]? = some (.cells #[(.slice x q.length y)] 22 (0, 0))) ∧ Aside0 (Below w.heap.size w w'))
 case atStart => exact ⟨(ac), (0), el_, H', ⟨Nat.le_refl _⟩, ⟨ps_ ag.1⟩, ⟨pk_ l.1⟩, ⟨pb_ HB.1⟩⟩
 clear H'
 obtain ⟨t, a, rfl, HA, U, d, l, HB⟩ := hrel
 rcases gk with _ | k1
 ·exact absurd HA.1 (by simp [AV.l0])
 have H := HA.1
 clear HA
 simp only [AV.l0] at H
 by_cases c5 : a < (m.length : Int)
 rotate_left
 ·rw [if_neg c5] at H
  have ap := decide_eq_false c5
  clear c5
  obtain rfl := Option.some.inj H
  go_wp2
  go_ret
  exact ⟨_, er_, ps_ d.1, pb_ HB.1⟩
 rw [if_pos c5] at H
 have ap := decide_eq_true c5
 clear c5
 by_cases c6 : 0 ≤ a
 rotate_left
 ·rw [if_neg c6] at H
  exact nn_ H
 rw [if_pos c6] at H
 have aK := decide_eq_true c6
 clear c6
 by_cases c7 : a < (m.length : Int)
 rotate_left
 ·rw [if_neg c7] at H
  exact nn_ H
 rw [if_pos c7] at H
 have aM := decide_eq_true c7
 clear c7
 have HS_ := Q_ H
 clear H
 have R : 0 ≤ (a : Int) := dt_
 have T : a < (m.length : Int) := dt_
 obtain ⟨aA, i, j, aq, G, I, ao, L⟩ := Ip az.1 a R T
 cases aq
 replace G := bt_ HB G
 replace I := bt_ HB I
 replace R := eq_true R
 replace T := eq_true T
 go_upto_region 5 with (first | (refine bg_ 7 #[.int .i64 0, .slice none 0 0] 81 ?_; intro c hg w8 hbox hb; have _ := Q_ (Kd.FB (Kd.J5 (ps_ d.1) c (Nat.le_of_eq hg.symm)) hb); have _ := Q_ (bb_ l.1 hb); have _ := Q_ (AD (pb_ HB.1) hb); have b := Q_ (hbox); have ae := Q_ (gw_ (w := w) hg (pb_ HB.1)); have s := ae; have u := Q_ ((by rw [hg]; exact Nat.ne_of_lt (Hl (pk_ l.1)) : B1 ≠ c)); have F := Q_ u.1.symm; clear d l HB; rename_i d l HB; clear hb hbox hg; have aN := F.1; have aQ := u.1; have aC := Ew b.1))
 (try simp only [Act.put, s1_, s2_, s3_])
 have H := HS_.1
 clear HS_
 obtain ⟨ab, ay, H⟩ := bs_ H
 (try dsimp only at H)
 have HS_ := Q_ H
 clear H
 have aE := F.1
 have aG := u.1
 have aD := Ew b.1
 go_upto_if 18 with (first | (go_at_call 190; (with_reducible refine (EH.calls k1 ((AX m a).f0) _ x y q ab _ ?side1 ?side2 ?side3 ay.1).mono ?_); (case side1 => exact Kd.Ec ai.1 (CM HB.1 s.1)); (case side2 => exact af.1); (case side3 => (with_reducible repeat (first | refine E2 ?_ _ | refine Bq ?_ | refine G3 ?_ _)); refine JU ?_ u.1 _; (with_reducible repeat (first | refine E2 ?_ _ | refine Bq ?_ | refine G3 ?_ _)); refine JU ?_ u.1 _; exact pk_ l.1); rintro e w' ⟨rfl, ⟨nd, rfl⟩⟩))
 (try simp only [Act.put, s1_, s2_, s3_])
 have H := HS_.1
 clear HS_
 by_cases V : ab = true
 rotate_left
 ·replace V := bf_ V
  subst V
  rw [if_neg ff_] at H
  have H' := Q_ H
  clear H
  go_wp2
  go_roundg k1
  case measure => have := U.1; omega
  case rel => exact ⟨(t), (wrap64 (a + 1)), el_, H', ⟨by have := U.1; omega⟩, ⟨by (with_reducible repeat (first | apply Kd.Gq | apply Kd.Fz | apply Kd.Gz)); exact Kd.Ea (Kd.GQ (p := ⟨c, 1, none⟩) (Kd.GQ (p := ⟨c, 0, none⟩) (Kd.Ea d.1 (fun k_ hk => (⟨hk, hk.2⟩ : _ ∧ k_ ≠ c))) (fun _ hk => hk.2) (.int .i64 ((AX m a).f0))) (fun _ hk => hk.2) (.slice i ((AX m a).f1).length j)) (fun _ hk => trivial)⟩, ⟨pp_ l.1⟩, ⟨CM HB.1 s.1⟩⟩
 subst V
 rw [if_pos rfl] at H
 obtain ⟨J, hy500⟩ : ∃ y_ : List Int, y_ = (([] : List Int)) := ⟨_, rfl⟩
 replace H : (if J.length + ((AX m a).f1).length < 17592186044416 then (if t.length < 4398046511104 then (AV.l0 k1 (t ++ [(⟨(AX m a).f0, (J ++ ((AX m a).f1))⟩ : S81)]) m (m.length : Int) (wrap64 (a + 1)) q) else (none)) else (none)) = some r := hb_ hy500 H
 have O := Q_ hy500
 clear hy500
 by_cases W : J.length + ((AX m a).f1).length < 17592186044416
 rotate_left
 ·rw [if_neg W] at H
  exact nn_ H
 rw [if_pos W] at H
 have aj := Q_ W
 clear W
 obtain ⟨B, hy503⟩ : ∃ y_ : List Int, y_ = (J ++ ((AX m a).f1)) := ⟨_, rfl⟩
 replace H : (if t.length < 4398046511104 then (AV.l0 k1 (t ++ [(⟨(AX m a).f0, B⟩ : S81)]) m (m.length : Int) (wrap64 (a + 1)) q) else (none)) = some r := hb_ hy503 H
 have al := Q_ hy503
 clear hy503
 by_cases X : t.length < 4398046511104
 rotate_left
 ·rw [if_neg X] at H
  exact nn_ H
 rw [if_pos X] at H
 have ak := Q_ X
 clear X
 obtain ⟨ad, hy506⟩ : ∃ y_ : List (S81), y_ = (t ++ [(⟨(AX m a).f0, B⟩ : S81)]) := ⟨_, rfl⟩
 replace H : (AV.l0 k1 ad m (m.length : Int) (wrap64 (a + 1)) q) = some r := hb_ hy506 H
 have am := Q_ hy506
 clear hy506
 have H' := Q_ H
 clear H
 try go_wp2
 have n0_ : Aside0 (Kd.S k81 81 ((w8.setCell ⟨c, 0, none⟩ (.int .i64 ((AX m a).f0))).setCell ⟨c, 1, none⟩ (.slice i ((AX m a).f1).length j)) w.heap.size (fun k_ => k_ ≠ c) u5 t) := ⟨by (with_reducible repeat (first | apply Kd.Gq | apply Kd.Fz | apply Kd.Gz)); exact Kd.Ea (Kd.GQ (p := ⟨c, 1, none⟩) (Kd.GQ (p := ⟨c, 0, none⟩) (Kd.Ea d.1 (fun k_ hk => (⟨hk, hk.2⟩ : _ ∧ k_ ≠ c))) (fun _ hk => hk.2) (.int .i64 ((AX m a).f0))) (fun _ hk => hk.2) (.slice i ((AX m a).f1).length j)) (fun _ hk => hk.1.2)⟩
 have n1_ : Aside0 (((w8.setCell ⟨c, 0, none⟩ (.int .i64 ((AX m a).f0))).setCell ⟨c, 1, none⟩ (.slice i ((AX m a).f1).length j)).heap[B1]? = some (.cells #[.slice x q.length y] 22 (0, 0))) := ⟨pp_ l.1⟩
 have n2_ : Aside0 (((w8.setCell ⟨c, 0, none⟩ (.int .i64 ((AX m a).f0))).setCell ⟨c, 1, none⟩ (.slice i ((AX m a).f1).length j)).heap[c]? = some (.cells #[.int .i64 ((AX m a).f0), .slice i ((AX m a).f1).length j] 81 (0, 0))) := ⟨pp_ b.1⟩
 have n3_ : Aside0 (Below w.heap.size w ((w8.setCell ⟨c, 0, none⟩ (.int .i64 ((AX m a).f0))).setCell ⟨c, 1, none⟩ (.slice i ((AX m a).f1).length j))) := ⟨CM HB.1 s.1⟩
 (try clear d)
 (try clear l)
 (try clear b)
 (try clear HB)
 generalize ((w8.setCell ⟨c, 0, none⟩ (.int .i64 ((AX m a).f0))).setCell ⟨c, 1, none⟩ (.slice i ((AX m a).f1).length j)) = z at n0_ n1_ n2_ n3_ ⊢
 (try (rw [show z.drewN nd = z.drewN nd from rfl]; replace n0_ := Q_ (Kd.Fz n0_.1 nd); replace n1_ := Q_ (E2 n1_.1 nd); replace n2_ := Q_ (E2 n2_.1 nd); replace n3_ := Q_ (D5 n3_.1 nd); generalize z.drewN nd = z at n0_ n1_ n2_ n3_ ⊢))
 have d := n0_
 have l := n1_
 have b := n2_
 have HB := n3_
 clear n0_ n1_ n2_ n3_
 (try (rw [JK z]; generalize hq_ : World.drewN z _ = z; have n0_ : Aside0 (Kd.S k81 81 z w.heap.size (fun k_ => k_ ≠ c) u5 t) := ⟨by rw [← hq_]; exact (ps_ d.1)⟩; have n1_ : Aside0 (z.heap[B1]? = some (.cells #[.slice x q.length y] 22 (0, 0))) := ⟨by rw [← hq_]; exact (pk_ l.1)⟩; have n2_ : Aside0 (z.heap[c]? = some (.cells #[.int .i64 ((AX m a).f0), .slice i ((AX m a).f1).length j] 81 (0, 0))) := ⟨by rw [← hq_]; exact (pk_ b.1)⟩; have n3_ : Aside0 (Below w.heap.size w z) := ⟨by rw [← hq_]; exact (CM HB.1 s.1)⟩; clear d l b HB hq_; have d := n0_; have l := n1_; have b := n2_; have HB := n3_; clear n0_ n1_ n2_ n3_))
 have _ := Q_ (Kd.Gz d.1)
 have _ := Q_ (Bq l.1)
 have _ := Q_ (Bq b.1)
 have _ := Q_ (Cm HB.1)
 clear d l b HB
 rename_i d l b HB
 refine sw_ (S := fun w' => w'.cell? ⟨c, 0, none⟩ = some (.int .i64 ((AX m a).f0)) ∧ w'.cell? ⟨c, 1, none⟩ = some (.slice i ((AX m a).f1).length j)) 11 AV.tab6 AV.bits6 (sb_ b.1) (fun hHeld HT_ HW_ => ?_)
 generalize z.drew = aY at d l b HB hHeld ⊢
 refine Ba 0 19 11 1 ?_
 refine Ba 1 20 11 3 ?_
 refine Ba 4 23 11 19 ?_
 refine E1 2 21 11 23 hHeld ?_
 refine E1 5 24 11 55 hHeld ?_
 refine on_ 3 (some 22) (tf_ 6 11) HT_ (fun K hK => ?_)
 refine JY .i64 3 22 ([] : List Int) ?_
 intro au aZ A hb
 rw [← O.1] at A
 have _ := Q_ (Kd.H2 (ps_ d.1) (Kd.BJ A) hb)
 have _ := Q_ (Kd.BV A (AZ (CM HB.1 s.1)))
 have _ := Q_ (bb_ l.1 hb)
 have _ := Q_ (bb_ b.1 hb)
 have _ := Q_ (AD (CM HB.1 s.1) hb)
 clear d l b HB
 rename_i d D l b HB
 clear hb A
 refine hK.out _ _ (sb_ b.1) (fun hHeld => ?_)
 clear hK K
 refine no_ (some 22) ?_
 refine on_ 6 (some 25) (tf_ 7 11) HT_ (fun K hK => ?_)
 refine Kd.D2 (Kd.int .i64) (w0 := w) w.heap.size (by rfl) (.tmp 22) (.tmp 24) 22 3 (.int .i64 0) 8 rfl Tryz.underlying22 HI rfl (by decide) (by omega) au J ((AX m a).f1) _ _ _ (fun _ => True) (fun _ => False) rfl rfl ?aO ?aR (fun _ _ h => h) (fun _ h => h.elim) ?aF ?aB ?aS ?aL ?_
 (case aR => exact cb_ L HB)
 (case aB => exact (CM HB.1 s.1))
 (case aF => exact (fun _ _ => trivial))
 (case aO => exact (pr_ D.1))
 (case aS => exact (AZ (CM HB.1 s.1)))
 (case aL => have := aj.1; omega)
 intro aU a0 ho hb hg hat
 rw [← al.1] at ho
 have _ := Q_ (Kd.JP (ok := (fun k_ => k_ ≠ c)) (ps_ d.1) hg hat)
 have _ := Q_ (Eb (g := B1) (o := .cells #[.slice x q.length y] 22 (0, 0)) (pk_ l.1) hg (Kd.JB D.1 l.1 (by decide)))
 have _ := Q_ (Eb (g := c) (o := .cells #[.int .i64 ((AX m a).f0), .slice i ((AX m a).f1).length j] 81 (0, 0)) (pk_ b.1) hg (Kd.JB D.1 b.1 (by decide)))
 have _ := Q_ (hb)
 have _ := Q_ (ho)
 clear d l b HB D
 rename_i d l b HB E
 clear ho hb hg hat
 obtain ⟨Y, Z, aa⟩ := Kd.Bo E.1
 (first | subst aa | (injection aa with f1_ f2_ f3_; have f4_ := f1_.symm; have f5_ := f3_.symm; clear f1_ f2_ f3_; subst f4_; subst f5_))
 refine hK.out _ _ (sb_ b.1) (fun hHeld => ?_)
 clear hK K
 refine no_ (some 25) ?_
 refine Ba 7 26 11 255 ?_
 refine on_ 8 (some 27) (tf_ 9 11) HT_ (fun K hK => ?_)
 refine Nz (w1 := ?_) (v := ?_) (by rfl) rfl ?_ ?_
 rotate_left 2
 ·go_simp
  constructor
  ·rfl
  ·rfl
 refine hK.out _ _ (sb_ (G3 b.1 _)) (fun hHeld => ?_)
 clear hK K
 refine no_ (some 27) ?_
 refine on_ 9 (some 28) (tf_ 10 11) HT_ (fun K hK => ?_)
 refine Kd.IR k81 (w0 := w) w.heap.size (by rfl) (.tmp 19) (.tmp 27) 51 81 (.agg #[(.int .i64 0), (.slice none 0 0)]) 32 rfl Tryz.underlying51 Jv rfl (by decide) (by omega) u5 t (⟨(AX m a).f0, B⟩ : S81) [.int .i64 ((AX m a).f0), .slice Y B.length Z] (fun k_ => k_ ≠ c) (fun k_ => some k_ = (.slice Y B.length Z : Value).ownBlock) rfl rfl ?aP (fun k_ hk_ => ((Kd.Ax (ok' := fun k_ => ((fun k_ => k_ ≠ c)) k_ ∧ some k_ ≠ (u5 : Value).ownBlock) (Kd.Bi (Kd.Eh (E.1) (Kd.IG d.1) (by decide)) b.1 (by decide)) (fun k_ hk => ⟨hk.2, hk.1.2⟩))).1 k_ hk_.symm) ?aF ?aO ?aB ?aS ?aL ?_
 (case aP => exact Jq _ _ _ (⟨(AX m a).f0, B⟩ : S81) (Kd.Ax (Kd.I' rfl (Kd.Ax (ok' := fun k_ => ((fun k_ => k_ ≠ c)) k_ ∧ some k_ ≠ (u5 : Value).ownBlock) (Kd.Bi (Kd.Eh (E.1) (Kd.IG d.1) (by decide)) b.1 (by decide)) (fun k_ hk => ⟨hk.2, hk.1.2⟩))) (fun _ h_ => h_)))
 (case aB => exact (CM HB.1 s.1))
 (case aF => exact (fun k_ hk => Kd.Gy (g := c) (o := .cells #[.int .i64 ((AX m a).f0), .slice i ((AX m a).f1).length j] 81 (0, 0)) (pk_ b.1) k_ hk))
 (case aO => exact (by (with_reducible repeat (first | apply Kd.Gq | apply Kd.Fz | apply Kd.Gz)); exact Kd.Ea d.1 (fun k_ hk => ⟨hk.1, fun e_ => hk.2 e_⟩)))
 (case aS => exact (AZ (CM HB.1 s.1)))
 (case aL => have := ak.1; omega)
 intro aV a1 ho hb hg hat
 rw [← am.1] at ho
 have _ := Q_ (Eb (g := B1) (o := .cells #[.slice x q.length y] 22 (0, 0)) (pk_ l.1) hg (Kd.UH d.1 l.1 (by decide)))
 have _ := Q_ (Eb (g := c) (o := .cells #[.int .i64 ((AX m a).f0), .slice i ((AX m a).f1).length j] 81 (0, 0)) (pk_ b.1) hg (Kd.Nv d.1 (fun _ hk => hk.1)))
 have _ := Q_ (hb)
 have _ := Q_ (ho)
 clear l b HB d E
 rename_i l b HB ah
 clear ho hb hg hat
 refine hK.out _ _ (sb_ b.1) (fun hHeld => ?_)
 clear hK K
 refine no_ (some 28) ?_
 refine Ba 10 5 11 2047 ?_
 refine G8 (E0 HT_.1 (by kernel_rfl)) ?_
 try go_wp2
 go_roundg k1
 case measure => have := U.1; omega
 case rel => exact ⟨(ad), (wrap64 (a + 1)), el_, H', ⟨by have := U.1; omega⟩, ⟨ps_ (Kd.Ea ah.1 (fun _ hk => trivial))⟩, ⟨pk_ l.1⟩, ⟨CM HB.1 s.1⟩⟩
def EZ.f (k : Nat) (b : List (S81)) (c : List Int) : Option ((List (S81))) := (AV.f k b c).bind fun a => (some a)
theorem EZ.mono : ∀ a b k, LeO (EZ.f k a b) (EZ.f (k + 1) a b) := by
 intro a b k
 unfold EZ.f
 exact G7 AV.mono
theorem EZ.calls (k : Nat) (x : Option Addr) (y : Nat) (j : List (S81)) (o : Option Addr) (p : Nat) (d : List Int) (r : List (S81)) (w : World) (hr0 : Kd.C k81 w x j.length j) (l : j.length ≤ y) (hr1 : Kd.C (Kd.int .i64) w o d.length d) (m : d.length ≤ p) (h : EZ.f k j d = some r) :
  Calls Tryz.prog 175 #[.slice x j.length y, .slice o d.length p] w fun e w' => ∃ v0_ : Value, e = .returned (v0_) ∧ Kd.S k81 81 w' w.heap.size (fun _ => True) v0_ r ∧ Below w.heap.size w w' := by
 have t := Q_ hr0
 have q := Q_ l
 clear hr0 l
 have u := Q_ hr1
 have s := Q_ m
 clear hr1 m
 have HB := Q_ (Below.refl w.heap.size w)
 unfold EZ.f at h
 have H := h
 clear h
 obtain ⟨c, A, H⟩ := bs_ H
 replace H : (some c) = some r := H
 obtain rfl := Option.some.inj H
 go_enter Tryz.func175, Tryz.ntmps175
 go_wp2_with (first | (refine bg_ 3 #[.slice o d.length p] 22 ?_; intro v hg B hbox hb; have _ := Q_ (AD (pb_ HB.1) hb); have a := Q_ (hbox); have g := Q_ (gw_ (w := w) hg (pb_ HB.1)); have b := g; clear HB; rename_i HB; clear hb hbox hg) | (go_at_call 122; (with_reducible refine (AV.calls k _ _ j _ o p d c _ (cb_ t HB) q.1 (cb_ u HB) s.1 ?side5 A.1).mono ?_); (case side5 => exact pk_ a.1); rintro e D ⟨z, rfl, n, hb⟩; have _ := Q_ (Kd.Fh n (AZ (CM HB.1 b.1))); have _ := Q_ (bb_ a.1 hb); have _ := Q_ (AD (CM HB.1 b.1) hb); clear a HB; rename_i i a HB; (try clear hb n)))
 go_ret
 exact ⟨_, er_, ps_ i.1, CM HB.1 b.1⟩
def BN.j0 : Nat → List Int → Int → Bool → List Int → List (S81) → Option (Int × (List (S81)) × Bool)
 | 0, _, _, _, _, _ => none
 | k + 1, g, h, e, d, a => if e = true then (some (0, ([] : List (S81)), false)) else ((EZ.f k a g).bind fun b => ((Dl.f k b).bind fun c => (some (h, c, true))))
def BN.f (k : Nat) (g : List Int) (e : List Int) (a : List Int) (b : List (S81)) : Option (Int × (List (S81)) × Bool) := (Ak.f k g a).bind fun c => ((BQ.f k a b).bind fun d => (if d = true then (BN.j0 k e c (c == 0) a b) else (BN.j0 k e c true a b)))
theorem BN.mono_l : ∀ k, (∀ a b c d e, LeO (BN.j0 k a b c d e) (BN.j0 (k + 1) a b c d e))
 | 0 => fun _ _ _ _ _ r h => by simp [BN.j0] at h
 | k + 1 => by
  have ih0 := BN.mono_l k
  ·intro a b c d e
   unfold BN.j0
   exact OJ ih0 Ak.mono BQ.mono EZ.mono Dl.mono
theorem BN.mono : ∀ a b c d k, LeO (BN.f k a b c d) (BN.f (k + 1) a b c d) := by
 intro a b c d k
 have ih0 := BN.mono_l k
 unfold BN.f
 exact OJ ih0 Ak.mono BQ.mono EZ.mono Dl.mono
theorem BN.calls (k : Nat) (A0 : Option Addr) (c0 : Nat) (L : List Int) (A1 : Option Addr) (c1 : Nat) (I : List Int) (o : Option Addr) (q : Nat) (c : List Int) (p : Option Addr) (r : Nat) (i : List (S81)) (r1 : Int) (r2 : List (S81)) (r3 : Bool) (w : World) (hr0 : Kd.C (Kd.int .i64) w A0 L.length L) (Z : L.length ≤ c0) (hr1 : Kd.C (Kd.int .i64) w A1 I.length I) (aa : I.length ≤ c1) (hr2_0 : Kd.C (Kd.int .i64) w o c.length c) (B : c.length ≤ q) (hr2_1 : Kd.C k81 w p i.length i) (D : i.length ≤ r) (h : BN.f k L I c i = some (r1, r2, r3)) :
  Calls Tryz.prog 151 #[.slice A0 L.length c0, .slice A1 I.length c1, .agg #[.slice o c.length q, .slice p i.length r]] w fun e w' => ∃ v1_ : Value, e = .returned (.tuple #[.agg #[.int .i64 r1, v1_], .bool r3]) ∧ Kd.S k81 81 w' w.heap.size (fun _ => True) v1_ r2 ∧ Below w.heap.size w w' := by
 have hu53 := Tryz.underlying53
 have hu113 := Tryz.underlying113
 have ak := Q_ hr0
 have ai := Q_ Z
 clear hr0 Z
 have al := Q_ hr1
 have aj := Q_ aa
 clear hr1 aa
 have v := Q_ hr2_0
 have t := Q_ B
 clear hr2_0 B
 have x := Q_ hr2_1
 have u := Q_ D
 clear hr2_1 D
 have HB := Q_ (Below.refl w.heap.size w)
 unfold BN.f at h
 have H := h
 clear h
 obtain ⟨n, A4, H⟩ := bs_ H
 (try dsimp only at H)
 have P := Q_ H
 clear H
 go_enter Tryz.func151, Tryz.ntmps151
 go_upto_region 2 with (first | (refine bg_ 5 #[.slice o c.length q, .slice p i.length r] 53 ?_; intro Q hg w6 hbox hb; have _ := Q_ (AD (pb_ HB.1) hb); have a := Q_ (hbox); have M := Q_ (gw_ (w := w) hg (pb_ HB.1)); have d := M; clear HB; rename_i HB; clear hb hbox hg) | (refine bg_ 6 #[.int .i64 0, .slice none 0 0] 113 ?_; intro y hg w7 hbox hb; have _ := Q_ (bb_ a.1 hb); have _ := Q_ (AD (CM HB.1 d.1) hb); have b := Q_ (hbox); have O := Q_ (gw_ (w := w) hg (CM HB.1 d.1)); have j := O; have g := Q_ (nb_ hg a); have l := Q_ g.1.symm; clear a HB; rename_i a HB; clear hb hbox hg; have aF := g.1; have aG := l.1; have aE := Ew a.1) | (refine gk_ 27 12 Tryz.func27 #[.slice A0 L.length c0, .slice o c.length q] ?_; (with_reducible refine (Ak.calls k _ _ L _ _ c n _ (cb_ ak HB) ai.1 (cb_ v HB) t.1 A4.1).mono ?_); rintro e aL ⟨rfl, hb⟩; refine ⟨_, rfl, ?_⟩; have _ := Q_ (bb_ a.1 hb); have _ := Q_ (bb_ b.1 hb); have _ := Q_ (AD (Dw HB.1 d.1 j.1) hb); clear a b HB; rename_i a b HB; (try clear hb)))
 (try simp only [Act.put, s1_, s2_, s3_])
 go_cut [19] (fun aD wc => ∃ (kq : Nat) (s : Bool), aD = .bool s ∧ Aside0 (BN.j0 kq I n s c i = some (r1, r2, r3)) ∧ Aside0 (kq ≤ k) ∧ Aside0 (wc.heap[Q]? = some (.cells #[(.slice o c.length q), (.slice p i.length r)] 53 (0, 0))) ∧ Aside0 (wc.heap[y]? = some (.cells #[.int .i64 0, (.slice none 0 0)] 113 (0, 0))) ∧ Aside0 (Below w.heap.size w wc))
 case first =>
  have H := P.1
  clear P
  obtain ⟨E, R, H⟩ := bs_ H
  (try dsimp only at H)
  by_cases J : E = true
  rotate_left
  ·replace J := bf_ J
   subst J
   rw [if_neg ff_] at H
   have H' := Q_ H
   clear H
   have av := g.1
   have az := l.1
   have ao := Ew a.1
   go_wp2_with (first | (refine gk_ 23 14 Tryz.func23 #[.agg #[.slice o c.length q, .slice p i.length r]] ?_; (with_reducible refine (BQ.calls k _ _ c _ _ i false _ (cb_ v HB) t.1 (cb_ x HB) u.1 R.1).mono ?_); rintro e aM ⟨rfl, hb⟩; refine ⟨_, rfl, ?_⟩; have _ := Q_ (bb_ a.1 hb); have _ := Q_ (bb_ b.1 hb); have _ := Q_ (AD (Dw HB.1 d.1 j.1) hb); clear a b HB; rename_i a b HB; (try clear hb)))
   go_meet
   case rel => exact ⟨_, (true), el_, H', ⟨by first | omega | exact Nat.le_refl _⟩, ⟨pk_ a.1⟩, ⟨pk_ b.1⟩, ⟨Dw HB.1 d.1 j.1⟩⟩
  subst J
  rw [if_pos rfl] at H
  have H' := Q_ H
  clear H
  have aw := g.1
  have aA := l.1
  have ap := Ew a.1
  go_wp2_with (first | (refine gk_ 23 14 Tryz.func23 #[.agg #[.slice o c.length q, .slice p i.length r]] ?_; (with_reducible refine (BQ.calls k _ _ c _ _ i true _ (cb_ v HB) t.1 (cb_ x HB) u.1 R.1).mono ?_); rintro e aN ⟨rfl, hb⟩; refine ⟨_, rfl, ?_⟩; have _ := Q_ (bb_ a.1 hb); have _ := Q_ (bb_ b.1 hb); have _ := Q_ (AD (Dw HB.1 d.1 j.1) hb); clear a b HB; rename_i a b HB; (try clear hb)))
  go_meet
  case rel => exact ⟨_, ((n == 0)), el_, H', ⟨by first | omega | exact Nat.le_refl _⟩, ⟨pk_ a.1⟩, ⟨pk_ b.1⟩, ⟨Dw HB.1 d.1 j.1⟩⟩
 clear P
 obtain ⟨kq, s, rfl, HA, aK, a, b, HB⟩ := hcut
 rcases kq with _ | kj4
 ·exact absurd HA.1 (by simp [BN.j0])
 have H := HA.1
 clear HA
 simp only [BN.j0] at H
 by_cases K : s = true
 ·subst K
  rw [if_pos rfl] at H
  simp only [Option.some.injEq, Prod.mk.injEq] at H
  obtain ⟨rfl, rfl, rfl⟩ := H
  have ax := l.1
  have aB := g.1
  have aq := Ew b.1
  go_wp2
  refine bodyPost_ret (HY rfl _ _ y 113 #[.int .i64 0, .slice none 0 0] (0, 0) _ rfl (pp_ b.1) Tryz.underlying113 rfl (by kernel_rfl)) rfl ?_
  exact ⟨_, er_, by first | exact Kd.J' _ _ _ _ _ | exact Kd.J4 _ _ _ _ _ | exact Kd.KO _ _ _ _ _ | exact Kd.KX _ _ _ _ _ | exact Kd.I7 _ _ _ _ _, Dw HB.1 d.1 j.1⟩
 replace K := bf_ K
 subst K
 rw [if_neg ff_] at H
 obtain ⟨F, ag, H⟩ := bs_ H
 (try dsimp only at H)
 obtain ⟨G, ah, H⟩ := bs_ H
 replace H : (some (n, G, true)) = some (r1, r2, r3) := H
 simp only [Option.some.injEq, Prod.mk.injEq] at H
 obtain ⟨rfl, rfl, rfl⟩ := H
 have ay := g.1
 have aC := l.1
 have ar := Ew a.1
 go_wp2_with (first | (refine gk_ 175 25 Tryz.func175 #[.slice p i.length r, .slice A1 I.length c1] ?_; (with_reducible refine (EZ.calls kj4 _ _ i _ _ I F _ (cb_ x HB) u.1 (cb_ al HB) aj.1 ag.1).mono ?_); rintro e aO ⟨aH, rfl, z, hb⟩; refine ⟨_, rfl, ?_⟩; have _ := Q_ (Kd.Fh z (AZ (Dw HB.1 d.1 j.1))); have _ := Q_ (bb_ a.1 hb); have _ := Q_ (bb_ b.1 hb); have _ := Q_ (AD (Dw HB.1 d.1 j.1) hb); clear a b HB; rename_i m a b HB; (try clear hb z); obtain ⟨T, V, X⟩ := Kd.Gv m.1; subst X) | (refine gk_ 174 26 Tryz.func174 #[.slice T F.length V] ?_; (with_reducible refine (Dl.calls kj4 _ _ F G _ ?side1 ?side2 ah.1).mono ?_); (case side1 => exact pc_ ((Kd.GX m.1).2.2)); (case side2 => exact (Kd.GX m.1).2.1); rintro e aP ⟨aI, rfl, z, hb⟩; refine ⟨_, rfl, ?_⟩; have _ := Q_ (Kd.H2 (ps_ m.1) (Kd.L6 z) hb); have _ := Q_ (Kd.Fh (Kd.Hz z (Kd.Uf (ps_ m.1))) (AZ (Dw HB.1 d.1 j.1))); have _ := Q_ (bb_ a.1 hb); have _ := Q_ (bb_ b.1 hb); have _ := Q_ (AD (Dw HB.1 d.1 j.1) hb); clear m a b HB; rename_i m A a b HB; (try clear hb z); obtain ⟨U, W, Y⟩ := Kd.Gv A.1; subst Y; have au := Ew b.1))
 refine bodyPost_ret (HY rfl _ _ y 113 #[.int .i64 n, .slice U G.length W] (0, 0) _ rfl (pp_ b.1) Tryz.underlying113 rfl (by kernel_rfl)) rfl ?_
 exact ⟨_, er_, ps_ (Kd.Ea (L' A.1 b.1) (fun _ hk => trivial)), Dw HB.1 d.1 j.1⟩
def Ey.f (b : Int) : Option (Bool) := (Cb.f b 1 2147483646).bind fun a => (some a)
theorem Ey.calls (b : Int) (r : Bool) (w : World) (h : Ey.f b = some r) :
  Calls Tryz.prog 25 #[.int .i64 b] w fun e w' => e = .returned (.bool r) ∧ C' w w' := by
 unfold Ey.f at h
 have H := h
 clear h
 obtain ⟨a, c, H⟩ := bs_ H
 replace H : (some a) = some r := H
 obtain rfl := Option.some.inj H
 go_enter Tryz.func25, Tryz.ntmps25
 go_wp2_with (first | (refine gk_ 53 4 Tryz.func53 #[.int .i64 b, .int .i64 1, .int .i64 2147483646] ?_; (with_reducible refine (Cb.calls b 1 2147483646 a _ c.1).mono ?_); rintro e w' ⟨rfl, ⟨nd, rfl⟩⟩; refine ⟨_, rfl, ?_⟩))
 go_ret
 exact ⟨by first | rfl | (simp; done) | (simp [*]; done), by repeat (first | exact C'.refl _ | apply C'.step)⟩
def DL.f (k : Nat) (b : List Int) : Option (Bool) := (Bn.f k b 0 255).bind fun a => (some (!a))
theorem DL.mono : ∀ a k, LeO (DL.f k a) (DL.f (k + 1) a) := by
 intro a k
 unfold DL.f
 exact G7 Bn.mono
theorem DL.calls (k : Nat) (d : Option Addr) (j : Nat) (b : List Int) (r : Bool) (w : World) (hr0 : Kd.C (Kd.int .i64) w d b.length b) (c : b.length ≤ j) (h : DL.f k b = some r) :
  Calls Tryz.prog 192 #[.slice d b.length j] w fun e w' => e = .returned (.bool r) ∧ Below w.heap.size w w' := by
 have i := Q_ hr0
 have g := Q_ c
 clear hr0 c
 have HB := Q_ (Below.refl w.heap.size w)
 unfold DL.f at h
 have H := h
 clear h
 obtain ⟨a, l, H⟩ := bs_ H
 replace H : (some (!a)) = some r := H
 obtain rfl := Option.some.inj H
 go_enter Tryz.func192, Tryz.ntmps192
 go_wp2_with (first | (refine gk_ 79 4 Tryz.func79 #[.slice d b.length j, .int .i64 0, .int .i64 255] ?_; (with_reducible refine (Bn.calls k _ _ b 0 255 a _ (pc_ i.1) g.1 l.1).mono ?_); rintro e m ⟨rfl, hb⟩; refine ⟨_, rfl, ?_⟩; have _ := Q_ (AD (pb_ HB.1) hb); clear HB; rename_i HB; (try clear hb)))
 go_ret
 exact ⟨er_, pb_ HB.1⟩
end Go.Proofs.YtibmehnippjakaaGreat.Print
