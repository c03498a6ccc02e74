-- Written by a program of this session (printx.py) out of the translation; Lean checks it.
import Derived.Test.YtibmehnippjakaaGreatPrint0
import Derived.Test.YtibmehnippjakaaGreatPrint6
import Derived.Test.YtibmehnippjakaaGreatPrint10
import Derived.Test.YtibmehnippjakaaGreatPrint12
import Derived.Test.YtibmehnippjakaaGreatPrint1
import Derived.Test.YtibmehnippjakaaGreatPrint4
import Derived.Test.YtibmehnippjakaaGreatPrint8
namespace Go.Proofs.YtibmehnippjakaaGreat.Print
open Go.RowKit Go.Proofs.YtibmehnippjakaaGreatW.PrintWords Go.Proofs.YtibmehnippjakaaGreatW.PrintLast Go.Proofs.YtibmehnippjakaaGreatW.PrintMore Go.Proofs.YtibmehnippjakaaGreat.Short
attribute [local go_sem] F8 Fq G5 G6 FA FH F5 Fp
set_option linter.unusedVariables false
set_option maxHeartbeats 8000000
set_option maxRecDepth 100000
set_option linter.unusedSimpArgs false
def Bw.l0 : Nat → Int → List (K9) → Int → Int → List Int → List (S81) → List Int → List (S81) → Int → List (S81) → Int → List (S81) → Option (Bool × Int × List Int)
 | 0, _, _, _, _, _, _, _, _, _, _, _, _ => none
 | k + 1, v, t, u, j, c, d, e, g, h, i, a, b => if j < u then (if 0 ≤ j then (if j < (t.length : Int) then (none) else (none)) else (none)) else ((DY.f k e g).bind fun l => ((DT.f k h i).bind fun m => ((BR.f k v (([l, m] : List (List Int))) 1).bind fun n => ((B'.f k c d a b).bind fun o => (if o = true then ((DY.f k c d).bind fun p => ((DT.f k a b).bind fun q => ((Dz.f k v (([p, q] : List (List Int))) 1 n).bind fun r => (if r = true then ((BO.f k b).bind fun s => (some (true, a, s))) else (some (false, 0, ([] : List Int))))))) else (some (false, 0, ([] : List Int))))))))
def Bw.f (k : Nat) (d : List Int) (e : List (S81)) (b : List Int) (c : List (S81)) (i : List Int) (j : List Int) (h : Int) (g : List (K9)) : Option (Bool × Int × List Int) := (BN.f k i j b c).bind fun a => (if a.2.2 = true then (Bw.l0 k h g (g.length : Int) 0 d e b c a.1 a.2.1 a.1 a.2.1) else (some (false, 0, ([] : List Int))))
theorem Bw.mono_l : ∀ k, (∀ c d e f g i j l m n a b, LeO (Bw.l0 k c d e f g i j l m n a b) (Bw.l0 (k + 1) c d e f g i j l m n a b))
 | 0 => fun _ _ _ _ _ _ _ _ _ _ _ _ r h => by simp [Bw.l0] at h
 | k + 1 => by
  have ih0 := Bw.mono_l k
  ·intro c d e f g i j l m n a b
   unfold Bw.l0
   exact Y3 ih0 DT.mono Dz.mono BN.mono BR.mono B'.mono DY.mono BO.mono
theorem Bw.mono : ∀ a b c d e g h i k, LeO (Bw.f k a b c d e g h i) (Bw.f (k + 1) a b c d e g h i) := by
 intro a b c d e g h i k
 have ih0 := Bw.mono_l k
 unfold Bw.f
 exact Y3 ih0 DT.mono Dz.mono BN.mono BR.mono B'.mono DY.mono BO.mono
def Bw.T10 : Bool × List (List Nat × List Nat) := (true, [([], []), ([], []), ([1], [1]), ([], []), ([3, 2], [3]), ([2, 4], [2, 4]), ([0, 5, 4], [0, 5]), ([6, 6, 0, 1, 2, 3, 4, 5, 6], [6])])
def Bw.B10 : List Nat := [0, 0, 2, 0, 14, 30, 63, 127]
theorem Bw.tab10 : rtab .any (opsOf Tryz.f113 10) = Bw.T10 := by kernel_rfl
theorem Bw.bits10 : Fa Bw.T10.2 Bw.B10 = true := by kernel_rfl
def Bw.T11 : Bool × List (List Nat × List Nat) := (true, [([], []), ([], []), ([0, 1], [0, 1]), ([2], [2]), ([3, 2], [3]), ([4], [4]), ([4], [4]), ([6, 4, 4], [4, 6]), ([4], [4]), ([8, 7, 4], [4, 8]), ([7, 9, 4], [4, 7, 9]), ([4], [4]), ([5, 10, 11, 9, 4], [4, 5, 10, 11]), ([12, 4], [4, 12]), ([4, 13], [4, 13])])
def Bw.B11 : List Nat := [0, 0, 3, 7, 15, 31, 31, 95, 31, 479, 991, 31, 4095, 8191, 16383]
theorem Bw.tab11 : rtab .any (opsOf Tryz.f113 11) = Bw.T11 := by kernel_rfl
theorem Bw.bits11 : Fa Bw.T11.2 Bw.B11 = true := by kernel_rfl
theorem Bw.calls (k : Nat) (ab : Option Addr) (ad : Nat) (M : List Int) (ac : Option Addr) (ae : Nat) (O : List (S81)) (ag : Option Addr) (ai : Nat) (X : List Int) (ah : Option Addr) (aj : Nat) (Y : List (S81)) (A2 : Option Addr) (c2 : Nat) (l2 : List Int) (A3 : Option Addr) (c3 : Nat) (l3 : List Int) (a4 : Int) (A5 : Option Addr) (c5 : Nat) (l5 : List (K9)) (r1 : Bool) (r2 : Int) (r3 : List Int) (w : World) (hr0_0 : Kd.C (Kd.int .i64) w ab M.length M) (a5 : M.length ≤ ad) (hr0_1 : Kd.C k81 w ac O.length O) (a6 : O.length ≤ ae) (hr1_0 : Kd.C (Kd.int .i64) w ag X.length X) (a7 : X.length ≤ ai) (hr1_1 : Kd.C k81 w ah Y.length Y) (a8 : Y.length ≤ aj) (hr2 : Kd.C (Kd.int .i64) w A2 l2.length l2) (bP : l2.length ≤ c2) (hr3 : Kd.C (Kd.int .i64) w A3 l3.length l3) (bQ : l3.length ≤ c3) (hr5 : Kd.C Zg w A5 l5.length l5) (bR : l5.length ≤ c5) (h : Bw.f k M O X Y l2 l3 a4 l5 = some (r1, r2, r3)) :
  Calls Tryz.prog 113 #[.agg #[.slice ab M.length ad, .slice ac O.length ae], .agg #[.slice ag X.length ai, .slice ah Y.length aj], .slice A2 l2.length c2, .slice A3 l3.length c3, .int .i64 a4, .slice A5 l5.length c5] w fun e w' => ∃ v2_ : Value, e = .returned (.agg #[.bool r1, .int .i64 r2, v2_]) ∧ Kd.R (Kd.int .i64) 3 w' w.heap.size (fun _ => True) v2_ r3 ∧ Below w.heap.size w w' := by
 have hu53 := Tryz.underlying53
 have hu28 := Tryz.underlying28
 have hu113 := Tryz.underlying113
 have hu148 := Tryz.underlying148
 have aP := Q_ hr0_0
 have aN := Q_ a5
 clear hr0_0 a5
 have aQ := Q_ hr0_1
 have aO := Q_ a6
 clear hr0_1 a6
 have aZ := Q_ hr1_0
 have aW := Q_ a7
 clear hr1_0 a7
 have a0 := Q_ hr1_1
 have aX := Q_ a8
 clear hr1_1 a8
 have ct := Q_ hr2
 have cr := Q_ bP
 clear hr2 bP
 have cu := Q_ hr3
 have cs := Q_ bQ
 clear hr3 bQ
 have dR := Q_ hr5
 have dP := Q_ bR
 clear hr5 bR
 have HB := Q_ (Below.refl w.heap.size w)
 unfold Bw.f at h
 have H := h
 clear h
 have HS_ := Q_ H
 clear H
 go_enter Tryz.func113, Tryz.ntmps113
 go_upto_region 1 with (first | ((with_reducible refine FP (N := 6) rfl ?_); (try (refine GK (by rfl) ?_; dsimp only)); refine bx_ 6 #[.slice ab M.length ad, .slice ac O.length ae] 53 ?_; intro B hg w7 hbox hb; have _ := Q_ (AD (pb_ HB.1) hb); have c := Q_ (hbox); have bA := Q_ (gw_ (w := w) hg (pb_ HB.1)); have y := bA; clear HB; rename_i HB; clear hb hbox hg) | ((with_reducible refine FP (N := 7) rfl ?_); (try (refine GK (by rfl) ?_; dsimp only)); refine bx_ 7 #[.slice ag X.length ai, .slice ah Y.length aj] 53 ?_; intro F hg w8 hbox hb; have _ := Q_ (bb_ c.1 hb); have _ := Q_ (AD (CM HB.1 y.1) hb); have d := Q_ (hbox); have bB := Q_ (gw_ (w := w) hg (CM HB.1 y.1)); have z := bB; have ax := Q_ (nb_ hg c); have aR := Q_ ax.1.symm; clear c HB; rename_i c HB; clear hb hbox hg) | ((with_reducible refine FP (N := 12) rfl ?_); (try (refine GK (by rfl) ?_; dsimp only)); refine bx_ 12 #[.bool false, .int .i64 0, .slice none 0 0] 28 ?_; intro u hg w9 hbox hb; have _ := Q_ (bb_ c.1 hb); have _ := Q_ (bb_ d.1 hb); have _ := Q_ (AD (Dw HB.1 y.1 z.1) hb); have j := Q_ (hbox); have bC := Q_ (gw_ (w := w) hg (Dw HB.1 y.1 z.1)); have A := bC; have U := Q_ (nb_ hg c); have aa := Q_ U.1.symm; have P := Q_ (nb_ hg d); have V := Q_ P.1.symm; clear c d HB; rename_i c d HB; clear hb hbox hg))
 (try simp only [Act.put, s1_, s2_, s3_])
 have H := HS_.1
 clear HS_
 obtain ⟨⟨J, q, bz⟩, ch, H⟩ := bs_ H
 (try dsimp only at H)
 have HS_ := Q_ H
 clear H
 have cJ := aR.1
 have c9 := ax.1
 have cK := P.1
 have da := V.1
 have cz := Ew d.1
 go_upto_if 27 with (first | (refine gk_ 151 23 Tryz.func151 #[.slice A2 l2.length c2, .slice A3 l3.length c3, .agg #[.slice ag X.length ai, .slice ah Y.length aj]] ?_; (with_reducible refine (BN.calls k _ _ l2 _ _ l3 _ _ X _ _ Y J q bz _ (cb_ ct HB) cr.1 (cb_ cu HB) cs.1 (cb_ aZ HB) aW.1 (cb_ a0 HB) aX.1 ch.1).mono ?_); rintro e dU ⟨dH, rfl, T, hb⟩; refine ⟨_, rfl, ?_⟩; have _ := Q_ (Kd.IW (Kd.DW (ok' := fun k_ => k_ ≠ B ∧ k_ ≠ F ∧ k_ ≠ u) (Kd.S_N (Kd.Jl T)) (fun k_ hk_ => ⟨(Kd.Gy (g := B) (o := .cells #[.slice ab M.length ad, .slice ac O.length ae] 53 (0, 0)) (pk_ c.1) k_ hk_.2.1), (Kd.Gy (g := F) (o := .cells #[.slice ag X.length ai, .slice ah Y.length aj] 53 (0, 0)) (pk_ d.1) k_ hk_.2.1), (Kd.Gy (g := u) (o := .cells #[.bool false, .int .i64 0, .slice none 0 0] 28 (0, 0)) (pk_ j.1) k_ hk_.2.1)⟩)) (AZ (Gg HB.1 y.1 z.1 A.1))); have _ := Q_ (bb_ c.1 hb); have _ := Q_ (bb_ d.1 hb); have _ := Q_ (bb_ j.1 hb); have _ := Q_ (AD (Gg HB.1 y.1 z.1 A.1) hb); clear c d j HB; rename_i af c d j HB; (try clear hb T)) | ((with_reducible refine FP (N := 13) rfl ?_); (try (refine GK (by rfl) ?_; dsimp only)); refine bx_ 13 #[.int .i64 0, .slice none 0 0] 113 ?_; intro D hg dV hbox hb; have _ := Q_ (Kd.FG (Kd.IH (px_ af.1) D (Nat.le_of_eq hg.symm)) hb); have _ := Q_ (bb_ c.1 hb); have _ := Q_ (bb_ d.1 hb); have _ := Q_ (bb_ j.1 hb); have _ := Q_ (AD (Gg HB.1 y.1 z.1 A.1) hb); have m := Q_ (hbox); have bD := Q_ (gw_ (w := w) hg (Gg HB.1 y.1 z.1 A.1)); have E := bD; have an := Q_ (nb_ hg c); have aA := Q_ an.1.symm; have ao := Q_ (nb_ hg d); have aB := Q_ ao.1.symm; have L := Q_ (nb_ hg j); have Q := Q_ L.1.symm; clear af c d j HB; rename_i af c d j HB; clear hb hbox hg; have cL := aA.1; have db := an.1; have cM := aB.1; have dc := ao.1; have cN := Q.1; have dd := L.1; have cA := Ew m.1; obtain ⟨s, t, bO⟩ := Kd.IM af.1; subst bO))
 (try simp only [Act.put, s1_, s2_, s3_])
 have H := HS_.1
 clear HS_
 by_cases bc : bz = true
 rotate_left
 ·replace bc := bf_ bc
  subst bc
  rw [if_neg ff_] at H
  simp only [Option.some.injEq, Prod.mk.injEq] at H
  obtain ⟨rfl, rfl, rfl⟩ := H
  have cO := aa.1
  have de := U.1
  have cP := V.1
  have df := P.1
  have cQ := L.1
  have dg := Q.1
  have cB := KW j.1
  go_wp2
  refine bodyPost_ret (results_cell_row rfl _ _ u 28 #[.bool false, .int .i64 0, .slice none 0 0] (0, 0) _ rfl (pp_ j.1) Tryz.underlying28 rfl (by kernel_rfl)) rfl ?_
  exact ⟨_, er_, nl_, JX HB.1 y.1 z.1 A.1 E.1⟩
 subst bc
 rw [if_pos rfl] at H
 have H' := Q_ H
 clear H
 have cR := aA.1
 have dh := an.1
 have cS := aB.1
 have di := ao.1
 have cT := Q.1
 have dj := L.1
 have cC := Ew m.1
 go_wp2_with (first | ((with_reducible refine FP (N := 15) rfl ?_); (try (refine GK (by rfl) ?_; dsimp only)); refine bx_ 15 #[.int .i64 0, .slice none 0 0] 113 ?_; intro x hg dW hbox hb; have _ := Q_ (Kd.FG (Kd.IH (by (with_reducible repeat (first | apply Kd.F4 | apply Kd.F3 | apply Kd.E6)); exact (Kd.DW (Kd.EY (p := ⟨D, 1, none⟩) (Kd.EY (p := ⟨D, 0, none⟩) (Kd.DW af.1 (fun k_ hk => (⟨hk, hk.2⟩ : _ ∧ k_ ≠ D))) (fun _ hk => hk.2) (.int .i64 J)) (fun _ hk => hk.2) (.slice s q.length t)) (fun _ h_ => h_.1))) x (Nat.le_of_eq hg.symm)) hb); have _ := Q_ (Ej (g := B) (o := .cells #[.slice ab M.length ad, .slice ac O.length ae] 53 (0, 0)) (pp_ c.1) hb); have _ := Q_ (Ej (g := F) (o := .cells #[.slice ag X.length ai, .slice ah Y.length aj] 53 (0, 0)) (pp_ d.1) hb); have _ := Q_ (Ej (g := u) (o := .cells #[.bool false, .int .i64 0, .slice none 0 0] 28 (0, 0)) (pp_ j.1) hb); have _ := Q_ (Ej (g := D) (o := .cells #[.int .i64 J, .slice s q.length t] 113 (0, 0)) (pp_ m.1) hb); have _ := Q_ (AD (JX HB.1 y.1 z.1 A.1 E.1) hb); have l := Q_ (hbox); have bE := Q_ (gw_ (w := w) hg (JX HB.1 y.1 z.1 A.1 E.1)); have I := bE; have ay := Q_ ((by rw [hg]; exact Nat.ne_of_lt (Hl (g := B) (o := .cells #[.slice ab M.length ad, .slice ac O.length ae] 53 (0, 0)) (pp_ c.1)) : B ≠ x)); have aS := Q_ ay.1.symm; have az := Q_ ((by rw [hg]; exact Nat.ne_of_lt (Hl (g := F) (o := .cells #[.slice ag X.length ai, .slice ah Y.length aj] 53 (0, 0)) (pp_ d.1)) : F ≠ x)); have aT := Q_ az.1.symm; have W := Q_ ((by rw [hg]; exact Nat.ne_of_lt (Hl (g := u) (o := .cells #[.bool false, .int .i64 0, .slice none 0 0] 28 (0, 0)) (pp_ j.1)) : u ≠ x)); have G := Q_ W.1.symm; have aC := Q_ ((by rw [hg]; exact Nat.ne_of_lt (Hl (g := D) (o := .cells #[.int .i64 J, .slice s q.length t] 113 (0, 0)) (pp_ m.1)) : D ≠ x)); have aU := Q_ aC.1.symm; clear af c d j m HB; rename_i af c d j m HB; clear hb hbox hg; have cU := aS.1; have dk := ay.1; have cV := aT.1; have dl := az.1; have cW := G.1; have dm := W.1; have cX := aU.1; have dn := aC.1; have cD := Ew l.1))
 (try simp only [Act.put, s1_, s2_, s3_])
 go_loopg [32] k (fun kq dy w' => ∃ (ap : Int), dy = .int .i64 ap ∧ Aside0 (Bw.l0 kq a4 l5 (l5.length : Int) ap M O X Y J q J q = some (r1, r2, r3)) ∧ Aside0 (kq ≤ k) ∧ Aside0 (Kd.N k81 81 w' w.heap.size (fun k_ => k_ ≠ B ∧ k_ ≠ F ∧ k_ ≠ u ∧ k_ ≠ D ∧ k_ ≠ x) (.slice s q.length t) q) ∧ Aside0 (Kd.N k81 81 w' w.heap.size (fun k_ => k_ ≠ B ∧ k_ ≠ F ∧ k_ ≠ u ∧ k_ ≠ D ∧ k_ ≠ x) (.slice s q.length t) q) ∧ Aside0 (w'.heap[B]? = some (.cells #[(.slice ab M.length ad), (.slice ac O.length ae)] 53 (0, 0))) ∧ Aside0 (w'.heap[F]? = some (.cells #[(.slice ag X.length ai), (.slice ah Y.length aj)] 53 (0, 0))) ∧ Aside0 (w'.heap[u]? = some (.cells #[.bool false, .int .i64 0, (.slice none 0 0)] 28 (0, 0))) ∧ Aside0 (w'.heap[D]? = some (.cells #[.int .i64 J, (.slice s q.length t)] 113 (0, 0))) ∧ Aside0 (w'.heap[x]? = some (.cells #[.int .i64 J, (.slice s q.length t)] 113 (0, 0))) ∧ Aside0 (Below w.heap.size w w'))
 case atStart => exact ⟨(0), el_, H', ⟨Nat.le_refl _⟩, ⟨by (with_reducible repeat (first | apply Kd.F4 | apply Kd.F3 | apply Kd.E6)); exact Kd.DW (Kd.EY (p := ⟨x, 1, none⟩) (Kd.EY (p := ⟨x, 0, none⟩) (Kd.DW af.1 (fun k_ hk => (⟨hk, hk.2⟩ : _ ∧ k_ ≠ x))) (fun _ hk => hk.2) (.int .i64 J)) (fun _ hk => hk.2) (.slice s q.length t)) (fun _ hk => ⟨hk.1.1.1.1, ⟨hk.1.1.1.2.1, ⟨hk.1.1.1.2.2, ⟨hk.1.1.2, hk.1.2⟩⟩⟩⟩)⟩, ⟨by (with_reducible repeat (first | apply Kd.F4 | apply Kd.F3 | apply Kd.E6)); exact Kd.DW (Kd.EY (p := ⟨x, 1, none⟩) (Kd.EY (p := ⟨x, 0, none⟩) (Kd.DW af.1 (fun k_ hk => (⟨hk, hk.2⟩ : _ ∧ k_ ≠ x))) (fun _ hk => hk.2) (.int .i64 J)) (fun _ hk => hk.2) (.slice s q.length t)) (fun _ hk => ⟨hk.1.1.1.1, ⟨hk.1.1.1.2.1, ⟨hk.1.1.1.2.2, ⟨hk.1.1.2, hk.1.2⟩⟩⟩⟩)⟩, ⟨pp_ c.1⟩, ⟨pp_ d.1⟩, ⟨pp_ j.1⟩, ⟨pp_ m.1⟩, ⟨pp_ l.1⟩, ⟨JA HB.1 y.1 z.1 A.1 E.1 I.1⟩⟩
 clear H'
 obtain ⟨ap, rfl, HA, dQ, b, a, c, d, j, m, l, HB⟩ := hrel
 rcases gk with _ | k1
 ·exact absurd HA.1 (by simp [Bw.l0])
 have H := HA.1
 clear HA
 simp only [Bw.l0] at H
 by_cases aV : ap < (l5.length : Int)
 ·rw [if_pos aV] at H
  have aE := decide_eq_true aV
  clear aV
  (first | rw [aE] | (simp only [E4, E']; rw [aE]) | skip)
  by_cases bd : 0 ≤ ap
  rotate_left
  ·rw [if_neg bd] at H
   exact nn_ H
  rw [if_pos bd] at H
  have cx := decide_eq_true bd
  clear bd
  by_cases be : ap < (l5.length : Int)
  rotate_left
  ·rw [if_neg be] at H
   exact nn_ H
  rw [if_pos be] at H
  have cy := decide_eq_true be
  clear be
  exact nn_ H
 rw [if_neg aV] at H
 have aE := decide_eq_false aV
 clear aV
 (first | rw [aE] | (simp only [E4, E']; rw [aE]) | skip)
 obtain ⟨aH, ck, H⟩ := bs_ H
 (try dsimp only at H)
 obtain ⟨aI, cl, H⟩ := bs_ H
 (try dsimp only at H)
 obtain ⟨am, hy650⟩ : ∃ y_ : List (List Int), y_ = (([aH, aI] : List (List Int))) := ⟨_, rfl⟩
 replace H : ((BR.f k1 a4 am 1).bind fun aJ => ((B'.f k1 M O J q).bind fun ba => (if ba = true then ((DY.f k1 M O).bind fun av => ((DT.f k1 J q).bind fun aw => ((Dz.f k1 a4 (([av, aw] : List (List Int))) 1 aJ).bind fun aK => (if aK = true then ((BO.f k1 q).bind fun aG => (some (true, J, aG))) else (some (false, 0, ([] : List Int))))))) else (some (false, 0, ([] : List Int)))))) = some (r1, r2, r3) := hb_ hy650 H
 have a1 := Q_ hy650
 clear hy650
 obtain ⟨aJ, cm, H⟩ := bs_ H
 (try dsimp only at H)
 have HS_ := Q_ H
 clear H
 try go_wp2
 have _ := Q_ (Kd.E6 b.1)
 have _ := Q_ (Kd.E6 a.1)
 have _ := Q_ (Bq c.1)
 have _ := Q_ (Bq d.1)
 have _ := Q_ (Bq j.1)
 have _ := Q_ (Bq m.1)
 have _ := Q_ (Bq l.1)
 have _ := Q_ (Cm HB.1)
 clear b a c d j m l HB
 rename_i b a c d j m l HB
 refine sw_ (S := fun w' => w'.cell? ⟨F, 0, none⟩ = some (.slice ag X.length ai) ∧ w'.cell? ⟨F, 1, none⟩ = some (.slice ah Y.length aj) ∧ w'.cell? ⟨D, 0, none⟩ = some (.int .i64 J) ∧ w'.cell? ⟨D, 1, none⟩ = some (.slice s q.length t)) 8 Bw.tab10 Bw.bits10 ⟨(BM d.1 0).trans rfl, (BM d.1 1).trans rfl, (BM m.1 0).trans rfl, (BM m.1 1).trans rfl⟩ (fun hHeld HT_ HW_ => ?_)
 generalize wr.drew = dX at b a c d j m l HB hHeld ⊢
 refine Ba 0 40 8 1 ?_
 refine E1 1 41 8 3 hHeld ?_
 refine E1 3 43 8 11 hHeld ?_
 refine on_ 2 (some 42) (tf_ 4 8) HT_ (fun K hK => ?_)
 refine gs_ Tryz.func154 #[.agg #[.slice ag X.length ai, .slice ah Y.length aj]] ?_
 with_reducible refine (DY.calls k1 (fun k_ => k_ < w.heap.size) _ _ X _ _ Y aH _ ?side1 (cb_ a0 HB) aX.1 ck.1).mono ?_
 (case side1 => exact Kd.Wq aW.1 (Kd.Jw (Kd.C_F (Kd.LH .i64) aZ.1) (JA HB.1 y.1 z.1 A.1 E.1 I.1)))
 rintro e dY ⟨dI, rfl, T, hb⟩
 refine ⟨_, rfl, ?_⟩
 have _ := Q_ (Kd.E9 (px_ b.1) (Kd.BJ T) hb)
 have _ := Q_ (Kd.E9 (px_ a.1) (Kd.BJ T) hb)
 have _ := Q_ (Kd.BV (Kd.Ax (ok' := fun k_ => True) T (fun _ hk_ => trivial)) (AZ (JA HB.1 y.1 z.1 A.1 E.1 I.1)))
 have _ := Q_ (bb_ c.1 hb)
 have _ := Q_ (bb_ d.1 hb)
 have _ := Q_ (bb_ j.1 hb)
 have _ := Q_ (bb_ m.1 hb)
 have _ := Q_ (bb_ l.1 hb)
 have _ := Q_ (AD (JA HB.1 y.1 z.1 A.1 E.1 I.1) hb)
 clear b a c d j m l HB
 rename_i b a ak c d j m l HB
 (try clear hb T)
 refine hK.out _ _ (Ht d.1 m.1) (fun hHeld => ?_)
 clear hK K
 refine no_ (some 42) ?_
 refine on_ 4 (some 44) (tf_ 5 8) HT_ (fun K hK => ?_)
 refine gs_ Tryz.func155 #[.agg #[.int .i64 J, .slice s q.length t]] ?_
 with_reducible refine (DT.calls k1 J _ _ q aI _ ?side1 ?side2 cl.1).mono ?_
 (case side1 => exact pc_ ((Kd.Em b.1).2.2))
 (case side2 => exact (Kd.Em b.1).2.1)
 rintro e dz ⟨dJ, rfl, T, hb⟩
 refine ⟨_, rfl, ?_⟩
 have _ := Q_ (Kd.E9 (px_ b.1) (Kd.BJ T) hb)
 have _ := Q_ (Kd.E9 (px_ a.1) (Kd.BJ T) hb)
 have _ := Q_ (Kd.B0 (pr_ ak.1) (Kd.BJ T) hb)
 have _ := Q_ (Kd.BV (Kd.B8 T (Kd.Dj (pr_ ak.1))) (AZ (JA HB.1 y.1 z.1 A.1 E.1 I.1)))
 have _ := Q_ (bb_ c.1 hb)
 have _ := Q_ (bb_ d.1 hb)
 have _ := Q_ (bb_ j.1 hb)
 have _ := Q_ (bb_ m.1 hb)
 have _ := Q_ (bb_ l.1 hb)
 have _ := Q_ (AD (JA HB.1 y.1 z.1 A.1 E.1 I.1) hb)
 clear b a ak c d j m l HB
 rename_i b a ak aL c d j m l HB
 (try clear hb T)
 obtain ⟨bh, bl, bp⟩ := Kd.Bo ak.1
 (first | subst bp | (injection bp with f1_ f2_ f3_; have f4_ := f1_.symm; have f5_ := f3_.symm; clear f1_ f2_ f3_; subst f4_; subst f5_))
 obtain ⟨bi, bm, bq⟩ := Kd.Bo aL.1
 (first | subst bq | (injection bq with f1_ f2_ f3_; have f4_ := f1_.symm; have f5_ := f3_.symm; clear f1_ f2_ f3_; subst f4_; subst f5_))
 refine hK.out _ _ (Ht d.1 m.1) (fun hHeld => ?_)
 clear hK K
 refine no_ (some 44) ?_
 refine on_ 5 (some 45) (tf_ 6 8) HT_ (fun K hK => ?_)
 refine Kd.Jk (Kd.slice 3 (Kd.int .i64)) _ 22 ?hg (N' := 45) ?hd (xs := ([aH, aI] : List (List Int))) (inner := [.slice bh aH.length bl, .slice bi aI.length bm]) (ok := (fun k_ => some k_ ≠ (.slice s q.length t : Value).ownBlock ∧ some k_ ≠ (.slice s q.length t : Value).ownBlock ∧ k_ ≠ B ∧ k_ ≠ F ∧ k_ ≠ u ∧ k_ ≠ D ∧ k_ ≠ x)) (okp := (fun k_ => some k_ ≠ (.slice s q.length t : Value).ownBlock ∧ some k_ ≠ (.slice s q.length t : Value).ownBlock ∧ k_ ≠ B ∧ k_ ≠ F ∧ k_ ≠ u ∧ k_ ≠ D ∧ k_ ≠ x)) ?hr ?hp (fun _ hk => hk) ((show ∀ k_, dz.heap.size ≤ k_ → (fun k_ => some k_ ≠ (.slice s q.length t : Value).ownBlock ∧ some k_ ≠ (.slice s q.length t : Value).ownBlock ∧ k_ ≠ B ∧ k_ ≠ F ∧ k_ ≠ u ∧ k_ ≠ D ∧ k_ ≠ x) k_ from fun k_ hk => ⟨Kd.fresh' (Kd.Qp (px_ b.1)) k_ hk, Kd.fresh' (Kd.Qp (px_ a.1)) k_ hk, Kd.Gy (g := B) (o := .cells #[.slice ab M.length ad, .slice ac O.length ae] 53 (0, 0)) (pk_ c.1) k_ hk, Kd.Gy (g := F) (o := .cells #[.slice ag X.length ai, .slice ah Y.length aj] 53 (0, 0)) (pk_ d.1) k_ hk, Kd.Gy (g := u) (o := .cells #[.bool false, .int .i64 0, .slice none 0 0] 28 (0, 0)) (pk_ j.1) k_ hk, Kd.Gy (g := D) (o := .cells #[.int .i64 J, .slice s q.length t] 113 (0, 0)) (pk_ m.1) k_ hk, Kd.Gy (g := x) (o := .cells #[.int .i64 J, .slice s q.length t] 113 (0, 0)) (pk_ l.1) k_ hk⟩) _ (Nat.le_refl _)) (Below.refl _ _) (Nat.le_refl _) (by simp) ?_; (case hd => rfl); (case hg => rfl); (case hr => first | (go_simp; done) | (go_simp; rfl)); (case hp => exact (Reps.one (show Kd.FK (Kd.slice 3 (Kd.int .i64)) _ _ aH [.slice bh aH.length bl] from (Kd.Hh (Kd.BH (Kd.Ax (ok' := (fun k_ => some k_ ≠ (.slice s q.length t : Value).ownBlock ∧ some k_ ≠ (.slice s q.length t : Value).ownBlock ∧ k_ ≠ B ∧ k_ ≠ F ∧ k_ ≠ u ∧ k_ ≠ D ∧ k_ ≠ x)) (Kd.Bi (Kd.Bi (Kd.Bi (Kd.Bi (Kd.Bi (Kd.Eh (Kd.Eh (ak.1) (Kd.GZ b.1) (by decide)) (Kd.GZ a.1) (by decide)) c.1 (by decide)) d.1 (by decide)) j.1 (by decide)) m.1 (by decide)) l.1 (by decide)) (fun k_ hk => ⟨hk.1.1.1.1.1.1.2, ⟨hk.1.1.1.1.1.2, ⟨hk.1.1.1.1.2, ⟨hk.1.1.1.2, ⟨hk.1.1.2, ⟨hk.1.2, hk.2⟩⟩⟩⟩⟩⟩))).2.1 (Kd.R_F (Kd.Ax (ok' := (fun k_ => some k_ ≠ (.slice s q.length t : Value).ownBlock ∧ some k_ ≠ (.slice s q.length t : Value).ownBlock ∧ k_ ≠ B ∧ k_ ≠ F ∧ k_ ≠ u ∧ k_ ≠ D ∧ k_ ≠ x)) (Kd.Bi (Kd.Bi (Kd.Bi (Kd.Bi (Kd.Bi (Kd.Eh (Kd.Eh (ak.1) (Kd.GZ b.1) (by decide)) (Kd.GZ a.1) (by decide)) c.1 (by decide)) d.1 (by decide)) j.1 (by decide)) m.1 (by decide)) l.1 (by decide)) (fun k_ hk => ⟨hk.1.1.1.1.1.1.2, ⟨hk.1.1.1.1.1.2, ⟨hk.1.1.1.1.2, ⟨hk.1.1.1.2, ⟨hk.1.1.2, ⟨hk.1.2, hk.2⟩⟩⟩⟩⟩⟩))))) (Reps.one (show Kd.FK (Kd.slice 3 (Kd.int .i64)) _ _ aI [.slice bi aI.length bm] from (Kd.Hh (Kd.BH (Kd.Ax (ok' := (fun k_ => some k_ ≠ (.slice s q.length t : Value).ownBlock ∧ some k_ ≠ (.slice s q.length t : Value).ownBlock ∧ k_ ≠ B ∧ k_ ≠ F ∧ k_ ≠ u ∧ k_ ≠ D ∧ k_ ≠ x)) (Kd.Bi (Kd.Bi (Kd.Bi (Kd.Bi (Kd.Bi (Kd.Eh (Kd.Eh (aL.1) (Kd.GZ b.1) (by decide)) (Kd.GZ a.1) (by decide)) c.1 (by decide)) d.1 (by decide)) j.1 (by decide)) m.1 (by decide)) l.1 (by decide)) (fun k_ hk => ⟨hk.1.1.1.1.1.1.2, ⟨hk.1.1.1.1.1.2, ⟨hk.1.1.1.1.2, ⟨hk.1.1.1.2, ⟨hk.1.1.2, ⟨hk.1.2, hk.2⟩⟩⟩⟩⟩⟩))).2.1 (Kd.R_F (Kd.Ax (ok' := (fun k_ => some k_ ≠ (.slice s q.length t : Value).ownBlock ∧ some k_ ≠ (.slice s q.length t : Value).ownBlock ∧ k_ ≠ B ∧ k_ ≠ F ∧ k_ ≠ u ∧ k_ ≠ D ∧ k_ ≠ x)) (Kd.Bi (Kd.Bi (Kd.Bi (Kd.Bi (Kd.Bi (Kd.Eh (Kd.Eh (aL.1) (Kd.GZ b.1) (by decide)) (Kd.GZ a.1) (by decide)) c.1 (by decide)) d.1 (by decide)) j.1 (by decide)) m.1 (by decide)) l.1 (by decide)) (fun k_ hk => ⟨hk.1.1.1.1.1.1.2, ⟨hk.1.1.1.1.1.2, ⟨hk.1.1.1.1.2, ⟨hk.1.1.1.2, ⟨hk.1.1.2, ⟨hk.1.2, hk.2⟩⟩⟩⟩⟩⟩))))) (Reps.none _ _))))
 intro dK dZ aF hb hg_ hnew_
 clear hg_ hnew_
 rw [← a1.1] at aF
 have _ := Q_ (Kd.E9 (px_ b.1) (Kd.JV aF) hb)
 have _ := Q_ (Kd.E9 (px_ a.1) (Kd.JV aF) hb)
 have _ := Q_ (Kd.IW aF (AZ (JA HB.1 y.1 z.1 A.1 E.1 I.1)))
 have _ := Q_ (bb_ c.1 hb)
 have _ := Q_ (bb_ d.1 hb)
 have _ := Q_ (bb_ j.1 hb)
 have _ := Q_ (bb_ m.1 hb)
 have _ := Q_ (bb_ l.1 hb)
 have _ := Q_ (AD (JA HB.1 y.1 z.1 A.1 E.1 I.1) hb)
 clear b a c d j m l HB ak aL
 rename_i b a r c d j m l HB
 clear hb aF
 obtain ⟨aq, ar, br⟩ := Kd.IM r.1
 (first | subst br | (injection br with f1_ f2_ f3_; have f4_ := f1_.symm; have f5_ := f3_.symm; clear f1_ f2_ f3_; subst f4_; subst f5_))
 refine hK.out _ _ (Ht d.1 m.1) (fun hHeld => ?_)
 clear hK K
 refine no_ (some 45) ?_
 refine on_ 6 (some 46) (tf_ 7 8) HT_ (fun K hK => ?_)
 refine gs_ Tryz.func153 #[.int .i64 a4, .slice aq am.length ar, .int .i64 1] ?_
 with_reducible refine (BR.calls k1 a4 _ _ am 1 aJ _ ?side1 ?side2 cm.1).mono ?_
 (case side1 => exact pc_ ((Kd.Em r.1).2.2))
 (case side2 => exact (Kd.Em r.1).2.1)
 rintro e cg ⟨rfl, hb⟩
 refine ⟨_, rfl, ?_⟩
 have _ := Q_ (Kd.FG (px_ b.1) hb)
 have _ := Q_ (Kd.FG (px_ a.1) hb)
 have _ := Q_ (Kd.FG (px_ r.1) hb)
 have _ := Q_ (bb_ c.1 hb)
 have _ := Q_ (bb_ d.1 hb)
 have _ := Q_ (bb_ j.1 hb)
 have _ := Q_ (bb_ m.1 hb)
 have _ := Q_ (bb_ l.1 hb)
 have _ := Q_ (AD (JA HB.1 y.1 z.1 A.1 E.1 I.1) hb)
 clear b a r c d j m l HB
 rename_i b a r c d j m l HB
 (try clear hb)
 refine hK.out _ _ (Ht d.1 m.1) (fun hHeld => ?_)
 clear hK K
 refine no_ (some 46) ?_
 refine Ba 7 18 8 255 ?_
 refine G8 (E0 HT_.1 (by kernel_rfl)) ?_
 go_upto_region 11 with (fail)
 have H := HS_.1
 clear HS_
 obtain ⟨ba, bJ, H⟩ := bs_ H
 (try dsimp only at H)
 by_cases bf : ba = true
 rotate_left
 ·replace bf := bf_ bf
  subst bf
  rw [if_neg ff_] at H
  simp only [Option.some.injEq, Prod.mk.injEq] at H
  obtain ⟨rfl, rfl, rfl⟩ := H
  try go_wp2
  have _ := Q_ (Kd.E6 b.1)
  have _ := Q_ (Kd.E6 a.1)
  have _ := Q_ (Kd.E6 r.1)
  have _ := Q_ (Bq c.1)
  have _ := Q_ (Bq d.1)
  have _ := Q_ (Bq j.1)
  have _ := Q_ (Bq m.1)
  have _ := Q_ (Bq l.1)
  have _ := Q_ (Cm HB.1)
  clear b a r c d j m l HB
  rename_i b a r c d j m l HB
  refine sw_ (S := fun w' => w'.cell? ⟨B, 0, none⟩ = some (.slice ab M.length ad) ∧ w'.cell? ⟨B, 1, none⟩ = some (.slice ac O.length ae) ∧ w'.cell? ⟨x, 0, none⟩ = some (.int .i64 J) ∧ w'.cell? ⟨x, 1, none⟩ = some (.slice s q.length t)) 15 Bw.tab11 Bw.bits11 ⟨(BM c.1 0).trans rfl, (BM c.1 1).trans rfl, (BM l.1 0).trans rfl, (BM l.1 1).trans rfl⟩ (fun hHeld HT_ HW_ => ?_)
  generalize cg.drew = d0 at b a r c d j m l HB hHeld ⊢
  refine E1 0 47 15 1 hHeld ?_
  refine E1 1 48 15 3 hHeld ?_
  refine on_ 2 (some 49) (tf_ 3 15) HT_ (fun K hK => ?_)
  refine gs_ Tryz.func156 #[.agg #[.slice ab M.length ad, .slice ac O.length ae], .agg #[.int .i64 J, .slice s q.length t]] ?_
  with_reducible refine (B'.calls k1 _ _ M _ _ O J _ _ q false _ (cb_ aP HB) aN.1 (cb_ aQ HB) aO.1 ?side5 ?side6 bJ.1).mono ?_
  (case side5 => exact pc_ ((Kd.Em a.1).2.2))
  (case side6 => exact (Kd.Em a.1).2.1)
  rintro e d1 ⟨rfl, hb⟩
  refine ⟨_, rfl, ?_⟩
  have _ := Q_ (Kd.FG (px_ b.1) hb)
  have _ := Q_ (Kd.FG (px_ a.1) hb)
  have _ := Q_ (Kd.FG (px_ r.1) hb)
  have _ := Q_ (bb_ c.1 hb)
  have _ := Q_ (bb_ d.1 hb)
  have _ := Q_ (bb_ j.1 hb)
  have _ := Q_ (bb_ m.1 hb)
  have _ := Q_ (bb_ l.1 hb)
  have _ := Q_ (AD (JA HB.1 y.1 z.1 A.1 E.1 I.1) hb)
  clear b a r c d j m l HB
  rename_i b a r c d j m l HB
  (try clear hb)
  refine hK.out _ _ (Ht c.1 l.1) (fun hHeld => ?_)
  clear hK K
  refine no_ (some 49) ?_
  refine Ba 3 50 15 15 ?_
  refine Ba 4 51 15 31 ?_
  refine En 5 52 15 63 ?_
  refine En 6 53 15 127 ?_
  refine En 7 54 15 255 ?_
  refine En 8 55 15 511 ?_
  refine En 9 56 15 1023 ?_
  refine En 10 57 15 2047 ?_
  refine En 11 58 15 4095 ?_
  refine En 12 59 15 8191 ?_
  refine En 13 60 15 16383 ?_
  refine Ba 14 61 15 32767 ?_
  refine G8 (E0 HT_.1 (by kernel_rfl)) ?_
  have cY := aa.1
  have dp := U.1
  have cZ := V.1
  have dq := P.1
  have c0 := L.1
  have dr := Q.1
  have c1 := W.1
  have dt := G.1
  have cE := KW j.1
  try go_wp2
  refine bodyPost_ret (results_cell_row rfl _ _ u 28 #[.bool false, .int .i64 0, .slice none 0 0] (0, 0) _ rfl (pp_ j.1) Tryz.underlying28 rfl (by kernel_rfl)) rfl ?_
  exact ⟨_, er_, nl_, JA HB.1 y.1 z.1 A.1 E.1 I.1⟩
 subst bf
 rw [if_pos rfl] at H
 obtain ⟨av, cn, H⟩ := bs_ H
 (try dsimp only at H)
 obtain ⟨aw, co, H⟩ := bs_ H
 (try dsimp only at H)
 obtain ⟨bb, hy661⟩ : ∃ y_ : List (List Int), y_ = (([av, aw] : List (List Int))) := ⟨_, rfl⟩
 replace H : ((Dz.f k1 a4 bb 1 aJ).bind fun aK => (if aK = true then ((BO.f k1 q).bind fun aG => (some (true, J, aG))) else (some (false, 0, ([] : List Int))))) = some (r1, r2, r3) := hb_ hy661 H
 have a2 := Q_ hy661
 clear hy661
 obtain ⟨aK, cp, H⟩ := bs_ H
 (try dsimp only at H)
 have HS_ := Q_ H
 clear H
 try go_wp2
 have _ := Q_ (Kd.E6 b.1)
 have _ := Q_ (Kd.E6 a.1)
 have _ := Q_ (Kd.E6 r.1)
 have _ := Q_ (Bq c.1)
 have _ := Q_ (Bq d.1)
 have _ := Q_ (Bq j.1)
 have _ := Q_ (Bq m.1)
 have _ := Q_ (Bq l.1)
 have _ := Q_ (Cm HB.1)
 clear b a r c d j m l HB
 rename_i b a r c d j m l HB
 refine sw_ (S := fun w' => w'.cell? ⟨B, 0, none⟩ = some (.slice ab M.length ad) ∧ w'.cell? ⟨B, 1, none⟩ = some (.slice ac O.length ae) ∧ w'.cell? ⟨x, 0, none⟩ = some (.int .i64 J) ∧ w'.cell? ⟨x, 1, none⟩ = some (.slice s q.length t)) 15 Bw.tab11 Bw.bits11 ⟨(BM c.1 0).trans rfl, (BM c.1 1).trans rfl, (BM l.1 0).trans rfl, (BM l.1 1).trans rfl⟩ (fun hHeld HT_ HW_ => ?_)
 generalize cg.drew = d2 at b a r c d j m l HB hHeld ⊢
 refine E1 0 47 15 1 hHeld ?_
 refine E1 1 48 15 3 hHeld ?_
 refine on_ 2 (some 49) (tf_ 3 15) HT_ (fun K hK => ?_)
 refine gs_ Tryz.func156 #[.agg #[.slice ab M.length ad, .slice ac O.length ae], .agg #[.int .i64 J, .slice s q.length t]] ?_
 with_reducible refine (B'.calls k1 _ _ M _ _ O J _ _ q true _ (cb_ aP HB) aN.1 (cb_ aQ HB) aO.1 ?side5 ?side6 bJ.1).mono ?_
 (case side5 => exact pc_ ((Kd.Em a.1).2.2))
 (case side6 => exact (Kd.Em a.1).2.1)
 rintro e d3 ⟨rfl, hb⟩
 refine ⟨_, rfl, ?_⟩
 have _ := Q_ (Kd.FG (px_ b.1) hb)
 have _ := Q_ (Kd.FG (px_ a.1) hb)
 have _ := Q_ (Kd.FG (px_ r.1) hb)
 have _ := Q_ (bb_ c.1 hb)
 have _ := Q_ (bb_ d.1 hb)
 have _ := Q_ (bb_ j.1 hb)
 have _ := Q_ (bb_ m.1 hb)
 have _ := Q_ (bb_ l.1 hb)
 have _ := Q_ (AD (JA HB.1 y.1 z.1 A.1 E.1 I.1) hb)
 clear b a r c d j m l HB
 rename_i b a r c d j m l HB
 (try clear hb)
 refine hK.out _ _ (Ht c.1 l.1) (fun hHeld => ?_)
 clear hK K
 refine no_ (some 49) ?_
 refine Ba 3 50 15 15 ?_
 refine Ba 4 51 15 31 ?_
 refine Ba 5 52 15 63 ?_
 refine Ba 11 58 15 2111 ?_
 refine E1 6 53 15 2175 hHeld ?_
 refine E1 8 55 15 2431 hHeld ?_
 refine on_ 7 (some 54) (tm_ 15 2559) HT_ (fun K hK => ?_)
 refine gs_ Tryz.func154 #[.agg #[.slice ab M.length ad, .slice ac O.length ae]] ?_
 with_reducible refine (DY.calls k1 (fun k_ => k_ < w.heap.size) _ _ M _ _ O av _ ?side1 (cb_ aQ HB) aO.1 cn.1).mono ?_
 (case side1 => exact Kd.Wq aN.1 (Kd.Jw (Kd.C_F (Kd.LH .i64) aP.1) (JA HB.1 y.1 z.1 A.1 E.1 I.1)))
 rintro e d4 ⟨dL, rfl, T, hb⟩
 refine ⟨_, rfl, ?_⟩
 have _ := Q_ (Kd.E9 (px_ b.1) (Kd.BJ T) hb)
 have _ := Q_ (Kd.E9 (px_ a.1) (Kd.BJ T) hb)
 have _ := Q_ (Kd.E9 (px_ r.1) (Kd.BJ T) hb)
 have _ := Q_ (Kd.BV (Kd.Ax (ok' := fun k_ => True) T (fun _ hk_ => trivial)) (AZ (JA HB.1 y.1 z.1 A.1 E.1 I.1)))
 have _ := Q_ (bb_ c.1 hb)
 have _ := Q_ (bb_ d.1 hb)
 have _ := Q_ (bb_ j.1 hb)
 have _ := Q_ (bb_ m.1 hb)
 have _ := Q_ (bb_ l.1 hb)
 have _ := Q_ (AD (JA HB.1 y.1 z.1 A.1 E.1 I.1) hb)
 clear b a r c d j m l HB
 rename_i b a r al c d j m l HB
 (try clear hb T)
 refine hK.out _ _ (Ht c.1 l.1) (fun hHeld => ?_)
 clear hK K
 refine no_ (some 54) ?_
 refine on_ 9 (some 56) (tm_ 15 3071) HT_ (fun K hK => ?_)
 refine gs_ Tryz.func155 #[.agg #[.int .i64 J, .slice s q.length t]] ?_
 with_reducible refine (DT.calls k1 J _ _ q aw _ ?side1 ?side2 co.1).mono ?_
 (case side1 => exact pc_ ((Kd.Em a.1).2.2))
 (case side2 => exact (Kd.Em a.1).2.1)
 rintro e dA ⟨dM, rfl, T, hb⟩
 refine ⟨_, rfl, ?_⟩
 have _ := Q_ (Kd.E9 (px_ b.1) (Kd.BJ T) hb)
 have _ := Q_ (Kd.E9 (px_ a.1) (Kd.BJ T) hb)
 have _ := Q_ (Kd.E9 (px_ r.1) (Kd.BJ T) hb)
 have _ := Q_ (Kd.B0 (pr_ al.1) (Kd.BJ T) hb)
 have _ := Q_ (Kd.BV (Kd.B8 T (Kd.Dj (pr_ al.1))) (AZ (JA HB.1 y.1 z.1 A.1 E.1 I.1)))
 have _ := Q_ (bb_ c.1 hb)
 have _ := Q_ (bb_ d.1 hb)
 have _ := Q_ (bb_ j.1 hb)
 have _ := Q_ (bb_ m.1 hb)
 have _ := Q_ (bb_ l.1 hb)
 have _ := Q_ (AD (JA HB.1 y.1 z.1 A.1 E.1 I.1) hb)
 clear b a r al c d j m l HB
 rename_i b a r al aM c d j m l HB
 (try clear hb T)
 obtain ⟨bj, bn, bs⟩ := Kd.Bo al.1
 (first | subst bs | (injection bs with f1_ f2_ f3_; have f4_ := f1_.symm; have f5_ := f3_.symm; clear f1_ f2_ f3_; subst f4_; subst f5_))
 obtain ⟨bk, bo, bt⟩ := Kd.Bo aM.1
 (first | subst bt | (injection bt with f1_ f2_ f3_; have f4_ := f1_.symm; have f5_ := f3_.symm; clear f1_ f2_ f3_; subst f4_; subst f5_))
 refine hK.out _ _ (Ht c.1 l.1) (fun hHeld => ?_)
 clear hK K
 refine no_ (some 56) ?_
 refine on_ 10 (some 57) (tf_ 12 15) HT_ (fun K hK => ?_)
 refine Kd.Jk (Kd.slice 3 (Kd.int .i64)) _ 22 ?hg (N' := 57) ?hd (xs := ([av, aw] : List (List Int))) (inner := [.slice bj av.length bn, .slice bk aw.length bo]) (ok := (fun k_ => some k_ ≠ (.slice s q.length t : Value).ownBlock ∧ some k_ ≠ (.slice s q.length t : Value).ownBlock ∧ some k_ ≠ (.slice aq am.length ar : Value).ownBlock ∧ k_ ≠ B ∧ k_ ≠ F ∧ k_ ≠ u ∧ k_ ≠ D ∧ k_ ≠ x)) (okp := (fun k_ => some k_ ≠ (.slice s q.length t : Value).ownBlock ∧ some k_ ≠ (.slice s q.length t : Value).ownBlock ∧ some k_ ≠ (.slice aq am.length ar : Value).ownBlock ∧ k_ ≠ B ∧ k_ ≠ F ∧ k_ ≠ u ∧ k_ ≠ D ∧ k_ ≠ x)) ?hr ?hp (fun _ hk => hk) ((show ∀ k_, dA.heap.size ≤ k_ → (fun k_ => some k_ ≠ (.slice s q.length t : Value).ownBlock ∧ some k_ ≠ (.slice s q.length t : Value).ownBlock ∧ some k_ ≠ (.slice aq am.length ar : Value).ownBlock ∧ k_ ≠ B ∧ k_ ≠ F ∧ k_ ≠ u ∧ k_ ≠ D ∧ k_ ≠ x) k_ from fun k_ hk => ⟨Kd.fresh' (Kd.Qp (px_ b.1)) k_ hk, Kd.fresh' (Kd.Qp (px_ a.1)) k_ hk, Kd.fresh' (Kd.Qp (px_ r.1)) k_ hk, Kd.Gy (g := B) (o := .cells #[.slice ab M.length ad, .slice ac O.length ae] 53 (0, 0)) (pk_ c.1) k_ hk, Kd.Gy (g := F) (o := .cells #[.slice ag X.length ai, .slice ah Y.length aj] 53 (0, 0)) (pk_ d.1) k_ hk, Kd.Gy (g := u) (o := .cells #[.bool false, .int .i64 0, .slice none 0 0] 28 (0, 0)) (pk_ j.1) k_ hk, Kd.Gy (g := D) (o := .cells #[.int .i64 J, .slice s q.length t] 113 (0, 0)) (pk_ m.1) k_ hk, Kd.Gy (g := x) (o := .cells #[.int .i64 J, .slice s q.length t] 113 (0, 0)) (pk_ l.1) k_ hk⟩) _ (Nat.le_refl _)) (Below.refl _ _) (Nat.le_refl _) (by simp) ?_; (case hd => rfl); (case hg => rfl); (case hr => first | (go_simp; done) | (go_simp; rfl)); (case hp => exact (Reps.one (show Kd.FK (Kd.slice 3 (Kd.int .i64)) _ _ av [.slice bj av.length bn] from (Kd.Hh (Kd.BH (Kd.Ax (ok' := (fun k_ => some k_ ≠ (.slice s q.length t : Value).ownBlock ∧ some k_ ≠ (.slice s q.length t : Value).ownBlock ∧ some k_ ≠ (.slice aq am.length ar : Value).ownBlock ∧ k_ ≠ B ∧ k_ ≠ F ∧ k_ ≠ u ∧ k_ ≠ D ∧ k_ ≠ x)) (Kd.Bi (Kd.Bi (Kd.Bi (Kd.Bi (Kd.Bi (Kd.Eh (Kd.Eh (Kd.Eh (al.1) (Kd.GZ b.1) (by decide)) (Kd.GZ a.1) (by decide)) (Kd.GZ r.1) (by decide)) c.1 (by decide)) d.1 (by decide)) j.1 (by decide)) m.1 (by decide)) l.1 (by decide)) (fun k_ hk => ⟨hk.1.1.1.1.1.1.1.2, ⟨hk.1.1.1.1.1.1.2, ⟨hk.1.1.1.1.1.2, ⟨hk.1.1.1.1.2, ⟨hk.1.1.1.2, ⟨hk.1.1.2, ⟨hk.1.2, hk.2⟩⟩⟩⟩⟩⟩⟩))).2.1 (Kd.R_F (Kd.Ax (ok' := (fun k_ => some k_ ≠ (.slice s q.length t : Value).ownBlock ∧ some k_ ≠ (.slice s q.length t : Value).ownBlock ∧ some k_ ≠ (.slice aq am.length ar : Value).ownBlock ∧ k_ ≠ B ∧ k_ ≠ F ∧ k_ ≠ u ∧ k_ ≠ D ∧ k_ ≠ x)) (Kd.Bi (Kd.Bi (Kd.Bi (Kd.Bi (Kd.Bi (Kd.Eh (Kd.Eh (Kd.Eh (al.1) (Kd.GZ b.1) (by decide)) (Kd.GZ a.1) (by decide)) (Kd.GZ r.1) (by decide)) c.1 (by decide)) d.1 (by decide)) j.1 (by decide)) m.1 (by decide)) l.1 (by decide)) (fun k_ hk => ⟨hk.1.1.1.1.1.1.1.2, ⟨hk.1.1.1.1.1.1.2, ⟨hk.1.1.1.1.1.2, ⟨hk.1.1.1.1.2, ⟨hk.1.1.1.2, ⟨hk.1.1.2, ⟨hk.1.2, hk.2⟩⟩⟩⟩⟩⟩⟩))))) (Reps.one (show Kd.FK (Kd.slice 3 (Kd.int .i64)) _ _ aw [.slice bk aw.length bo] from (Kd.Hh (Kd.BH (Kd.Ax (ok' := (fun k_ => some k_ ≠ (.slice s q.length t : Value).ownBlock ∧ some k_ ≠ (.slice s q.length t : Value).ownBlock ∧ some k_ ≠ (.slice aq am.length ar : Value).ownBlock ∧ k_ ≠ B ∧ k_ ≠ F ∧ k_ ≠ u ∧ k_ ≠ D ∧ k_ ≠ x)) (Kd.Bi (Kd.Bi (Kd.Bi (Kd.Bi (Kd.Bi (Kd.Eh (Kd.Eh (Kd.Eh (aM.1) (Kd.GZ b.1) (by decide)) (Kd.GZ a.1) (by decide)) (Kd.GZ r.1) (by decide)) c.1 (by decide)) d.1 (by decide)) j.1 (by decide)) m.1 (by decide)) l.1 (by decide)) (fun k_ hk => ⟨hk.1.1.1.1.1.1.1.2, ⟨hk.1.1.1.1.1.1.2, ⟨hk.1.1.1.1.1.2, ⟨hk.1.1.1.1.2, ⟨hk.1.1.1.2, ⟨hk.1.1.2, ⟨hk.1.2, hk.2⟩⟩⟩⟩⟩⟩⟩))).2.1 (Kd.R_F (Kd.Ax (ok' := (fun k_ => some k_ ≠ (.slice s q.length t : Value).ownBlock ∧ some k_ ≠ (.slice s q.length t : Value).ownBlock ∧ some k_ ≠ (.slice aq am.length ar : Value).ownBlock ∧ k_ ≠ B ∧ k_ ≠ F ∧ k_ ≠ u ∧ k_ ≠ D ∧ k_ ≠ x)) (Kd.Bi (Kd.Bi (Kd.Bi (Kd.Bi (Kd.Bi (Kd.Eh (Kd.Eh (Kd.Eh (aM.1) (Kd.GZ b.1) (by decide)) (Kd.GZ a.1) (by decide)) (Kd.GZ r.1) (by decide)) c.1 (by decide)) d.1 (by decide)) j.1 (by decide)) m.1 (by decide)) l.1 (by decide)) (fun k_ hk => ⟨hk.1.1.1.1.1.1.1.2, ⟨hk.1.1.1.1.1.1.2, ⟨hk.1.1.1.1.1.2, ⟨hk.1.1.1.1.2, ⟨hk.1.1.1.2, ⟨hk.1.1.2, ⟨hk.1.2, hk.2⟩⟩⟩⟩⟩⟩⟩))))) (Reps.none _ _))))
 intro dN d5 au hb hg_ hnew_
 clear hg_ hnew_
 rw [← a2.1] at au
 have _ := Q_ (Kd.E9 (px_ b.1) (Kd.JV au) hb)
 have _ := Q_ (Kd.E9 (px_ a.1) (Kd.JV au) hb)
 have _ := Q_ (Kd.E9 (px_ r.1) (Kd.JV au) hb)
 have _ := Q_ (Kd.IW au (AZ (JA HB.1 y.1 z.1 A.1 E.1 I.1)))
 have _ := Q_ (bb_ c.1 hb)
 have _ := Q_ (bb_ d.1 hb)
 have _ := Q_ (bb_ j.1 hb)
 have _ := Q_ (bb_ m.1 hb)
 have _ := Q_ (bb_ l.1 hb)
 have _ := Q_ (AD (JA HB.1 y.1 z.1 A.1 E.1 I.1) hb)
 clear b a r c d j m l HB al aM
 rename_i b a r Z c d j m l HB
 clear hb au
 obtain ⟨bK, bM, bu⟩ := Kd.IM Z.1
 (first | subst bu | (injection bu with f1_ f2_ f3_; have f4_ := f1_.symm; have f5_ := f3_.symm; clear f1_ f2_ f3_; subst f4_; subst f5_))
 refine hK.out _ _ (Ht c.1 l.1) (fun hHeld => ?_)
 clear hK K
 refine no_ (some 57) ?_
 refine on_ 12 (some 59) (tf_ 13 15) HT_ (fun K hK => ?_)
 refine gs_ Tryz.func157 #[.int .i64 a4, .slice bK bb.length bM, .int .i64 1, .int .i64 aJ] ?_
 with_reducible refine (Dz.calls k1 a4 _ _ bb 1 aJ aK _ ?side1 ?side2 cp.1).mono ?_
 (case side1 => exact pc_ ((Kd.Em Z.1).2.2))
 (case side2 => exact (Kd.Em Z.1).2.1)
 rintro e dB ⟨rfl, hb⟩
 refine ⟨_, rfl, ?_⟩
 have _ := Q_ (Kd.FG (px_ b.1) hb)
 have _ := Q_ (Kd.FG (px_ a.1) hb)
 have _ := Q_ (Kd.FG (px_ r.1) hb)
 have _ := Q_ (Kd.FG (px_ Z.1) hb)
 have _ := Q_ (bb_ c.1 hb)
 have _ := Q_ (bb_ d.1 hb)
 have _ := Q_ (bb_ j.1 hb)
 have _ := Q_ (bb_ m.1 hb)
 have _ := Q_ (bb_ l.1 hb)
 have _ := Q_ (AD (JA HB.1 y.1 z.1 A.1 E.1 I.1) hb)
 clear b a r Z c d j m l HB
 rename_i b a r Z c d j m l HB
 (try clear hb)
 refine hK.out _ _ (Ht c.1 l.1) (fun hHeld => ?_)
 clear hK K
 refine no_ (some 59) ?_
 refine Ba 13 60 15 16383 ?_
 refine Ba 14 61 15 32767 ?_
 refine G8 (E0 HT_.1 (by kernel_rfl)) ?_
 go_upto_if 61 with (fail)
 have H := HS_.1
 clear HS_
 by_cases bg : aK = true
 rotate_left
 ·replace bg := bf_ bg
  subst bg
  rw [if_neg ff_] at H
  simp only [Option.some.injEq, Prod.mk.injEq] at H
  obtain ⟨rfl, rfl, rfl⟩ := H
  have c4 := aa.1
  have du := U.1
  have c6 := V.1
  have dv := P.1
  have c7 := L.1
  have dw := Q.1
  have c8 := W.1
  have dx := G.1
  have cF := KW j.1
  go_wp2
  refine bodyPost_ret (results_cell_row rfl _ _ u 28 #[.bool false, .int .i64 0, .slice none 0 0] (0, 0) _ rfl (pp_ j.1) Tryz.underlying28 rfl (by kernel_rfl)) rfl ?_
  exact ⟨_, er_, nl_, JA HB.1 y.1 z.1 A.1 E.1 I.1⟩
 subst bg
 rw [if_pos rfl] at H
 obtain ⟨aG, cq, H⟩ := bs_ H
 replace H : (some (true, J, aG)) = some (r1, r2, r3) := H
 simp only [Option.some.injEq, Prod.mk.injEq] at H
 obtain ⟨rfl, rfl, rfl⟩ := H
 try go_wp2
 have _ := Q_ (Kd.E6 b.1)
 have _ := Q_ (Kd.E6 a.1)
 have _ := Q_ (Kd.E6 r.1)
 have _ := Q_ (Kd.E6 Z.1)
 have _ := Q_ (Bq c.1)
 have _ := Q_ (Bq d.1)
 have _ := Q_ (Bq j.1)
 have _ := Q_ (Bq m.1)
 have _ := Q_ (Bq l.1)
 have _ := Q_ (Cm HB.1)
 clear b a r Z c d j m l HB
 rename_i b a r Z c d j m l HB
 refine Lx (n := 7) (S := fun w' => w'.cell? ⟨x, 0, none⟩ = some (.int .i64 J) ∧ w'.cell? ⟨x, 1, none⟩ = some (.slice s q.length t)) (ds := []) (tf_ 0 7) (by kernel_rfl) rfl rfl (sb_ l.1) (fun hHeld => ?_)
 generalize dB.drew = d6 at b a r Z c d j m l HB hHeld ⊢
 refine Nh (i := 0) (N := some 63) (v := ?_) (a' := ?_) #[true, false, false, false, false, false, false] rfl rfl (by kernel_rfl) (fun _ _ _ h => h) (Or.inl ⟨by rfl, ?_⟩) ?_ ?_
 rotate_left
 ·intro w'
  go_simp
  (try (simp only [Instr.field]; simp only [underlying, hu113, hu148, hu28, hu53]; go_simp; simp only [asAgg]; go_simp))
  with_reducible rfl
 rotate_left
 ·simp only [Act.put, List.setIfInBounds_toArray, List.set_cons_zero, List.set_cons_succ, E4, E']
  rfl
 refine Nh (i := 2) (N := some 65) (v := ?_) (a' := ?_) #[true, false, true, false, false, false, false] rfl rfl (by kernel_rfl) (fun _ _ _ h => h) (Or.inl ⟨by rfl, ?_⟩) ?_ ?_
 rotate_left
 ·intro w'
  go_simp
  (try (simp only [Instr.field]; simp only [underlying, hu113, hu148, hu28, hu53]; go_simp; simp only [asAgg]; go_simp))
  with_reducible rfl
 rotate_left
 ·simp only [Act.put, List.setIfInBounds_toArray, List.set_cons_zero, List.set_cons_succ, E4, E']
  rfl
 refine take_ (i := 1) (N := some 64) (v := ?_) (a' := ?_) #[true, true, true, false, false, false, false] rfl rfl (by kernel_rfl) (fun _ _ _ h => h) (Or.inl ⟨by rfl, ?_⟩) hHeld ?_ ?_
 rotate_left
 ·rintro w' ⟨s0, s1⟩
  go_simp
  (try (simp only [Instr.field]; simp only [underlying, hu113, hu148, hu28, hu53]; go_simp; simp only [asAgg]; go_simp))
  with_reducible rfl
 rotate_left
 ·simp only [Act.put, List.setIfInBounds_toArray, List.set_cons_zero, List.set_cons_succ, E4, E']
  rfl
 refine take_ (i := 3) (N := some 66) (v := ?_) (a' := ?_) #[true, true, true, true, false, false, false] rfl rfl (by kernel_rfl) (fun _ _ _ h => h) (Or.inl ⟨by rfl, ?_⟩) hHeld ?_ ?_
 rotate_left
 ·rintro w' ⟨s0, s1⟩
  go_simp
  (try (simp only [Instr.field]; simp only [underlying, hu113, hu148, hu28, hu53]; go_simp; simp only [asAgg]; go_simp))
  with_reducible rfl
 rotate_left
 ·simp only [Act.put, List.setIfInBounds_toArray, List.set_cons_zero, List.set_cons_succ, E4, E']
  rfl
 refine Vy (i := 4) (N := some 67) #[true, true, true, true, true, false, false] rfl rfl (by kernel_rfl) (by decide) (fun K hK => ?_)
 refine gs_ Tryz.func58 #[.slice s q.length t] ?_
 with_reducible refine (BO.calls k1 _ _ q aG _ ?side1 ?side2 cq.1).mono ?_
 (case side1 => exact pc_ ((Kd.Em a.1).2.2))
 (case side2 => exact (Kd.Em a.1).2.1)
 rintro e bI ⟨dO, rfl, T, hb⟩
 refine ⟨_, rfl, ?_⟩
 have _ := Q_ (Kd.E9 (px_ b.1) (Kd.BJ T) hb)
 have _ := Q_ (Kd.E9 (px_ a.1) (Kd.BJ T) hb)
 have _ := Q_ (Kd.E9 (px_ r.1) (Kd.BJ T) hb)
 have _ := Q_ (Kd.E9 (px_ Z.1) (Kd.BJ T) hb)
 have _ := Q_ (Kd.BV T (AZ (JA HB.1 y.1 z.1 A.1 E.1 I.1)))
 have _ := Q_ (bb_ c.1 hb)
 have _ := Q_ (bb_ d.1 hb)
 have _ := Q_ (bb_ j.1 hb)
 have _ := Q_ (bb_ m.1 hb)
 have _ := Q_ (bb_ l.1 hb)
 have _ := Q_ (AD (JA HB.1 y.1 z.1 A.1 E.1 I.1) hb)
 clear b a r Z c d j m l HB
 rename_i b a r Z aY c d j m l HB
 (try clear hb T)
 obtain ⟨bL, bN, bv⟩ := Kd.Bo aY.1
 (first | subst bv | (injection bv with f1_ f2_ f3_; have f4_ := f1_.symm; have f5_ := f3_.symm; clear f1_ f2_ f3_; subst f4_; subst f5_))
 (try (obtain ⟨Ao_, co_, eo_⟩ := Kd.Bo r.1; subst eo_))
 refine hK.out _ _ (sb_ l.1) (fun hHeld => ?_)
 clear hK K
 refine no_ (some 67) ?_
 refine Nh (i := 5) (N := some 68) (v := ?_) (a' := ?_) #[true, true, true, true, true, true, false] rfl rfl (by kernel_rfl) (fun _ _ _ h => h) (Or.inl ⟨by rfl, ?_⟩) ?_ ?_
 rotate_left
 ·intro w'
  go_simp
  (try (simp only [Instr.field]; simp only [underlying, hu113, hu148, hu28, hu53]; go_simp; simp only [asAgg]; go_simp))
  with_reducible rfl
 rotate_left
 ·simp only [Act.put, List.setIfInBounds_toArray, List.set_cons_zero, List.set_cons_succ, E4, E']
  rfl
 refine Vy (i := 6) (N := none) #[true, true, true, true, true, true, true] rfl rfl (by kernel_rfl) (by decide) (fun K hK => ?_)
 have dE : bI.cell? ⟨u, 0, none⟩ = some (.bool false) := (BM j.1 0).trans rfl
 have cG := DI j.1 0
 have b4 := U.1
 have b5 := P.1
 have b6 := Q.1
 have b7 := G.1
 have bS := aa.1
 have bT := V.1
 have bU := L.1
 have bV := W.1
 have dF : bI.cell? ⟨u, 1, none⟩ = some (.int .i64 0) := (BM j.1 1).trans rfl
 have cH := DI j.1 1
 have b8 := U.1
 have b9 := P.1
 have ca := Q.1
 have cb := G.1
 have bW := aa.1
 have bX := V.1
 have bY := L.1
 have bZ := W.1
 have dG : bI.cell? ⟨u, 2, none⟩ = some (.slice none 0 0) := (BM j.1 2).trans rfl
 have cI := DI j.1 2
 have cc := U.1
 have cd := P.1
 have ce := Q.1
 have cf := G.1
 have b0 := aa.1
 have b1 := V.1
 have b2 := L.1
 have b3 := W.1
 refine J2 (w1 := ?_) (by rfl) rfl ?_ ?_
 rotate_left
 ·go_simp
  rfl
 refine hK.out _ _ ⟨((cell_far (p := ⟨u, _, none⟩) G.1 _).trans (((cell_far (p := ⟨u, _, none⟩) G.1 _).trans (((cell_far (p := ⟨u, _, none⟩) G.1 _).trans (hHeld.1)))))), ((cell_far (p := ⟨u, _, none⟩) G.1 _).trans (((cell_far (p := ⟨u, _, none⟩) G.1 _).trans (((cell_far (p := ⟨u, _, none⟩) G.1 _).trans (hHeld.2))))))⟩ (fun hHeld => ?_)
 clear hK K
 refine G8 (by kernel_rfl) ?_
 try go_wp2
 refine bodyPost_ret (results_cell_row rfl _ _ u 28 #[.bool true, .int .i64 J, .slice bL aG.length bN] (0, 0) _ rfl (pp_ j.1) Tryz.underlying28 rfl (by kernel_rfl)) rfl ?_
 exact ⟨_, er_, pr_ (Kd.Ax (Yq aY.1 j.1) (fun _ hk => trivial)), JA HB.1 y.1 z.1 A.1 E.1 I.1⟩
def EP.f (k : Nat) (c : List Int) (d : List (S81)) (g : List (S75)) (h : List Int) (i : List Int) (e : Int) : Option (Bool × Int × List Int) := (Am.f k g c d).bind fun a => (if a.2.2 = true then ((Bw.f k c d a.1 a.2.1 h i e ([] : List (K9))).bind fun b => (some (b.1, b.2.1, b.2.2))) else (some (false, 0, ([] : List Int))))
theorem EP.mono : ∀ a b c d e g k, LeO (EP.f k a b c d e g) (EP.f (k + 1) a b c d e g) := by
 intro a b c d e g k
 unfold EP.f
 exact H8 Am.mono Bw.mono
theorem EP.calls (k : Nat) (z : Option Addr) (B : Nat) (m : List Int) (A : Option Addr) (D : Nat) (p : List (S81)) (A1 : Option Addr) (c1 : Nat) (l1 : List (S75)) (A2 : Option Addr) (c2 : Nat) (l2 : List Int) (A3 : Option Addr) (c3 : Nat) (l3 : List Int) (a4 : Int) (r1 : Bool) (r2 : Int) (r3 : List Int) (w : World) (hr0_0 : Kd.C (Kd.int .i64) w z m.length m) (V : m.length ≤ B) (hr0_1 : Kd.C k81 w A p.length p) (W : p.length ≤ D) (hr1 : Kd.C k75 w A1 l1.length l1) (ar : l1.length ≤ c1) (hr2 : Kd.C (Kd.int .i64) w A2 l2.length l2) (au : l2.length ≤ c2) (hr3 : Kd.C (Kd.int .i64) w A3 l3.length l3) (av : l3.length ≤ c3) (h : EP.f k m p l1 l2 l3 a4 = some (r1, r2, r3)) :
  Calls Tryz.prog 73 #[.agg #[.slice z m.length B, .slice A p.length D], .slice A1 l1.length c1, .slice A2 l2.length c2, .slice A3 l3.length c3, .int .i64 a4] w fun e w' => ∃ v2_ : Value, e = .returned (.agg #[.bool r1, .int .i64 r2, v2_]) ∧ Kd.R (Kd.int .i64) 3 w' w.heap.size (fun _ => True) v2_ r3 ∧ Below w.heap.size w w' := by
 have hu53 := Tryz.underlying53
 have hu28 := Tryz.underlying28
 have S := Q_ hr0_0
 have O := Q_ V
 clear hr0_0 V
 have T := Q_ hr0_1
 have P := Q_ W
 clear hr0_1 W
 have aH := Q_ hr1
 have aE := Q_ ar
 clear hr1 ar
 have aI := Q_ hr2
 have aF := Q_ au
 clear hr2 au
 have aJ := Q_ hr3
 have aG := Q_ av
 clear hr3 av
 have HB := Q_ (Below.refl w.heap.size w)
 unfold EP.f at h
 have H := h
 clear h
 have HS_ := Q_ H
 clear H
 go_enter Tryz.func73, Tryz.ntmps73
 go_upto_region 1 with (first | (refine bg_ 5 #[.slice z m.length B, .slice A p.length D] 53 ?_; intro aj hg w6 hbox hb; have _ := Q_ (AD (pb_ HB.1) hb); have a := Q_ (hbox); have ag := Q_ (gw_ (w := w) hg (pb_ HB.1)); have d := ag; clear HB; rename_i HB; clear hb hbox hg) | (refine bg_ 10 #[.bool false, .int .i64 0, .slice none 0 0] 28 ?_; intro J hg w7 hbox hb; have _ := Q_ (bb_ a.1 hb); have _ := Q_ (AD (CM HB.1 d.1) hb); have b := Q_ (hbox); have ah := Q_ (gw_ (w := w) hg (CM HB.1 d.1)); have i := ah; have r := Q_ (nb_ hg a); have v := Q_ r.1.symm; clear a HB; rename_i a HB; clear hb hbox hg))
 (try simp only [Act.put, s1_, s2_, s3_])
 have H := HS_.1
 clear HS_
 obtain ⟨⟨E, F, af⟩, A8, H⟩ := bs_ H
 (try dsimp only at H)
 have HS_ := Q_ H
 clear H
 have a8 := r.1
 have a9 := v.1
 have aN := Ew a.1
 go_upto_if 20 with (first | (refine gk_ 84 16 Tryz.func84 #[.slice A1 l1.length c1, .agg #[.slice z m.length B, .slice A p.length D]] ?_; (with_reducible refine (Am.calls k _ _ l1 _ _ m _ _ p E F af _ (cb_ aH HB) aE.1 (cb_ S HB) O.1 (cb_ T HB) P.1 A8.1).mono ?_); rintro e be ⟨ba, bb, rfl, K, aw, hb⟩; refine ⟨_, rfl, ?_⟩; have _ := Q_ (Kd.BV K (AZ (Dw HB.1 d.1 i.1))); have _ := Q_ (Kd.Fh aw (AZ (Dw HB.1 d.1 i.1))); have _ := Q_ (bb_ a.1 hb); have _ := Q_ (bb_ b.1 hb); have _ := Q_ (AD (Dw HB.1 d.1 i.1) hb); clear a b HB; rename_i l q a b HB; (try clear hb K aw)) | (refine bg_ 11 #[.slice none 0 0, .slice none 0 0] 53 ?_; intro ak hg bf hbox hb; have _ := Q_ (Kd.Bv (pr_ l.1) hb); have _ := Q_ (Kd.FB (ps_ q.1) hb); have _ := Q_ (bb_ a.1 hb); have _ := Q_ (bb_ b.1 hb); have _ := Q_ (AD (Dw HB.1 d.1 i.1) hb); have j := Q_ (hbox); have ai := Q_ (gw_ (w := w) hg (Dw HB.1 d.1 i.1)); have t := ai; have u := Q_ (nb_ hg a); have y := Q_ u.1.symm; have s := Q_ (nb_ hg b); have x := Q_ s.1.symm; clear l q a b HB; rename_i l q a b HB; clear hb hbox hg; obtain ⟨M, L, ao⟩ := Kd.Bo l.1; subst ao; have aT := y.1; have a0 := u.1; have aU := x.1; have a1 := s.1; have aO := Ew j.1; obtain ⟨ab, U, ap⟩ := Kd.Gv q.1; subst ap))
 (try simp only [Act.put, s1_, s2_, s3_])
 have H := HS_.1
 clear HS_
 by_cases aa : af = true
 rotate_left
 ·replace aa := bf_ aa
  subst aa
  rw [if_neg ff_] at H
  simp only [Option.some.injEq, Prod.mk.injEq] at H
  obtain ⟨rfl, rfl, rfl⟩ := H
  have aV := v.1
  have a2 := r.1
  have aW := s.1
  have a3 := x.1
  have aP := KW b.1
  go_wp2
  refine bodyPost_ret (results_cell_row rfl _ _ J 28 #[.bool false, .int .i64 0, .slice none 0 0] (0, 0) _ rfl (pp_ b.1) Tryz.underlying28 rfl (by kernel_rfl)) rfl ?_
  exact ⟨_, er_, nl_, Gg HB.1 d.1 i.1 t.1⟩
 subst aa
 rw [if_pos rfl] at H
 obtain ⟨⟨X, Y, Z⟩, aC, H⟩ := bs_ H
 replace H : (some (X, Y, Z)) = some (r1, r2, r3) := H
 simp only [Option.some.injEq, Prod.mk.injEq] at H
 obtain ⟨rfl, rfl, rfl⟩ := H
 have aX := r.1
 have a5 := v.1
 have aY := u.1
 have a6 := y.1
 have aQ := Ew a.1
 have aZ := x.1
 have a7 := s.1
 have aR := Ew j.1
 go_wp2_with (first | (refine gk_ 113 27 Tryz.func113 #[.agg #[.slice z m.length B, .slice A p.length D], .agg #[.slice M E.length L, .slice ab F.length U], .slice A2 l2.length c2, .slice A3 l3.length c3, .int .i64 a4, .slice none 0 0] ?_; (refine (Bw.calls k _ _ m _ _ p _ _ E _ _ F _ _ l2 _ _ l3 a4 _ _ ([] : List (K9)) X Y Z _ ?side1 ?side2 ?side3 ?side4 ?side5 ?side6 ?side7 ?side8 ?side9 ?side10 ?side11 ?side12 ?side13 ?side14 aC.1).mono ?_); (case side1 => exact Kd.Ec S.1 (Gg HB.1 d.1 i.1 t.1)); (case side2 => exact O.1); (case side3 => exact Kd.Ec T.1 (Gg HB.1 d.1 i.1 t.1)); (case side4 => exact P.1); (case side5 => refine (Kd.BH (e := 3) (base := w.heap.size) (ok := fun k_ => True) (n := E.length) (c := L) ?_).2.2; exact (pr_ (H5 l.1 j.1))); (case side6 => exact (Kd.BH l.1).2.1); (case side7 => refine (Kd.GX (e := 81) (base := w.heap.size) (ok := fun k_ => some k_ ≠ (.slice M E.length L : Value).ownBlock) (n := F.length) (c := U) ?_).2.2; exact (ps_ (L' q.1 j.1))); (case side8 => exact (Kd.GX q.1).2.1); (case side9 => exact Kd.Ec aI.1 (Gg HB.1 d.1 i.1 t.1)); (case side10 => exact aF.1); (case side11 => exact Kd.Ec aJ.1 (Gg HB.1 d.1 i.1 t.1)); (case side12 => exact aG.1); (case side13 => exact Kd.Xa _ _); (case side14 => exact Nat.le_refl _); rintro e bg ⟨bc, rfl, K, hb⟩; refine ⟨_, rfl, ?_⟩; have _ := Q_ (Kd.B0 (pr_ (H5 l.1 j.1)) (Kd.BJ K) hb); have _ := Q_ (Kd.H2 (ps_ (L' q.1 j.1)) (Kd.BJ K) hb); have _ := Q_ (Kd.BV (Kd.B8 K (Kd.Dj (pr_ (H5 l.1 j.1)))) (AZ (Gg HB.1 d.1 i.1 t.1))); have _ := Q_ (Ej (g := aj) (o := .cells #[.slice z m.length B, .slice A p.length D] 53 (0, 0)) (pp_ a.1) hb); have _ := Q_ (Ej (g := J) (o := .cells #[.bool false, .int .i64 0, .slice none 0 0] 28 (0, 0)) (pp_ b.1) hb); have _ := Q_ (Ej (g := ak) (o := .cells #[.slice M E.length L, .slice ab F.length U] 53 (0, 0)) (pp_ j.1) hb); have _ := Q_ (AD (Gg HB.1 d.1 i.1 t.1) hb); clear l q a b j HB; rename_i l q Q a b j HB; (try clear hb K); have aS := KW b.1; obtain ⟨al, an, aq⟩ := Kd.Bo Q.1; subst aq))
 refine bodyPost_ret (results_cell_row rfl _ _ J 28 #[.bool X, .int .i64 Y, .slice al Z.length an] (0, 0) _ rfl (pp_ b.1) Tryz.underlying28 rfl (by kernel_rfl)) rfl ?_
 exact ⟨_, er_, pr_ (Kd.Ax (Yq Q.1 b.1) (fun _ hk => trivial)), Gg HB.1 d.1 i.1 t.1⟩
def Be.l0 : Nat → List Int → List Int → Int → Int → Option (List Int)
 | 0, _, _, _, _ => none
 | k + 1, e, b, c, a => if a < c then (if 0 ≤ a then (if a < (b.length : Int) then ((Cb.f (rd b a) 0 255).bind fun d => (if d = true then (if e.length < 17592186044416 then (Be.l0 k (e ++ [wrap64 (1000 + (rd b a))]) b c (wrap64 (a + 1))) else (none)) else (Be.l0 k e b c (wrap64 (a + 1))))) else (none)) else (none)) else (some e)
def Be.f (k : Nat) (b : List Int) (c : List (S81)) (d : List Int) (e : List (S81)) : Option (List Int) := (BI.f k b d).bind fun g => ((BO.f k c).bind fun h => ((BO.f k e).bind fun i => ((BI.f k h i).bind fun a => (Be.l0 k g a (a.length : Int) 0))))
theorem Be.mono_l : ∀ k, (∀ a b c d, LeO (Be.l0 k a b c d) (Be.l0 (k + 1) a b c d))
 | 0 => fun _ _ _ _ r h => by simp [Be.l0] at h
 | k + 1 => by
  have ih0 := Be.mono_l k
  ·intro a b c d
   unfold Be.l0
   exact Jz ih0 BO.mono BI.mono
theorem Be.mono : ∀ a b c d k, LeO (Be.f k a b c d) (Be.f (k + 1) a b c d) := by
 intro a b c d k
 have ih0 := Be.mono_l k
 unfold Be.f
 exact Jz ih0 BO.mono BI.mono
def Be.T2 : Bool × List (List Nat × List Nat) := (true, [([], []), ([0], [0]), ([1], [1]), ([], []), ([3], [3]), ([4, 2], [4]), ([2, 5, 5], [2, 5]), ([6], [6]), ([], [])])
def Be.B2 : List Nat := [0, 1, 3, 0, 8, 31, 63, 127, 0]
theorem Be.tab2 : rtab .any (opsOf Tryz.f74 2) = Be.T2 := by kernel_rfl
theorem Be.bits2 : Fa Be.T2.2 Be.B2 = true := by kernel_rfl
theorem Be.calls (k : Nat) (z : Option Addr) (F : Nat) (q : List Int) (A : Option Addr) (G : Nat) (s : List (S81)) (B : Option Addr) (I : Nat) (t : List Int) (D : Option Addr) (J : Nat) (u : List (S81)) (r : List Int) (w : World) (hr0_0 : Kd.C (Kd.int .i64) w z q.length q) (Z : q.length ≤ F) (hr0_1 : Kd.C k81 w A s.length s) (aa : s.length ≤ G) (hr1_0 : Kd.C (Kd.int .i64) w B t.length t) (ab : t.length ≤ I) (hr1_1 : Kd.C k81 w D u.length u) (ac : u.length ≤ J) (h : Be.f k q s t u = some r) :
  Calls Tryz.prog 74 #[.agg #[.slice z q.length F, .slice A s.length G], .agg #[.slice B t.length I, .slice D u.length J]] w fun e w' => ∃ v0_ : Value, e = .returned (v0_) ∧ Kd.R (Kd.int .i64) 3 w' w.heap.size (fun _ => True) v0_ r ∧ Below w.heap.size w w' := by
 have hu53 := Tryz.underlying53
 have az := Q_ hr0_0
 have au := Q_ Z
 clear hr0_0 Z
 have aA := Q_ hr0_1
 have av := Q_ aa
 clear hr0_1 aa
 have aC := Q_ hr1_0
 have aw := Q_ ab
 clear hr1_0 ab
 have aD := Q_ hr1_1
 have ax := Q_ ac
 clear hr1_1 ac
 have HB := Q_ (Below.refl w.heap.size w)
 unfold Be.f at h
 have H := h
 clear h
 obtain ⟨Q, A3, H⟩ := bs_ H
 (try dsimp only at H)
 obtain ⟨T, A4, H⟩ := bs_ H
 (try dsimp only at H)
 obtain ⟨U, A5, H⟩ := bs_ H
 (try dsimp only at H)
 obtain ⟨j, A6, H⟩ := bs_ H
 replace H : (Be.l0 k Q j (j.length : Int) 0) = some r := H
 have H' := Q_ H
 clear H
 go_enter Tryz.func74, Tryz.ntmps74
 try go_wp2_with (first | (refine bg_ 2 #[.slice z q.length F, .slice A s.length G] 53 ?_; intro O hg w7 hbox hb; have _ := Q_ (AD (pb_ HB.1) hb); have a := Q_ (hbox); have aq := Q_ (gw_ (w := w) hg (pb_ HB.1)); have l := aq; clear HB; rename_i HB; clear hb hbox hg) | (refine bg_ 3 #[.slice B t.length I, .slice D u.length J] 53 ?_; intro P hg w8 hbox hb; have _ := Q_ (bb_ a.1 hb); have _ := Q_ (AD (CM HB.1 l.1) hb); have c := Q_ (hbox); have ar := Q_ (gw_ (w := w) hg (CM HB.1 l.1)); have m := ar; have E := Q_ (nb_ hg a); have V := Q_ E.1.symm; clear a HB; rename_i a HB; clear hb hbox hg; have a0 := E.1; have a1 := V.1; have aW := Ew a.1; have aX := Ew c.1) | (refine gk_ 54 12 Tryz.func54 #[.slice z q.length F, .slice B t.length I] ?_; (with_reducible refine (BI.calls k _ _ q _ _ t Q _ (cb_ az HB) au.1 (cb_ aC HB) aw.1 A3.1).mono ?_); rintro e aZ ⟨a3, rfl, v, hb⟩; refine ⟨_, rfl, ?_⟩; have _ := Q_ (Kd.BV v (AZ (Dw HB.1 l.1 m.1))); have _ := Q_ (bb_ a.1 hb); have _ := Q_ (bb_ c.1 hb); have _ := Q_ (AD (Dw HB.1 l.1 m.1) hb); clear a c HB; rename_i d a c HB; (try clear hb v)))
 have _ := Q_ (Kd.EU d.1)
 have _ := Q_ (Bq a.1)
 have _ := Q_ (Bq c.1)
 have _ := Q_ (Cm HB.1)
 clear d a c HB
 rename_i d a c HB
 refine sw_ (S := fun w' => w'.cell? ⟨O, 0, none⟩ = some (.slice z q.length F) ∧ w'.cell? ⟨O, 1, none⟩ = some (.slice A s.length G) ∧ w'.cell? ⟨P, 0, none⟩ = some (.slice B t.length I) ∧ w'.cell? ⟨P, 1, none⟩ = some (.slice D u.length J)) 9 Be.tab2 Be.bits2 ⟨(BM a.1 0).trans rfl, (BM a.1 1).trans rfl, (BM c.1 0).trans rfl, (BM c.1 1).trans rfl⟩ (fun hHeld HT_ HW_ => ?_)
 generalize aZ.drew = bc at d a c HB hHeld ⊢
 refine Ba 0 13 9 1 ?_
 refine Ba 3 16 9 9 ?_
 refine Ba 8 21 9 265 ?_
 refine E1 1 14 9 267 hHeld ?_
 refine E1 4 17 9 283 hHeld ?_
 refine on_ 2 (some 15) (tm_ 9 287) HT_ (fun K hK => ?_)
 refine gs_ Tryz.func58 #[.slice A s.length G] ?_
 with_reducible refine (BO.calls k _ _ s T _ (cb_ aA HB) av.1 A4.1).mono ?_
 rintro e bd ⟨a4, rfl, v, hb⟩
 refine ⟨_, rfl, ?_⟩
 have _ := Q_ (Kd.B0 (pr_ d.1) (Kd.BJ v) hb)
 have _ := Q_ (Kd.BV (Kd.B8 v (Kd.Dj (pr_ d.1))) (AZ (Dw HB.1 l.1 m.1)))
 have _ := Q_ (bb_ a.1 hb)
 have _ := Q_ (bb_ c.1 hb)
 have _ := Q_ (AD (Dw HB.1 l.1 m.1) hb)
 clear d a c HB
 rename_i d p a c HB
 (try clear hb v)
 refine hK.out _ _ (Ht a.1 c.1) (fun hHeld => ?_)
 clear hK K
 refine no_ (some 15) ?_
 refine on_ 5 (some 18) (tm_ 9 319) HT_ (fun K hK => ?_)
 refine gs_ Tryz.func58 #[.slice D u.length J] ?_
 with_reducible refine (BO.calls k _ _ u U _ (cb_ aD HB) ax.1 A5.1).mono ?_
 rintro e be ⟨a5, rfl, v, hb⟩
 refine ⟨_, rfl, ?_⟩
 have _ := Q_ (Kd.B0 (pr_ d.1) (Kd.BJ v) hb)
 have _ := Q_ (Kd.B0 (pr_ p.1) (Kd.BJ v) hb)
 have _ := Q_ (Kd.BV (Kd.B8 (Kd.B8 v (Kd.Dj (pr_ d.1))) (Kd.Dj (pr_ p.1))) (AZ (Dw HB.1 l.1 m.1)))
 have _ := Q_ (bb_ a.1 hb)
 have _ := Q_ (bb_ c.1 hb)
 have _ := Q_ (AD (Dw HB.1 l.1 m.1) hb)
 clear d p a c HB
 rename_i d p x a c HB
 (try clear hb v)
 obtain ⟨aJ, aM, al⟩ := Kd.Bo p.1
 (first | subst al | (injection al with f1_ f2_ f3_; have f4_ := f1_.symm; have f5_ := f3_.symm; clear f1_ f2_ f3_; subst f4_; subst f5_))
 obtain ⟨aK, aN, am⟩ := Kd.Bo x.1
 (first | subst am | (injection am with f1_ f2_ f3_; have f4_ := f1_.symm; have f5_ := f3_.symm; clear f1_ f2_ f3_; subst f4_; subst f5_))
 refine hK.out _ _ (Ht a.1 c.1) (fun hHeld => ?_)
 clear hK K
 refine no_ (some 18) ?_
 refine on_ 6 (some 19) (tm_ 9 383) HT_ (fun K hK => ?_)
 refine gs_ Tryz.func54 #[.slice aJ T.length aM, .slice aK U.length aN] ?_
 with_reducible refine (BI.calls k _ _ T _ _ U j _ ?side1 ?side2 ?side3 ?side4 A6.1).mono ?_
 (case side1 => exact pc_ ((Kd.BH p.1).2.2))
 (case side2 => exact (Kd.BH p.1).2.1)
 (case side3 => exact pc_ ((Kd.BH x.1).2.2))
 (case side4 => exact (Kd.BH x.1).2.1)
 rintro e bf ⟨a6, rfl, v, hb⟩
 refine ⟨_, rfl, ?_⟩
 have _ := Q_ (Kd.B0 (pr_ d.1) (Kd.BJ v) hb)
 have _ := Q_ (Kd.B0 (pr_ p.1) (Kd.BJ v) hb)
 have _ := Q_ (Kd.B0 (pr_ x.1) (Kd.BJ v) hb)
 have _ := Q_ (Kd.BV (Kd.B8 (Kd.B8 (Kd.B8 v (Kd.Dj (pr_ d.1))) (Kd.Dj (pr_ p.1))) (Kd.Dj (pr_ x.1))) (AZ (Dw HB.1 l.1 m.1)))
 have _ := Q_ (bb_ a.1 hb)
 have _ := Q_ (bb_ c.1 hb)
 have _ := Q_ (AD (Dw HB.1 l.1 m.1) hb)
 clear d p x a c HB
 rename_i d p x X a c HB
 (try clear hb v)
 obtain ⟨ak, Y, an⟩ := Kd.Bo X.1
 (first | subst an | (injection an with f1_ f2_ f3_; have f4_ := f1_.symm; have f5_ := f3_.symm; clear f1_ f2_ f3_; subst f4_; subst f5_))
 refine hK.out _ _ (Ht a.1 c.1) (fun hHeld => ?_)
 clear hK K
 refine no_ (some 19) ?_
 refine Ba 7 20 9 511 ?_
 refine G8 (E0 HT_.1 (by kernel_rfl)) ?_
 try go_wp2
 go_loopg [5, 21] k (fun kq v5 aY w' => ∃ (L : List Int) (i : Int), aY = .int .i64 i ∧ Aside0 (Be.l0 kq L j (j.length : Int) i = some r) ∧ Aside0 (kq ≤ k) ∧ Aside0 (Kd.R (Kd.int .i64) 3 w' w.heap.size (fun k_ => some k_ ≠ ((.slice ak j.length Y) : Value).ownBlock) v5 L) ∧ Aside0 (Kd.R (Kd.int .i64) 3 w' w.heap.size (fun k_ => some k_ ≠ (v5 : Value).ownBlock) (.slice ak j.length Y) j) ∧ Aside0 (w'.heap[O]? = some (.cells #[(.slice z q.length F), (.slice A s.length G)] 53 (0, 0))) ∧ Aside0 (w'.heap[P]? = some (.cells #[(.slice B t.length I), (.slice D u.length J)] 53 (0, 0))) ∧ Aside0 (Below w.heap.size w w'))
 case atStart => exact ⟨(Q), (0), el_, H', ⟨Nat.le_refl _⟩, ⟨pr_ (Kd.Ax d.1 (fun _ hk => hk.2))⟩, ⟨pr_ (Kd.Ax X.1 (fun _ hk => hk.1.1.2))⟩, ⟨pk_ a.1⟩, ⟨pk_ c.1⟩, ⟨Dw HB.1 l.1 m.1⟩⟩
 clear H'
 obtain ⟨L, i, rfl, HA, af, M, y, a, c, HB⟩ := hrel
 rcases gk with _ | k1
 ·exact absurd HA.1 (by simp [Be.l0])
 have H := HA.1
 clear HA
 simp only [Be.l0] at H
 by_cases W : i < (j.length : Int)
 rotate_left
 ·rw [if_neg W] at H
  have aI := decide_eq_false W
  clear W
  obtain rfl := Option.some.inj H
  go_wp2
  go_ret
  exact ⟨_, er_, pr_ (Kd.Ax M.1 (fun _ hk => trivial)), Dw HB.1 l.1 m.1⟩
 rw [if_pos W] at H
 have aI := decide_eq_true W
 clear W
 by_cases ag : 0 ≤ i
 rotate_left
 ·rw [if_neg ag] at H
  exact nn_ H
 rw [if_pos ag] at H
 have aU := decide_eq_true ag
 clear ag
 by_cases ah : i < (j.length : Int)
 rotate_left
 ·rw [if_neg ah] at H
  exact nn_ H
 rw [if_pos ah] at H
 have aV := decide_eq_true ah
 clear ah
 obtain ⟨ao, aT, H⟩ := bs_ H
 (try dsimp only at H)
 have HS_ := Q_ H
 clear H
 have ad : 0 ≤ (i : Int) := dt_
 have ae : i < (j.length : Int) := dt_
 obtain ⟨aH, aQ, aR⟩ := Kd.GG (Kd.BH y.1).2.2 i ad ae
 cases aQ
 replace ad := eq_true ad
 replace ae := eq_true ae
 go_upto_if 26 with (first | (refine gk_ 53 26 Tryz.func53 #[.int .i64 (rd j i), .int .i64 0, .int .i64 255] ?_; (with_reducible refine (Cb.calls (rd j i) 0 255 ao _ aT.1).mono ?_); rintro e w' ⟨rfl, ⟨nd, rfl⟩⟩; refine ⟨_, rfl, ?_⟩))
 (try simp only [Act.put, s1_, s2_, s3_])
 have H := HS_.1
 clear HS_
 by_cases ai : ao = true
 rotate_left
 ·replace ai := bf_ ai
  subst ai
  rw [if_neg ff_] at H
  have H' := Q_ H
  clear H
  go_wp2
  go_roundg k1
  case measure => have := af.1; omega
  case rel => exact ⟨(L), (wrap64 (i + 1)), el_, H', ⟨by have := af.1; omega⟩, ⟨pr_ M.1⟩, ⟨pr_ y.1⟩, ⟨pk_ a.1⟩, ⟨pk_ c.1⟩, ⟨Dw HB.1 l.1 m.1⟩⟩
 subst ai
 rw [if_pos rfl] at H
 by_cases aj : L.length < 17592186044416
 rotate_left
 ·rw [if_neg aj] at H
  exact nn_ H
 rw [if_pos aj] at H
 have aE := Q_ aj
 clear aj
 obtain ⟨ap, hy699⟩ : ∃ y_ : List Int, y_ = (L ++ [wrap64 (1000 + (rd j i))]) := ⟨_, rfl⟩
 replace H : (Be.l0 k1 ap j (j.length : Int) (wrap64 (i + 1))) = some r := hb_ hy699 H
 have aG := Q_ hy699
 clear hy699
 have H' := Q_ H
 clear H
 go_wp2_with (first | ((with_reducible refine FO (b := .append) (xs := #[.tmp 27, .tmp 30]) rfl ?_); at_builtin; refine Kd.I4 (Kd.int .i64) (w0 := w) w.heap.size rfl (.tmp 27) (.tmp 30) 22 3 (.int .i64 0) 8 rfl Tryz.underlying22 HI rfl (by decide) (by omega) u5 L (wrap64 (1000 + (rd j i))) [.int .i64 (wrap64 (1000 + (rd j i)))] (fun k_ => some k_ ≠ (.slice (some aH) j.length Y : Value).ownBlock) (fun _ => False) rfl rfl ?aP (fun _ hk => hk.elim) ?aF ?aO ?aB ?aS ?aL ?_; (case aP => exact rfl); (case aB => exact (Dw HB.1 l.1 m.1)); (case aF => exact (fun k_ hk => Kd.fresh' (Kd.Dj (pr_ y.1)) k_ hk)); (case aO => exact (pr_ M.1)); (case aS => exact (AZ (Dw HB.1 l.1 m.1))); (case aL => have := aE.1; omega); intro a7 bg ho hb hg hat; rw [← aG.1] at ho; have _ := Q_ (Kd.Ho (ok := (fun _ => True)) (by (with_reducible repeat (first | apply Kd.Ef | apply Kd.Ed | apply Kd.EU)); exact Kd.Ax y.1 (fun _ hk => ⟨trivial, hk⟩)) hg hat); have _ := Q_ (Eb (g := O) (o := .cells #[.slice z q.length F, .slice A s.length G] 53 (0, 0)) (pk_ a.1) hg (Kd.JB M.1 a.1 (by decide))); have _ := Q_ (Eb (g := P) (o := .cells #[.slice B t.length I, .slice D u.length J] 53 (0, 0)) (pk_ c.1) hg (Kd.JB M.1 c.1 (by decide))); have _ := Q_ (hb); have ay := Q_ (ho); clear y a c HB M; rename_i y a c HB; clear ho hb hg hat))
 go_roundg k1
 case measure => have := af.1; omega
 case rel => exact ⟨(ap), (wrap64 (i + 1)), el_, H', ⟨by have := af.1; omega⟩, ⟨pr_ ay.1⟩, ⟨pr_ (Kd.Ax y.1 (fun _ hk => hk.2))⟩, ⟨pk_ a.1⟩, ⟨pk_ c.1⟩, ⟨Dw HB.1 l.1 m.1⟩⟩
def Ei.f (k : Nat) (c : List Int) (d : List (S81)) (g : List (S75)) (i : List Int) (j : List Int) (h : Int) : Option (Bool × Int × List Int × Int × List Int) := (EN.f k c d g).bind fun a => (if a.2.2.2 = true then ((EP.f k a.1 a.2.1 g i j h).bind fun b => ((Be.f k c d a.1 a.2.1).bind fun e => (some (b.1, b.2.1, b.2.2, a.2.2.1, e)))) else (some (false, 0, ([] : List Int), a.2.2.1, ([] : List Int))))
theorem Ei.mono : ∀ a b c d e g k, LeO (Ei.f k a b c d e g) (Ei.f (k + 1) a b c d e g) := by
 intro a b c d e g k
 unfold Ei.f
 exact Jz EP.mono Be.mono EN.mono
def Ei.T4 : Bool × List (List Nat × List Nat) := (true, [([], []), ([], []), ([], []), ([], []), ([], []), ([0, 1, 2, 3, 4], [0, 1, 2, 3, 4]), ([], []), ([], []), ([], []), ([7, 8, 5], [7, 8]), ([5, 6, 9], [5, 6, 9]), ([10, 9, 0, 1, 2, 3, 4, 5, 6, 7, 8, 9, 10], [10])])
def Ei.B4 : List Nat := [0, 0, 0, 0, 0, 31, 0, 0, 0, 447, 1023, 2047]
theorem Ei.tab4 : rtab .any (opsOf Tryz.f34 4) = Ei.T4 := by kernel_rfl
theorem Ei.bits4 : Fa Ei.T4.2 Ei.B4 = true := by kernel_rfl
theorem Ei.calls (k : Nat) (I : Option Addr) (M : Nat) (v : List Int) (J : Option Addr) (O : Nat) (x : List (S81)) (A1 : Option Addr) (c1 : Nat) (l1 : List (S75)) (A2 : Option Addr) (c2 : Nat) (l2 : List Int) (A3 : Option Addr) (c3 : Nat) (l3 : List Int) (a4 : Int) (r1 : Bool) (r2 : Int) (r3 : List Int) (r4 : Int) (r5 : List Int) (w : World) (hr0_0 : Kd.C (Kd.int .i64) w I v.length v) (aj : v.length ≤ M) (hr0_1 : Kd.C k81 w J x.length x) (ak : x.length ≤ O) (hr1 : Kd.C k75 w A1 l1.length l1) (aE : l1.length ≤ c1) (hr2 : Kd.C (Kd.int .i64) w A2 l2.length l2) (aF : l2.length ≤ c2) (hr3 : Kd.C (Kd.int .i64) w A3 l3.length l3) (aG : l3.length ≤ c3) (h : Ei.f k v x l1 l2 l3 a4 = some (r1, r2, r3, r4, r5)) :
  Calls Tryz.prog 34 #[.agg #[.slice I v.length M, .slice J x.length O], .slice A1 l1.length c1, .slice A2 l2.length c2, .slice A3 l3.length c3, .int .i64 a4] w fun e w' => ∃ v2_ v4_ : Value, e = .returned (.agg #[.bool r1, .int .i64 r2, v2_, .int .i64 r4, v4_]) ∧ Kd.R (Kd.int .i64) 3 w' w.heap.size (fun k_ => some k_ ≠ (v4_ : Value).ownBlock) v2_ r3 ∧ Kd.R (Kd.int .i64) 3 w' w.heap.size (fun k_ => some k_ ≠ (v2_ : Value).ownBlock) v4_ r5 ∧ Below w.heap.size w w' := by
 have hu53 := Tryz.underlying53
 have hu30 := Tryz.underlying30
 have af := Q_ hr0_0
 have ac := Q_ aj
 clear hr0_0 aj
 have ag := Q_ hr0_1
 have ad := Q_ ak
 clear hr0_1 ak
 have aA := Q_ hr1
 have az := Q_ aE
 clear hr1 aE
 have bg := Q_ hr2
 have be := Q_ aF
 clear hr2 aF
 have bh := Q_ hr3
 have bf := Q_ aG
 clear hr3 aG
 have HB := Q_ (Below.refl w.heap.size w)
 unfold Ei.f at h
 have H := h
 clear h
 have HS_ := Q_ H
 clear H
 go_enter Tryz.func34, Tryz.ntmps34
 go_upto_region 1 with (first | (refine bg_ 5 #[.slice I v.length M, .slice J x.length O] 53 ?_; intro Y hg w6 hbox hb; have _ := Q_ (AD (pb_ HB.1) hb); have g := Q_ (hbox); have aw := Q_ (gw_ (w := w) hg (pb_ HB.1)); have r := aw; clear HB; rename_i HB; clear hb hbox hg) | (refine bg_ 10 #[.bool false, .int .i64 0, .slice none 0 0, .int .i64 0, .slice none 0 0] 30 ?_; intro a hg w7 hbox hb; have _ := Q_ (bb_ g.1 hb); have _ := Q_ (AD (CM HB.1 r.1) hb); have c := Q_ (hbox); have ax := Q_ (gw_ (w := w) hg (CM HB.1 r.1)); have t := ax; have b := Q_ (nb_ hg g); have q := Q_ b.1.symm; clear g HB; rename_i g HB; clear hb hbox hg))
 (try simp only [Act.put, s1_, s2_, s3_])
 have H := HS_.1
 clear HS_
 obtain ⟨⟨s, u, Q, av⟩, A8, H⟩ := bs_ H
 (try dsimp only at H)
 have HS_ := Q_ H
 clear H
 have bB := b.1
 have bC := q.1
 have bk := Ew g.1
 go_upto_if 22 with (first | (refine gk_ 72 17 Tryz.func72 #[.agg #[.slice I v.length M, .slice J x.length O], .slice A1 l1.length c1] ?_; (with_reducible refine (EN.calls k _ _ v _ _ x _ _ l1 s u Q av _ (cb_ af HB) ac.1 (cb_ ag HB) ad.1 (cb_ aA HB) az.1 A8.1).mono ?_); rintro e bN ⟨bI, bJ, rfl, G, a1, hb⟩; refine ⟨_, rfl, ?_⟩; have _ := Q_ (Kd.BV G (AZ (Dw HB.1 r.1 t.1))); have _ := Q_ (Kd.Fh a1 (AZ (Dw HB.1 r.1 t.1))); have _ := Q_ (bb_ g.1 hb); have _ := Q_ (bb_ c.1 hb); have _ := Q_ (AD (Dw HB.1 r.1 t.1) hb); clear g c HB; rename_i i l g c HB; (try clear hb G a1)) | (refine bg_ 11 #[.slice none 0 0, .slice none 0 0] 53 ?_; intro o hg Z hbox hb; have _ := Q_ (Kd.Bv (pr_ i.1) hb); have _ := Q_ (Kd.FB (ps_ l.1) hb); have _ := Q_ (bb_ g.1 hb); have _ := Q_ (bb_ c.1 hb); have _ := Q_ (AD (Dw HB.1 r.1 t.1) hb); have j := Q_ (hbox); have ay := Q_ (gw_ (w := w) hg (Dw HB.1 r.1 t.1)); have D := ay; have L := Q_ (nb_ hg g); have W := Q_ L.1.symm; have m := Q_ (nb_ hg c); have d := Q_ m.1.symm; clear i l g c HB; rename_i i l g c HB; clear hb hbox hg; obtain ⟨y, z, aC⟩ := Kd.Bo i.1; subst aC; have bs := W.1; have bw := L.1; have bt := d.1; have bx := m.1; have bl := Ew j.1; obtain ⟨A, B, aD⟩ := Kd.Gv l.1; subst aD))
 (try simp only [Act.put, s1_, s2_, s3_])
 have H := HS_.1
 clear HS_
 by_cases ao : av = true
 rotate_left
 ·replace ao := bf_ ao
  subst ao
  rw [if_neg ff_] at H
  simp only [Option.some.injEq, Prod.mk.injEq] at H
  obtain ⟨rfl, rfl, rfl, rfl, rfl⟩ := H
  have bu := q.1
  have bz := b.1
  have bv := m.1
  have bA := d.1
  have bm := PO c.1
  go_wp2
  refine bodyPost_ret (results_cell_row rfl _ _ a 30 #[.bool false, .int .i64 0, .slice none 0 0, .int .i64 Q, .slice none 0 0] (0, 0) _ rfl (pp_ c.1) Tryz.underlying30 rfl (by kernel_rfl)) rfl ?_
  exact ⟨_, _, er_, nl_, nl_, Gg HB.1 r.1 t.1 D.1⟩
 subst ao
 rw [if_pos rfl] at H
 obtain ⟨⟨T, U, V⟩, bb, H⟩ := bs_ H
 (try dsimp only at H)
 obtain ⟨P, bc, H⟩ := bs_ H
 replace H : (some (T, U, V, Q, P)) = some (r1, r2, r3, r4, r5) := H
 simp only [Option.some.injEq, Prod.mk.injEq] at H
 obtain ⟨rfl, rfl, rfl, rfl, rfl⟩ := H
 try go_wp2
 have n0_ : Aside0 (Kd.R (Kd.int .i64) 3 ((Z.setCell ⟨o, 0, none⟩ (.slice y s.length z)).setCell ⟨o, 1, none⟩ (.slice A u.length B)) w.heap.size (fun _ => True) (.slice y s.length z) s) := ⟨pr_ (Kd.Ax (H5 i.1 j.1) (fun _ hk => trivial))⟩
 have n1_ : Aside0 (Kd.S k81 81 ((Z.setCell ⟨o, 0, none⟩ (.slice y s.length z)).setCell ⟨o, 1, none⟩ (.slice A u.length B)) w.heap.size (fun k_ => some k_ ≠ (.slice y s.length z : Value).ownBlock) (.slice A u.length B) u) := ⟨ps_ (L' l.1 j.1)⟩
 have n2_ : Aside0 (((Z.setCell ⟨o, 0, none⟩ (.slice y s.length z)).setCell ⟨o, 1, none⟩ (.slice A u.length B)).heap[Y]? = some (.cells #[.slice I v.length M, .slice J x.length O] 53 (0, 0))) := ⟨pp_ g.1⟩
 have n3_ : Aside0 (((Z.setCell ⟨o, 0, none⟩ (.slice y s.length z)).setCell ⟨o, 1, none⟩ (.slice A u.length B)).heap[a]? = some (.cells #[.bool false, .int .i64 0, .slice none 0 0, .int .i64 0, .slice none 0 0] 30 (0, 0))) := ⟨pp_ c.1⟩
 have n4_ : Aside0 (((Z.setCell ⟨o, 0, none⟩ (.slice y s.length z)).setCell ⟨o, 1, none⟩ (.slice A u.length B)).heap[o]? = some (.cells #[.slice y s.length z, .slice A u.length B] 53 (0, 0))) := ⟨pp_ j.1⟩
 have n5_ : Aside0 (Below w.heap.size w ((Z.setCell ⟨o, 0, none⟩ (.slice y s.length z)).setCell ⟨o, 1, none⟩ (.slice A u.length B))) := ⟨Gg HB.1 r.1 t.1 D.1⟩
 (try clear i)
 (try clear l)
 (try clear g)
 (try clear c)
 (try clear j)
 (try clear HB)
 generalize ((Z.setCell ⟨o, 0, none⟩ (.slice y s.length z)).setCell ⟨o, 1, none⟩ (.slice A u.length B)) = am at n0_ n1_ n2_ n3_ n4_ n5_ ⊢
 (try (rw [show am.drewN nd = am.drewN nd from rfl]; replace n0_ := Q_ (Kd.Ed n0_.1 nd); replace n1_ := Q_ (Kd.Fz n1_.1 nd); replace n2_ := Q_ (E2 n2_.1 nd); replace n3_ := Q_ (E2 n3_.1 nd); replace n4_ := Q_ (E2 n4_.1 nd); replace n5_ := Q_ (D5 n5_.1 nd); generalize am.drewN nd = am at n0_ n1_ n2_ n3_ n4_ n5_ ⊢))
 have i := n0_
 have l := n1_
 have g := n2_
 have c := n3_
 have j := n4_
 have HB := n5_
 clear n0_ n1_ n2_ n3_ n4_ n5_
 have _ := Q_ (Kd.EU i.1)
 have _ := Q_ (Kd.Gz l.1)
 have _ := Q_ (Bq g.1)
 have _ := Q_ (Bq c.1)
 have _ := Q_ (Bq j.1)
 have _ := Q_ (Cm HB.1)
 clear i l g c j HB
 rename_i i l g c j HB
 refine sw_ (S := fun w' => w'.cell? ⟨o, 0, none⟩ = some (.slice y s.length z) ∧ w'.cell? ⟨o, 1, none⟩ = some (.slice A u.length B) ∧ w'.cell? ⟨Y, 0, none⟩ = some (.slice I v.length M) ∧ w'.cell? ⟨Y, 1, none⟩ = some (.slice J x.length O)) 12 Ei.tab4 Ei.bits4 ⟨(BM j.1 0).trans rfl, (BM j.1 1).trans rfl, (BM g.1 0).trans rfl, (BM g.1 1).trans rfl⟩ (fun hHeld HT_ HW_ => ?_)
 generalize am.drew = bO at i l g c j HB hHeld ⊢
 refine Ba 1 26 12 2 ?_
 refine Ba 2 27 12 6 ?_
 refine Ba 3 28 12 14 ?_
 refine Ba 4 29 12 30 ?_
 refine Ba 6 31 12 94 ?_
 refine E1 0 25 12 95 hHeld ?_
 refine E1 7 32 12 223 hHeld ?_
 refine E1 8 33 12 479 hHeld ?_
 refine on_ 5 (some 30) (tf_ 9 12) HT_ (fun K hK => ?_)
 refine gs_ Tryz.func73 #[.agg #[.slice y s.length z, .slice A u.length B], .slice A1 l1.length c1, .slice A2 l2.length c2, .slice A3 l3.length c3, .int .i64 a4] ?_
 with_reducible refine (EP.calls k _ _ s _ _ u _ _ l1 _ _ l2 _ _ l3 a4 T U V _ ?side1 ?side2 ?side3 ?side4 (cb_ aA HB) az.1 (cb_ bg HB) be.1 (cb_ bh HB) bf.1 bb.1).mono ?_
 (case side1 => exact pc_ ((Kd.BH i.1).2.2))
 (case side2 => exact (Kd.BH i.1).2.1)
 (case side3 => exact pc_ ((Kd.GX l.1).2.2))
 (case side4 => exact (Kd.GX l.1).2.1)
 rintro e bP ⟨bK, rfl, G, hb⟩
 refine ⟨_, rfl, ?_⟩
 have _ := Q_ (Kd.B0 (pr_ i.1) (Kd.BJ G) hb)
 have _ := Q_ (Kd.H2 (ps_ l.1) (Kd.BJ G) hb)
 have _ := Q_ (Kd.BV (Kd.B8 G (Kd.Dj (pr_ i.1))) (AZ (Gg HB.1 r.1 t.1 D.1)))
 have _ := Q_ (bb_ g.1 hb)
 have _ := Q_ (bb_ c.1 hb)
 have _ := Q_ (bb_ j.1 hb)
 have _ := Q_ (AD (Gg HB.1 r.1 t.1 D.1) hb)
 clear i l g c j HB
 rename_i i l F g c j HB
 (try clear hb G)
 refine hK.out _ _ (Ht j.1 g.1) (fun hHeld => ?_)
 clear hK K
 refine no_ (some 30) ?_
 refine on_ 9 (some 34) (tf_ 10 12) HT_ (fun K hK => ?_)
 refine gs_ Tryz.func74 #[.agg #[.slice I v.length M, .slice J x.length O], .agg #[.slice y s.length z, .slice A u.length B]] ?_
 with_reducible refine (Be.calls k _ _ v _ _ x _ _ s _ _ u P _ (cb_ af HB) ac.1 (cb_ ag HB) ad.1 ?side5 ?side6 ?side7 ?side8 bc.1).mono ?_
 (case side5 => exact pc_ ((Kd.BH i.1).2.2))
 (case side6 => exact (Kd.BH i.1).2.1)
 (case side7 => exact pc_ ((Kd.GX l.1).2.2))
 (case side8 => exact (Kd.GX l.1).2.1)
 rintro e an ⟨bL, rfl, G, hb⟩
 refine ⟨_, rfl, ?_⟩
 have _ := Q_ (Kd.B0 (pr_ i.1) (Kd.BJ G) hb)
 have _ := Q_ (Kd.H2 (ps_ l.1) (Kd.BJ G) hb)
 have _ := Q_ (Kd.B0 (pr_ F.1) (Kd.BJ G) hb)
 have _ := Q_ (Kd.BV (Kd.B8 (Kd.B8 G (Kd.Dj (pr_ i.1))) (Kd.Dj (pr_ F.1))) (AZ (Gg HB.1 r.1 t.1 D.1)))
 have _ := Q_ (bb_ g.1 hb)
 have _ := Q_ (bb_ c.1 hb)
 have _ := Q_ (bb_ j.1 hb)
 have _ := Q_ (AD (Gg HB.1 r.1 t.1 D.1) hb)
 clear i l F g c j HB
 rename_i i l F ae g c j HB
 (try clear hb G)
 obtain ⟨aa, ah, ap⟩ := Kd.Bo ae.1
 (first | subst ap | (injection ap with f1_ f2_ f3_; have f4_ := f1_.symm; have f5_ := f3_.symm; clear f1_ f2_ f3_; subst f4_; subst f5_))
 obtain ⟨ab, ai, aq⟩ := Kd.Bo F.1
 (first | subst aq | (injection aq with f1_ f2_ f3_; have f4_ := f1_.symm; have f5_ := f3_.symm; clear f1_ f2_ f3_; subst f4_; subst f5_))
 refine hK.out _ _ (Ht j.1 g.1) (fun hHeld => ?_)
 clear hK K
 refine no_ (some 34) ?_
 refine Ba 10 35 12 2047 ?_
 refine on_ 11 (none) (tf_ 12 12) HT_ (fun K hK => ?_)
 have bD : an.cell? ⟨a, 0, none⟩ = some (.bool false) := (BM c.1 0).trans rfl
 have bn := DI c.1 0
 have aR := b.1
 have aS := d.1
 have aH := q.1
 have aI := m.1
 have bE : an.cell? ⟨a, 1, none⟩ = some (.int .i64 0) := (BM c.1 1).trans rfl
 have bo := DI c.1 1
 have aT := b.1
 have aU := d.1
 have aJ := q.1
 have aK := m.1
 have bF : an.cell? ⟨a, 2, none⟩ = some (.slice none 0 0) := (BM c.1 2).trans rfl
 have bp := DI c.1 2
 have aV := b.1
 have aW := d.1
 have aL := q.1
 have aM := m.1
 have bG : an.cell? ⟨a, 3, none⟩ = some (.int .i64 0) := (BM c.1 3).trans rfl
 have bq := DI c.1 3
 have aX := b.1
 have aY := d.1
 have aN := q.1
 have aO := m.1
 have bH : an.cell? ⟨a, 4, none⟩ = some (.slice none 0 0) := (BM c.1 4).trans rfl
 have br := DI c.1 4
 have aZ := b.1
 have a0 := d.1
 have aP := q.1
 have aQ := m.1
 refine J2 (w1 := ?_) (by rfl) rfl ?_ ?_
 rotate_left
 ·go_simp
  rfl
 refine hK.out _ _ ⟨((cell_far (p := ⟨a, _, none⟩) d.1 _).trans (((cell_far (p := ⟨a, _, none⟩) d.1 _).trans (((cell_far (p := ⟨a, _, none⟩) d.1 _).trans (((cell_far (p := ⟨a, _, none⟩) d.1 _).trans (((cell_far (p := ⟨a, _, none⟩) d.1 _).trans (hHeld.1)))))))))), ((cell_far (p := ⟨a, _, none⟩) d.1 _).trans (((cell_far (p := ⟨a, _, none⟩) d.1 _).trans (((cell_far (p := ⟨a, _, none⟩) d.1 _).trans (((cell_far (p := ⟨a, _, none⟩) d.1 _).trans (((cell_far (p := ⟨a, _, none⟩) d.1 _).trans (hHeld.2.1)))))))))), ((cell_far (p := ⟨a, _, none⟩) b.1 _).trans (((cell_far (p := ⟨a, _, none⟩) b.1 _).trans (((cell_far (p := ⟨a, _, none⟩) b.1 _).trans (((cell_far (p := ⟨a, _, none⟩) b.1 _).trans (((cell_far (p := ⟨a, _, none⟩) b.1 _).trans (hHeld.2.2.1)))))))))), ((cell_far (p := ⟨a, _, none⟩) b.1 _).trans (((cell_far (p := ⟨a, _, none⟩) b.1 _).trans (((cell_far (p := ⟨a, _, none⟩) b.1 _).trans (((cell_far (p := ⟨a, _, none⟩) b.1 _).trans (((cell_far (p := ⟨a, _, none⟩) b.1 _).trans (hHeld.2.2.2))))))))))⟩ (fun hHeld => ?_)
 clear hK K
 refine G8 (E0 HT_.1 (by kernel_rfl)) ?_
 try go_wp2
 refine bodyPost_ret (results_cell_row rfl _ _ a 30 #[.bool T, .int .i64 U, .slice ab V.length ai, .int .i64 Q, .slice aa P.length ah] (0, 0) _ rfl (pp_ c.1) Tryz.underlying30 rfl (by kernel_rfl)) rfl ?_
 exact ⟨_, _, er_, pr_ (Kd.Ax (Kd.CC (p := ⟨a, 4, none⟩) (Kd.CC (p := ⟨a, 3, none⟩) (Kd.CC (p := ⟨a, 2, none⟩) (Kd.CC (p := ⟨a, 1, none⟩) (Kd.CC (p := ⟨a, 0, none⟩) (Kd.Bi F.1 c.1 (by decide)) (fun _ hk => hk.2) (.bool T)) (fun _ hk => hk.2) (.int .i64 U)) (fun _ hk => hk.2) (.slice ab V.length ai)) (fun _ hk => hk.2) (.int .i64 Q)) (fun _ hk => hk.2) (.slice aa P.length ah)) (fun _ hk => hk.1.2)), pr_ (Kd.Ax (Kd.CC (p := ⟨a, 4, none⟩) (Kd.CC (p := ⟨a, 3, none⟩) (Kd.CC (p := ⟨a, 2, none⟩) (Kd.CC (p := ⟨a, 1, none⟩) (Kd.CC (p := ⟨a, 0, none⟩) (Kd.Bi ae.1 c.1 (by decide)) (fun _ hk => hk.2) (.bool T)) (fun _ hk => hk.2) (.int .i64 U)) (fun _ hk => hk.2) (.slice ab V.length ai)) (fun _ hk => hk.2) (.int .i64 Q)) (fun _ hk => hk.2) (.slice aa P.length ah)) (fun _ hk => hk.1.2)), Gg HB.1 r.1 t.1 D.1⟩
def DX.f (k : Nat) (e : List Int) (g : List Int) (c : List (S75)) (d : Int) (l : List Int) (m : List Int) (i : Int) (j : Int) : Option (Bool × Int × List Int × Int × List Int) := (B9.f k e g c d).bind fun h => (if h = true then ((Bj.f k e g c d j).bind fun b => ((Ei.f k b.1 b.2 c l m i).bind fun a => (some (a.1, a.2.1, a.2.2.1, a.2.2.2.1, a.2.2.2.2)))) else (some (false, 0, ([] : List Int), 0, ([] : List Int))))
theorem DX.mono : ∀ a b c d e g h i k, LeO (DX.f k a b c d e g h i) (DX.f (k + 1) a b c d e g h i) := by
 intro a b c d e g h i k
 unfold DX.f
 exact Jz Ei.mono Bj.mono B9.mono
def DX.T3 : Bool × List (List Nat × List Nat) := (true, [([], []), ([], []), ([0, 1], [0, 1]), ([], []), ([3], [3]), ([], []), ([], []), ([], []), ([2, 4, 5, 6, 7, 2], [2, 4, 5, 6, 7]), ([8, 8, 0, 1, 2, 3, 4, 5, 6, 7, 8], [8])])
def DX.B3 : List Nat := [0, 0, 3, 0, 8, 0, 0, 0, 255, 511]
theorem DX.tab3 : rtab .any (opsOf Tryz.f9 3) = DX.T3 := by kernel_rfl
theorem DX.bits3 : Fa DX.T3.2 DX.B3 = true := by kernel_rfl
theorem DX.calls (k : Nat) (x : Option Addr) (z : Nat) (l : List Int) (y : Option Addr) (A : Nat) (m : List Int) (t : Option Addr) (v : Nat) (i : List (S75)) (r : Int) (A1 : Option Addr) (c1 : Nat) (l1 : List Int) (A2 : Option Addr) (c2 : Nat) (l2 : List Int) (a3 : Int) (a4 : Int) (r1 : Bool) (r2 : Int) (r3 : List Int) (r4 : Int) (r5 : List Int) (w : World) (hr0_0 : Kd.C (Kd.int .i64) w x l.length l) (ad : l.length ≤ z) (hr0_1 : Kd.C (Kd.int .i64) w y m.length m) (ae : m.length ≤ A) (hr0_2 : Kd.C k75 w t i.length i) (af : i.length ≤ v) (hr1 : Kd.C (Kd.int .i64) w A1 l1.length l1) (aA : l1.length ≤ c1) (hr2 : Kd.C (Kd.int .i64) w A2 l2.length l2) (aB : l2.length ≤ c2) (h : DX.f k l m i r l1 l2 a3 a4 = some (r1, r2, r3, r4, r5)) :
  Calls Tryz.prog 9 #[.agg #[.slice x l.length z, .slice y m.length A, .slice t i.length v, .int .i64 r], .slice A1 l1.length c1, .slice A2 l2.length c2, .int .i64 a3, .int .i64 a4] w fun e w' => ∃ v2_ v4_ : Value, e = .returned (.agg #[.bool r1, .int .i64 r2, v2_, .int .i64 r4, v4_]) ∧ Kd.R (Kd.int .i64) 3 w' w.heap.size (fun k_ => some k_ ≠ (v4_ : Value).ownBlock) v2_ r3 ∧ Kd.R (Kd.int .i64) 3 w' w.heap.size (fun k_ => some k_ ≠ (v2_ : Value).ownBlock) v4_ r5 ∧ Below w.heap.size w w' := by
 have hu34 := Tryz.underlying34
 have hu30 := Tryz.underlying30
 have Y := Q_ hr0_0
 have U := Q_ ad
 clear hr0_0 ad
 have Z := Q_ hr0_1
 have V := Q_ ae
 clear hr0_1 ae
 have L := Q_ hr0_2
 have J := Q_ af
 clear hr0_2 af
 have aX := Q_ hr1
 have aV := Q_ aA
 clear hr1 aA
 have aY := Q_ hr2
 have aW := Q_ aB
 clear hr2 aB
 have HB := Q_ (Below.refl w.heap.size w)
 unfold DX.f at h
 have H := h
 clear h
 have HS_ := Q_ H
 clear H
 go_enter Tryz.func9, Tryz.ntmps9
 go_upto_region 1 with (first | (refine bg_ 5 #[.slice x l.length z, .slice y m.length A, .slice t i.length v, .int .i64 r] 34 ?_; intro B hg w6 hbox hb; have _ := Q_ (AD (pb_ HB.1) hb); have d := Q_ (hbox); have aq := Q_ (gw_ (w := w) hg (pb_ HB.1)); have j := aq; clear HB; rename_i HB; clear hb hbox hg) | (refine bg_ 10 #[.bool false, .int .i64 0, .slice none 0 0, .int .i64 0, .slice none 0 0] 30 ?_; intro b hg w7 hbox hb; have _ := Q_ (bb_ d.1 hb); have _ := Q_ (AD (CM HB.1 j.1) hb); have c := Q_ (hbox); have ar := Q_ (gw_ (w := w) hg (CM HB.1 j.1)); have o := ar; have a := Q_ (nb_ hg d); have g := Q_ a.1.symm; clear d HB; rename_i d HB; clear hb hbox hg))
 (try simp only [Act.put, s1_, s2_, s3_])
 have H := HS_.1
 clear HS_
 obtain ⟨P, A8, H⟩ := bs_ H
 (try dsimp only at H)
 have HS_ := Q_ H
 clear H
 have bd := a.1
 have be := g.1
 have a1 := E8 d.1
 go_upto_if 13 with (first | (refine gk_ 20 12 Tryz.func20 #[.agg #[.slice x l.length z, .slice y m.length A, .slice t i.length v, .int .i64 r]] ?_; (with_reducible refine (B9.calls k _ _ l _ _ m _ _ i r P _ (cb_ Y HB) U.1 (cb_ Z HB) V.1 (cb_ L HB) J.1 A8.1).mono ?_); rintro e bc ⟨rfl, hb⟩; refine ⟨_, rfl, ?_⟩; have _ := Q_ (bb_ d.1 hb); have _ := Q_ (bb_ c.1 hb); have _ := Q_ (AD (Dw HB.1 j.1 o.1) hb); clear d c HB; rename_i d c HB; (try clear hb)))
 (try simp only [Act.put, s1_, s2_, s3_])
 have H := HS_.1
 clear HS_
 by_cases aj : P = true
 rotate_left
 ·replace aj := bf_ aj
  subst aj
  rw [if_neg ff_] at H
  simp only [Option.some.injEq, Prod.mk.injEq] at H
  obtain ⟨rfl, rfl, rfl, rfl, rfl⟩ := H
  have ba := g.1
  have bb := a.1
  have a2 := PO c.1
  go_wp2
  refine bodyPost_ret (results_cell_row rfl _ _ b 30 #[.bool false, .int .i64 0, .slice none 0 0, .int .i64 0, .slice none 0 0] (0, 0) _ rfl (pp_ c.1) Tryz.underlying30 rfl (by kernel_rfl)) rfl ?_
  exact ⟨_, _, er_, nl_, nl_, Dw HB.1 j.1 o.1⟩
 subst aj
 rw [if_pos rfl] at H
 obtain ⟨⟨ag, ah⟩, aS, H⟩ := bs_ H
 (try dsimp only at H)
 obtain ⟨⟨D, E, F, G, I⟩, aT, H⟩ := bs_ H
 replace H : (some (D, E, F, G, I)) = some (r1, r2, r3, r4, r5) := H
 simp only [Option.some.injEq, Prod.mk.injEq] at H
 obtain ⟨rfl, rfl, rfl, rfl, rfl⟩ := H
 try go_wp2
 have _ := Q_ (Bq d.1)
 have _ := Q_ (Bq c.1)
 have _ := Q_ (Cm HB.1)
 clear d c HB
 rename_i d c HB
 refine sw_ (S := fun w' => w'.cell? ⟨B, 0, none⟩ = some (.slice x l.length z) ∧ w'.cell? ⟨B, 1, none⟩ = some (.slice y m.length A) ∧ w'.cell? ⟨B, 2, none⟩ = some (.slice t i.length v) ∧ w'.cell? ⟨B, 3, none⟩ = some (.int .i64 r)) 10 DX.tab3 DX.bits3 (sb_ d.1) (fun hHeld HT_ HW_ => ?_)
 generalize bc.drew = bp at d c HB hHeld ⊢
 refine Ba 1 16 10 2 ?_
 refine Ba 3 18 10 10 ?_
 refine Ba 5 20 10 42 ?_
 refine Ba 6 21 10 106 ?_
 refine Ba 7 22 10 234 ?_
 refine E1 0 15 10 235 hHeld ?_
 refine E1 4 19 10 251 hHeld ?_
 refine on_ 2 (some 17) (tf_ 8 10) HT_ (fun K hK => ?_)
 refine gs_ Tryz.func22 #[.agg #[.slice x l.length z, .slice y m.length A, .slice t i.length v, .int .i64 r], .int .i64 a4] ?_
 with_reducible refine (Bj.calls k _ _ l _ _ m _ _ i r a4 ag ah _ (cb_ Y HB) U.1 (cb_ Z HB) V.1 (cb_ L HB) J.1 aS.1).mono ?_
 rintro e bq ⟨bk, bl, rfl, M, O, hb⟩
 refine ⟨_, rfl, ?_⟩
 have _ := Q_ (Kd.BV M (AZ (Dw HB.1 j.1 o.1)))
 have _ := Q_ (Kd.Fh O (AZ (Dw HB.1 j.1 o.1)))
 have _ := Q_ (bb_ d.1 hb)
 have _ := Q_ (bb_ c.1 hb)
 have _ := Q_ (AD (Dw HB.1 j.1 o.1) hb)
 clear d c HB
 rename_i q s d c HB
 (try clear hb M O)
 obtain ⟨au, ay, ak⟩ := Kd.Bo q.1
 (first | subst ak | (injection ak with f1_ f2_ f3_; have f4_ := f1_.symm; have f5_ := f3_.symm; clear f1_ f2_ f3_; subst f4_; subst f5_))
 obtain ⟨av, az, al⟩ := Kd.Gv s.1
 (first | subst al | (injection al with f1_ f2_ f3_; have f4_ := f1_.symm; have f5_ := f3_.symm; clear f1_ f2_ f3_; subst f4_; subst f5_))
 refine hK.out _ _ (sb_ d.1) (fun hHeld => ?_)
 clear hK K
 refine no_ (some 17) ?_
 refine on_ 8 (some 23) (tf_ 9 10) HT_ (fun K hK => ?_)
 refine gs_ Tryz.func34 #[.agg #[.slice au ag.length ay, .slice av ah.length az], .slice t i.length v, .slice A1 l1.length c1, .slice A2 l2.length c2, .int .i64 a3] ?_
 with_reducible refine (Ei.calls k _ _ ag _ _ ah _ _ i _ _ l1 _ _ l2 a3 D E F G I _ ?side1 ?side2 ?side3 ?side4 (cb_ L HB) J.1 (cb_ aX HB) aV.1 (cb_ aY HB) aW.1 aT.1).mono ?_
 (case side1 => exact pc_ ((Kd.BH q.1).2.2))
 (case side2 => exact (Kd.BH q.1).2.1)
 (case side3 => exact pc_ ((Kd.GX s.1).2.2))
 (case side4 => exact (Kd.GX s.1).2.1)
 rintro e ai ⟨bm, bn, rfl, M, O, hb⟩
 refine ⟨_, rfl, ?_⟩
 have _ := Q_ (Kd.Ax (Kd.E7 (Kd.E7 (Kd.J9 (pr_ q.1) hb) (Kd.BJ M)) (Kd.BJ O)) (fun _ h_ => h_.1))
 have _ := Q_ (Kd.Ea (Kd.JW (Kd.JW (Kd.RF (ps_ s.1) hb) (Kd.BJ M)) (Kd.BJ O)) (fun _ h_ => h_.1))
 have _ := Q_ (Kd.BV (Kd.B8 M (Kd.Dj (pr_ q.1))) (AZ (Dw HB.1 j.1 o.1)))
 have _ := Q_ (Kd.BV (Kd.B8 O (Kd.Dj (pr_ q.1))) (AZ (Dw HB.1 j.1 o.1)))
 have _ := Q_ (bb_ d.1 hb)
 have _ := Q_ (bb_ c.1 hb)
 have _ := Q_ (AD (Dw HB.1 j.1 o.1) hb)
 clear q s d c HB
 rename_i q s W X d c HB
 (try clear hb M O)
 obtain ⟨Q, ab, am⟩ := Kd.Bo W.1
 (first | subst am | (injection am with f1_ f2_ f3_; have f4_ := f1_.symm; have f5_ := f3_.symm; clear f1_ f2_ f3_; subst f4_; subst f5_))
 obtain ⟨T, ac, an⟩ := Kd.Bo X.1
 (first | subst an | (injection an with f1_ f2_ f3_; have f4_ := f1_.symm; have f5_ := f3_.symm; clear f1_ f2_ f3_; subst f4_; subst f5_))
 refine hK.out _ _ (sb_ d.1) (fun hHeld => ?_)
 clear hK K
 refine no_ (some 23) ?_
 refine on_ 9 (none) (tf_ 10 10) HT_ (fun K hK => ?_)
 have bf : ai.cell? ⟨b, 0, none⟩ = some (.bool false) := (BM c.1 0).trans rfl
 have a5 := DI c.1 0
 have aH := a.1
 have aC := g.1
 have bg : ai.cell? ⟨b, 1, none⟩ = some (.int .i64 0) := (BM c.1 1).trans rfl
 have a6 := DI c.1 1
 have aI := a.1
 have aD := g.1
 have bh : ai.cell? ⟨b, 2, none⟩ = some (.slice none 0 0) := (BM c.1 2).trans rfl
 have a7 := DI c.1 2
 have aJ := a.1
 have aE := g.1
 have bi : ai.cell? ⟨b, 3, none⟩ = some (.int .i64 0) := (BM c.1 3).trans rfl
 have a8 := DI c.1 3
 have aK := a.1
 have aF := g.1
 have bj : ai.cell? ⟨b, 4, none⟩ = some (.slice none 0 0) := (BM c.1 4).trans rfl
 have a9 := DI c.1 4
 have aL := a.1
 have aG := g.1
 refine J2 (w1 := ?_) (by rfl) rfl ?_ ?_
 rotate_left
 ·go_simp
  rfl
 refine hK.out _ _ ⟨((cell_far (p := ⟨b, _, none⟩) a.1 _).trans (((cell_far (p := ⟨b, _, none⟩) a.1 _).trans (((cell_far (p := ⟨b, _, none⟩) a.1 _).trans (((cell_far (p := ⟨b, _, none⟩) a.1 _).trans (((cell_far (p := ⟨b, _, none⟩) a.1 _).trans (hHeld.1)))))))))), ((cell_far (p := ⟨b, _, none⟩) a.1 _).trans (((cell_far (p := ⟨b, _, none⟩) a.1 _).trans (((cell_far (p := ⟨b, _, none⟩) a.1 _).trans (((cell_far (p := ⟨b, _, none⟩) a.1 _).trans (((cell_far (p := ⟨b, _, none⟩) a.1 _).trans (hHeld.2.1)))))))))), ((cell_far (p := ⟨b, _, none⟩) a.1 _).trans (((cell_far (p := ⟨b, _, none⟩) a.1 _).trans (((cell_far (p := ⟨b, _, none⟩) a.1 _).trans (((cell_far (p := ⟨b, _, none⟩) a.1 _).trans (((cell_far (p := ⟨b, _, none⟩) a.1 _).trans (hHeld.2.2.1)))))))))), ((cell_far (p := ⟨b, _, none⟩) a.1 _).trans (((cell_far (p := ⟨b, _, none⟩) a.1 _).trans (((cell_far (p := ⟨b, _, none⟩) a.1 _).trans (((cell_far (p := ⟨b, _, none⟩) a.1 _).trans (((cell_far (p := ⟨b, _, none⟩) a.1 _).trans (hHeld.2.2.2))))))))))⟩ (fun hHeld => ?_)
 clear hK K
 refine G8 (E0 HT_.1 (by kernel_rfl)) ?_
 try go_wp2
 refine bodyPost_ret (results_cell_row rfl _ _ b 30 #[.bool D, .int .i64 E, .slice Q F.length ab, .int .i64 G, .slice T I.length ac] (0, 0) _ rfl (pp_ c.1) Tryz.underlying30 rfl (by kernel_rfl)) rfl ?_
 exact ⟨_, _, er_, pr_ (Kd.Ax (Kd.CC (p := ⟨b, 4, none⟩) (Kd.CC (p := ⟨b, 3, none⟩) (Kd.CC (p := ⟨b, 2, none⟩) (Kd.CC (p := ⟨b, 1, none⟩) (Kd.CC (p := ⟨b, 0, none⟩) (Kd.Bi W.1 c.1 (by decide)) (fun _ hk => hk.2) (.bool D)) (fun _ hk => hk.2) (.int .i64 E)) (fun _ hk => hk.2) (.slice Q F.length ab)) (fun _ hk => hk.2) (.int .i64 G)) (fun _ hk => hk.2) (.slice T I.length ac)) (fun _ hk => hk.1.1)), pr_ (Kd.Ax (Kd.CC (p := ⟨b, 4, none⟩) (Kd.CC (p := ⟨b, 3, none⟩) (Kd.CC (p := ⟨b, 2, none⟩) (Kd.CC (p := ⟨b, 1, none⟩) (Kd.CC (p := ⟨b, 0, none⟩) (Kd.Bi X.1 c.1 (by decide)) (fun _ hk => hk.2) (.bool D)) (fun _ hk => hk.2) (.int .i64 E)) (fun _ hk => hk.2) (.slice Q F.length ab)) (fun _ hk => hk.2) (.int .i64 G)) (fun _ hk => hk.2) (.slice T I.length ac)) (fun _ hk => hk.1.1)), Dw HB.1 j.1 o.1⟩
def JG.f (a : List Int) : Option (Bool) := some (decide ((a.length : Int) > 1048576))
theorem JG.calls (c : Option Addr) (d : Nat) (a : List Int) (r : Bool) (w : World) (hr0 : Kd.C (Kd.int .u8) w c a.length a) (b : a.length ≤ d) (h : JG.f a = some r) :
  Calls Tryz.prog 17 #[.slice c a.length d] w fun e w' => e = .returned (.bool r) ∧ C' w w' := by
 have i := Q_ hr0
 have g := Q_ b
 clear hr0 b
 unfold JG.f at h
 have H := h
 clear h
 obtain rfl := Option.some.inj H
 go_enter Tryz.func17, Tryz.ntmps17
 go_wp2
 go_ret
 exact ⟨by first | rfl | (simp; done) | (simp [*]; done), by repeat (first | exact C'.refl _ | apply C'.step)⟩
end Go.Proofs.YtibmehnippjakaaGreat.Print
