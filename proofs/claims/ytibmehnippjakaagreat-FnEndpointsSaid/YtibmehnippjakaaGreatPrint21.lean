-- Written by a program of this session (printx.py) out of the translation; Lean checks it.
import Derived.Test.YtibmehnippjakaaGreatPrint0
import Derived.Test.YtibmehnippjakaaGreatPrint1
import Derived.Test.YtibmehnippjakaaGreatPrint6
import Derived.Test.YtibmehnippjakaaGreatPrint8
import Derived.Test.YtibmehnippjakaaGreatPrint10
import Derived.Test.YtibmehnippjakaaGreatPrint17
import Derived.Test.YtibmehnippjakaaGreatPrint19
import Derived.Test.YtibmehnippjakaaGreatPrint20
namespace Go.Proofs.YtibmehnippjakaaGreat.Print
open Go.RowKit Go.Proofs.YtibmehnippjakaaGreatW.PrintWords Go.Proofs.YtibmehnippjakaaGreatW.PrintLast Go.Proofs.YtibmehnippjakaaGreatW.PrintMore Go.Proofs.YtibmehnippjakaaGreat.Short
attribute [local go_sem] F8 Fq G5 G6 FA FH F5 Fp
set_option linter.unusedVariables false
set_option maxHeartbeats 8000000
set_option maxRecDepth 100000
set_option linter.unusedSimpArgs false
theorem CE.calls2 (k : Nat) (B : Option Addr) (D : Nat) (d : List Int) (F : List Int) (G : Int) (I : Int) (w0 w : World) (hB : Below w0.heap.size w0 w) (hr0 : Kd.C (Kd.int .u8) w0 B d.length d) (A : d.length ≤ D) (h : CE.f k d = some (F, G, I)) :
  Calls Tryz.prog 42 #[.slice B d.length D] w fun e w' => ∃ g_ : Nat, e = .returned (.pointer (some ⟨g_, 0, none⟩)) ∧ Ae w0 w' g_ F G I ∧ Below w0.heap.size w0 w' ∧ Below w.heap.size w w' ∧ w.heap.size ≤ g_ := by
 have hu95 := Tryz.underlying95
 have q := Q_ hr0
 have L := Q_ A
 clear hr0 A
 have HBW := Q_ (Below.refl w.heap.size w)
 have HW0 := Q_ hB.size
 have HB := Q_ hB
 clear hB
 unfold CE.f at h
 have H := h
 clear h
 have H' := Q_ H
 clear H
 go_enter Tryz.func42, Tryz.ntmps42
 go_wp2
 go_loopg [3, 4] k (fun kq M O w' => ∃ (b : Int) (a : Int), M = .int .i64 b ∧ O = .int .i64 a ∧ Aside0 (CE.l0 kq d b a = some (F, G, I)) ∧ Aside0 (kq ≤ k) ∧ Aside0 (Below w0.heap.size w0 w') ∧ Aside0 (Below w.heap.size w w'))
 case atStart => exact ⟨(wrap64 (193017 + (d.length : Int))), (0), el_, el_, H', ⟨Nat.le_refl _⟩, ⟨pb_ HB.1⟩, ⟨pb_ HBW.1⟩⟩
 clear H'
 obtain ⟨b, a, rfl, rfl, HA, v, HB, HBW⟩ := hrel
 rcases gk with _ | k1
 ·exact absurd HA.1 (by simp [CE.l0])
 have H := HA.1
 clear HA
 simp only [CE.l0] at H
 by_cases t : a < (d.length : Int)
 rotate_left
 ·rw [if_neg t] at H
  have x := decide_eq_false t
  clear t
  simp only [Option.some.injEq, Prod.mk.injEq] at H
  obtain ⟨rfl, rfl, rfl⟩ := H
  go_wp2_with (first | (refine bg_ 31 #[.slice B d.length D, .int .i64 0, .int .i64 b] 95 ?_; intro s hg P hbox hb; have _ := Q_ (AD HBW.1 hb); have _ := Q_ (AD (pb_ HB.1) hb); have n := Q_ (hbox); have p := Q_ (gw_ (w := w) hg (pb_ HBW.1)); have i := Q_ (Nat.le_trans HW0.1 p.1); clear HBW HB; rename_i HBW HB; clear hb hbox hg))
  go_ret
  exact ⟨_, rfl, (show Ae w0 _ s d 0 b from ⟨_, _, pk_ n.1, i.1, q.1⟩), CM HB.1 i.1, pb_ HBW.1, p.1⟩
 rw [if_pos t] at H
 have x := decide_eq_true t
 clear t
 by_cases u : a < 4000
 rotate_left
 ·rw [if_neg u] at H
  have y := decide_eq_false u
  clear u
  simp only [Option.some.injEq, Prod.mk.injEq] at H
  obtain ⟨rfl, rfl, rfl⟩ := H
  go_wp2_with (first | (refine bg_ 31 #[.slice B d.length D, .int .i64 0, .int .i64 b] 95 ?_; intro r hg Q hbox hb; have _ := Q_ (AD HBW.1 hb); have _ := Q_ (AD (pb_ HB.1) hb); have m := Q_ (hbox); have o := Q_ (gw_ (w := w) hg (pb_ HBW.1)); have g := Q_ (Nat.le_trans HW0.1 o.1); clear HBW HB; rename_i HBW HB; clear hb hbox hg))
  go_ret
  exact ⟨_, rfl, (show Ae w0 _ r d 0 b from ⟨_, _, pk_ m.1, g.1, q.1⟩), CM HB.1 g.1, pb_ HBW.1, o.1⟩
 rw [if_pos u] at H
 have y := decide_eq_true u
 clear u
 by_cases E : 0 ≤ a
 rotate_left
 ·rw [if_neg E] at H
  exact nn_ H
 rw [if_pos E] at H
 have K := decide_eq_true E
 clear E
 have H' := Q_ H
 clear H
 have j : 0 ≤ (a : Int) := dt_
 have l : a < (d.length : Int) := dt_
 obtain ⟨J, z, c⟩ := Kd.GG q.1 a j l
 cases z
 replace c := H9 HB.1 c
 replace j := eq_true j
 replace l := eq_true l
 go_wp2
 go_roundg k1
 case measure => have := v.1; omega
 case rel => exact ⟨(Go.bits .and .i64 (wrap64 ((wrap64 ((wrap64 (b * 137)) + (wrap64 (rd d a)))) + 11)) 1073741823), (wrap64 (a + 1)), el_, el_, H', ⟨by have := v.1; omega⟩, ⟨pb_ HB.1⟩, ⟨pb_ HBW.1⟩⟩
def DF.f (k : Nat) (g : List Int) : Option (List Int × List Int × (List (S75)) × Int × List Int × List Int × Int × Int) := (Dy.f k g).bind fun a => ((CE.f k g).bind fun b => ((BW.f k b.1 b.2.1 b.2.2).bind fun c => ((Bc.f k b.1 c.2.1 c.2.2).bind fun d => ((D'.f b.1 d.2.1 d.2.2 (([5, 77, 0] : List Int))).bind fun e => (some (a.1, a.2.1, a.2.2.1, a.2.2.2.1, c.1, d.1, e.1, a.2.2.2.2))))))
theorem DF.mono : ∀ a k, LeO (DF.f k a) (DF.f (k + 1) a) := by
 intro a k
 unfold DF.f
 exact M5 Dy.mono BW.mono Bc.mono CE.mono
def DF.T3 : Bool × List (List Nat × List Nat) := (true, [([], []), ([], []), ([1], [1]), ([], []), ([3, 2], [3]), ([], []), ([], []), ([5, 6, 4], [5, 6]), ([], []), ([0, 7, 0], [0]), ([2, 9, 0, 1, 2, 9], [2]), ([4, 10, 0, 1, 2, 3, 4, 9, 10], [4]), ([7, 11, 0, 1, 2, 3, 4, 5, 6, 7, 9, 10, 11], [7]), ([8, 12, 0, 1, 2, 3, 4, 5, 6, 7, 8, 9, 10, 11, 12], [8])])
def DF.B3 : List Nat := [0, 0, 2, 0, 14, 0, 0, 126, 0, 255, 767, 1791, 3839, 8191]
theorem DF.tab3 : rtab .any (opsOf Tryz.f18 3) = DF.T3 := by kernel_rfl
theorem DF.bits3 : Fa DF.T3.2 DF.B3 = true := by kernel_rfl
theorem DF.calls (k : Nat) (A0 : Option Addr) (c0 : Nat) (l0 : List Int) (r1 : List Int) (r2 : List Int) (r3 : List (S75)) (r4 : Int) (r5 : List Int) (r6 : List Int) (r7 : Int) (r8 : Int) (w : World) (hr0 : Kd.C (Kd.int .u8) w A0 l0.length l0) (aN : l0.length ≤ c0) (h : DF.f k l0 = some (r1, r2, r3, r4, r5, r6, r7, r8)) :
  Calls Tryz.prog 18 #[.slice A0 l0.length c0] w fun e w' => ∃ v0_ v1_ v2_ v4_ v5_ : Value, e = .returned (.tuple #[.agg #[v0_, v1_, v2_, .int .i64 r4], v4_, v5_, .int .i64 r7, .int .i64 r8]) ∧ Kd.R (Kd.int .i64) 3 w' w.heap.size (fun k_ => (w.heap.size ≤ k_) ∧ some k_ ≠ (v1_ : Value).ownBlock ∧ some k_ ≠ (v4_ : Value).ownBlock ∧ some k_ ≠ (v5_ : Value).ownBlock) v0_ r1 ∧ Kd.R (Kd.int .i64) 3 w' w.heap.size (fun k_ => (w.heap.size ≤ k_) ∧ some k_ ≠ (v0_ : Value).ownBlock ∧ some k_ ≠ (v4_ : Value).ownBlock ∧ some k_ ≠ (v5_ : Value).ownBlock) v1_ r2 ∧ Kd.N k75 75 w' w.heap.size (fun k_ => (w.heap.size ≤ k_) ∧ some k_ ≠ (v0_ : Value).ownBlock ∧ some k_ ≠ (v1_ : Value).ownBlock ∧ some k_ ≠ (v4_ : Value).ownBlock ∧ some k_ ≠ (v5_ : Value).ownBlock) v2_ r3 ∧ Kd.R (Kd.int .i64) 3 w' w.heap.size (fun k_ => (w.heap.size ≤ k_) ∧ some k_ ≠ (v0_ : Value).ownBlock ∧ some k_ ≠ (v1_ : Value).ownBlock ∧ some k_ ≠ (v5_ : Value).ownBlock) v4_ r5 ∧ Kd.R (Kd.int .i64) 3 w' w.heap.size (fun k_ => (w.heap.size ≤ k_) ∧ some k_ ≠ (v0_ : Value).ownBlock ∧ some k_ ≠ (v1_ : Value).ownBlock ∧ some k_ ≠ (v4_ : Value).ownBlock) v5_ r6 ∧ Below w.heap.size w w' := by
 have hu34 := Tryz.underlying34
 have aJ := Q_ hr0
 have aI := Q_ aN
 clear hr0 aN
 have HB := Q_ (Below.refl w.heap.size w)
 unfold DF.f at h
 have H := h
 clear h
 obtain ⟨⟨x, y, J, L, aw⟩, A2, H⟩ := bs_ H
 (try dsimp only at H)
 obtain ⟨⟨D, ae, af⟩, A3, H⟩ := bs_ H
 (try dsimp only at H)
 obtain ⟨⟨ap, X, Y⟩, A4, H⟩ := bs_ H
 (try dsimp only at H)
 obtain ⟨⟨am, ac, ad⟩, A5, H⟩ := bs_ H
 (try dsimp only at H)
 obtain ⟨an, hy1054⟩ : ∃ y_ : List Int, y_ = (([5, 77, 0] : List Int)) := ⟨_, rfl⟩
 replace H : ((D'.f D ac ad an).bind fun au => (some (x, y, J, L, ap, am, au.1, aw))) = some (r1, r2, r3, r4, r5, r6, r7, r8) := hb_ hy1054 H
 have ag := Q_ hy1054
 clear hy1054
 obtain ⟨⟨aF, aG, aH⟩, A6, H⟩ := bs_ H
 (try dsimp only at H)
 simp only [Option.some.injEq, Prod.mk.injEq] at H
 obtain ⟨rfl, rfl, rfl, rfl, rfl, rfl, rfl, rfl⟩ := H
 go_enter Tryz.func18, Tryz.ntmps18
 try go_wp2_with (first | (refine bg_ 2 #[.slice none 0 0, .slice none 0 0, .slice none 0 0, .int .i64 0] 34 ?_; intro d hg w7 hbox hb; have _ := Q_ (AD (pb_ HB.1) hb); have l := Q_ (hbox); have az := Q_ (gw_ (w := w) hg (pb_ HB.1)); have u := az; clear HB; rename_i HB; clear hb hbox hg) | (refine gk_ 41 12 Tryz.func41 #[.slice A0 l0.length c0] ?_; (with_reducible refine (Dy.calls k _ _ l0 x y J L aw _ (cb_ aJ HB) aI.1 A2.1).mono ?_); rintro e w8 ⟨ax, ay, bg, rfl, O, aW, aX, hb⟩; refine ⟨_, rfl, ?_⟩; have _ := Q_ (Kd.BV (Kd.HN (M := fun k_ => (w.heap.size ≤ k_)) (Kd.Ax (ok' := fun k_ => some k_ ≠ (ay : Value).ownBlock) O (fun _ hk_ => hk_.2)) (AZ (CM HB.1 u.1)) (fun k_ h_ => h_)) (AZ (CM HB.1 u.1))); have _ := Q_ (Kd.BV (Kd.HN (M := fun k_ => (w.heap.size ≤ k_)) (Kd.Ax (ok' := fun k_ => some k_ ≠ (ax : Value).ownBlock) aW (fun _ hk_ => hk_.2)) (AZ (CM HB.1 u.1)) (fun k_ h_ => h_)) (AZ (CM HB.1 u.1))); have _ := Q_ (Kd.IW (Kd.DW (ok' := fun k_ => (w.heap.size ≤ k_) ∧ some k_ ≠ (ax : Value).ownBlock ∧ some k_ ≠ (ay : Value).ownBlock ∧ k_ ≠ d) aX (fun k_ hk_ => ⟨(Nat.le_trans (AZ (CM HB.1 u.1)) hk_.1), hk_.2.1, hk_.2.2, (Kd.Gy (g := d) (o := .cells #[.slice none 0 0, .slice none 0 0, .slice none 0 0, .int .i64 0] 34 (0, 0)) (pk_ l.1) k_ hk_.1)⟩)) (AZ (CM HB.1 u.1))); have _ := Q_ (bb_ l.1 hb); have _ := Q_ (AD (CM HB.1 u.1) hb); clear l HB; rename_i q r s l HB; (try clear hb O aW aX)) | (refine bg_ 7 #[.slice none 0 0, .slice none 0 0, .slice none 0 0, .int .i64 0] 34 ?_; intro v hg w9 hbox hb; have _ := Q_ (Kd.Bv (pr_ q.1) hb); have _ := Q_ (Kd.Bv (pr_ r.1) hb); have _ := Q_ (Kd.FG (Kd.IH (px_ s.1) v (Nat.le_of_eq hg.symm)) hb); have _ := Q_ (bb_ l.1 hb); have _ := Q_ (AD (CM HB.1 u.1) hb); have m := Q_ (hbox); have aA := Q_ (gw_ (w := w) hg (CM HB.1 u.1)); have z := aA; have U := Q_ (nb_ hg l); have t := Q_ U.1.symm; clear q r s l HB; rename_i q r s l HB; clear hb hbox hg; obtain ⟨E, G, aK⟩ := Kd.Bo q.1; subst aK; have be := t.1; have bf := U.1; have a9 := E8 m.1; obtain ⟨F, I, aL⟩ := Kd.Bo r.1; subst aL; obtain ⟨Q, T, aM⟩ := Kd.IM s.1; subst aM) | (refine gk_ 42 16 Tryz.func42 #[.slice A0 l0.length c0] ?_; (with_reducible refine (CE.calls2 k _ _ l0 D ae af w _ ?side1 aJ.1 aI.1 A3.1).mono ?_); (case side1 => exact Jo HB.1 u.1 z.1); rintro e bh ⟨g1043, rfl, hi, hb, hb2, hg2⟩; refine ⟨_, rfl, ?_⟩; have _ := Q_ (Kd.Bv (pr_ (Ir q.1 m.1)) hb2); have _ := Q_ (Kd.Bv (pr_ (Ir r.1 m.1)) hb2); have _ := Q_ (Kd.DW (ok' := fun k_ => ((w.heap.size ≤ k_)) ∧ some k_ ≠ (.slice E x.length G : Value).ownBlock ∧ some k_ ≠ (.slice F y.length I : Value).ownBlock ∧ k_ ≠ d ∧ k_ ≠ v ∧ k_ ≠ g1043) (Kd.FG (Kd.IH (by (with_reducible repeat (first | apply Kd.F4 | apply Kd.F3 | apply Kd.E6)); exact (Kd.DW (Kd.EY (p := ⟨v, 3, none⟩) (Kd.EY (p := ⟨v, 2, none⟩) (Kd.EY (p := ⟨v, 1, none⟩) (Kd.EY (p := ⟨v, 0, none⟩) (Kd.DW s.1 (fun k_ hk => (⟨hk, hk.2⟩ : _ ∧ k_ ≠ v))) (fun _ hk => hk.2) (.slice E x.length G)) (fun _ hk => hk.2) (.slice F y.length I)) (fun _ hk => hk.2) (.slice Q J.length T)) (fun _ hk => hk.2) (.int .i64 L)) (fun _ h_ => h_.1))) g1043 hg2) hb2) (fun k_ h_ => by simpa only [and_assoc] using h_)); have _ := Q_ (Ej (g := d) (o := .cells #[.slice none 0 0, .slice none 0 0, .slice none 0 0, .int .i64 0] 34 (0, 0)) (pp_ l.1) hb2); have _ := Q_ (Ej (g := v) (o := .cells #[.slice E x.length G, .slice F y.length I, .slice Q J.length T, .int .i64 L] 34 (0, 0)) (pp_ m.1) hb2); have _ := Q_ (hb); have a := Q_ (hi); have b := Q_ (Ae.ne_blk hi (Ej (g := d) (o := .cells #[.slice none 0 0, .slice none 0 0, .slice none 0 0, .int .i64 0] 34 (0, 0)) (pp_ l.1) hb2) (by decide)); have V := Q_ (Ne.symm (Ae.ne_blk hi (Ej (g := d) (o := .cells #[.slice none 0 0, .slice none 0 0, .slice none 0 0, .int .i64 0] 34 (0, 0)) (pp_ l.1) hb2) (by decide))); have c := Q_ (Ae.ne_blk hi (Ej (g := v) (o := .cells #[.slice E x.length G, .slice F y.length I, .slice Q J.length T, .int .i64 L] 34 (0, 0)) (pp_ m.1) hb2) (by decide)); have W := Q_ (Ne.symm (Ae.ne_blk hi (Ej (g := v) (o := .cells #[.slice E x.length G, .slice F y.length I, .slice Q J.length T, .int .i64 L] 34 (0, 0)) (pp_ m.1) hb2) (by decide))); clear q r s l m HB; rename_i q r s l m HB; (try clear hb hb2 hi)))
 have _ := Q_ (Kd.EU q.1)
 have _ := Q_ (Kd.EU r.1)
 have _ := Q_ (Kd.E6 s.1)
 have _ := Q_ (Bq l.1)
 have _ := Q_ (Bq m.1)
 have _ := Q_ (Ae.drew a.1)
 have _ := Q_ (Cm HB.1)
 clear q r s l m a HB
 rename_i q r s l m a HB
 refine sw_ (S := fun w' => w'.cell? ⟨v, 0, none⟩ = some (.slice E x.length G) ∧ w'.cell? ⟨v, 1, none⟩ = some (.slice F y.length I) ∧ w'.cell? ⟨v, 2, none⟩ = some (.slice Q J.length T) ∧ w'.cell? ⟨v, 3, none⟩ = some (.int .i64 L)) 14 DF.tab3 DF.bits3 (sb_ m.1) (fun hHeld HT_ HW_ => ?_)
 generalize bh.drew = bu at q r s l m a HB hHeld ⊢
 refine Ba 1 18 14 2 ?_
 refine Ba 3 20 14 10 ?_
 refine Ba 5 22 14 42 ?_
 refine Ba 8 25 14 298 ?_
 refine E1 0 17 14 299 hHeld ?_
 refine VP (σ := Value × Value × Value) 6 #[true, true, true, true, true, true, true, false, true, false, false, false, false, false] (fun s_ => [(19, s_.1), (21, s_.2.1), (23, s_.2.2)]) (fun s_ w' => (w'.cell? ⟨v, 0, none⟩ = some (.slice E x.length G) ∧ w'.cell? ⟨v, 1, none⟩ = some (.slice F y.length I) ∧ w'.cell? ⟨v, 2, none⟩ = some (.slice Q J.length T) ∧ w'.cell? ⟨v, 3, none⟩ = some (.int .i64 L)) ∧ (Kd.R (Kd.int .i64) 3 w' w.heap.size (fun k_ => (w.heap.size ≤ k_) ∧ some k_ ≠ (.slice F y.length I : Value).ownBlock ∧ some k_ ≠ (s_.1 : Value).ownBlock ∧ some k_ ≠ (s_.2.1 : Value).ownBlock ∧ some k_ ≠ (s_.2.2 : Value).ownBlock) (.slice E x.length G) x) ∧ (Kd.R (Kd.int .i64) 3 w' w.heap.size (fun k_ => (w.heap.size ≤ k_) ∧ some k_ ≠ (.slice E x.length G : Value).ownBlock ∧ some k_ ≠ (s_.1 : Value).ownBlock ∧ some k_ ≠ (s_.2.1 : Value).ownBlock ∧ some k_ ≠ (s_.2.2 : Value).ownBlock) (.slice F y.length I) y) ∧ (Kd.N k75 75 w' w.heap.size (fun k_ => (w.heap.size ≤ k_) ∧ some k_ ≠ (.slice E x.length G : Value).ownBlock ∧ some k_ ≠ (.slice F y.length I : Value).ownBlock ∧ some k_ ≠ (s_.1 : Value).ownBlock ∧ some k_ ≠ (s_.2.1 : Value).ownBlock ∧ some k_ ≠ (s_.2.2 : Value).ownBlock ∧ k_ ≠ d ∧ k_ ≠ v ∧ k_ ≠ g1043) (.slice Q J.length T) J) ∧ (Kd.R (Kd.int .i64) 3 w' w.heap.size (fun k_ => (w.heap.size ≤ k_) ∧ some k_ ≠ (.slice E x.length G : Value).ownBlock ∧ some k_ ≠ (.slice F y.length I : Value).ownBlock ∧ some k_ ≠ (s_.2.1 : Value).ownBlock ∧ some k_ ≠ (s_.2.2 : Value).ownBlock) s_.1 ap) ∧ (Kd.R (Kd.int .i64) 3 w' w.heap.size (fun k_ => (w.heap.size ≤ k_) ∧ some k_ ≠ (.slice E x.length G : Value).ownBlock ∧ some k_ ≠ (.slice F y.length I : Value).ownBlock ∧ some k_ ≠ (s_.1 : Value).ownBlock ∧ some k_ ≠ (s_.2.2 : Value).ownBlock) s_.2.1 am) ∧ (Kd.R (Kd.int .i64) 3 w' w.heap.size (fun k_ => (w.heap.size ≤ k_) ∧ some k_ ≠ (.slice E x.length G : Value).ownBlock ∧ some k_ ≠ (.slice F y.length I : Value).ownBlock ∧ some k_ ≠ (s_.1 : Value).ownBlock ∧ some k_ ≠ (s_.2.1 : Value).ownBlock) s_.2.2 an) ∧ (w'.heap[d]? = some (.cells #[.slice none 0 0, .slice none 0 0, .slice none 0 0, .int .i64 0] 34 (0, 0))) ∧ (w'.heap[v]? = some (.cells #[.slice E x.length G, .slice F y.length I, .slice Q J.length T, .int .i64 L] 34 (0, 0))) ∧ (Ae w w' g1043 D ac ad) ∧ (Below w.heap.size w w')) ?_ ?_
 rotate_left
 ·intro hCont
  refine Ub (i := 2) (j := 6) (Ni := some 19) (Nj := some 23) #[true, true, true, true, false, true, false, false, true, false, false, false, false, false] #[true, true, false, true, false, true, true, false, true, false, false, false, false, false] rfl rfl rfl rfl (Lr HT_.1 (by kernel_rfl)) (by decide) (by decide) (fun K hK => ?_) (fun K hK => ?_)
  ·skip
   refine gs_ Tryz.func43 #[.pointer (some ⟨g1043, 0, none⟩)] ?_
   with_reducible refine (BW.calls k g1043 D ae af ap X Y w _ ?side1 ?side2 A4.1).mono ?_
   (case side1 => exact Bz a.1 b.1 c.1)
   (case side2 => exact Fo HB.1 (Ae.ge a.1) u.1 z.1)
   rintro e bi ⟨Z, rfl, O, hi, hb, hk⟩
   refine ⟨_, rfl, ?_⟩
   have _ := Q_ (Aw.blk hk (g' := d) (o := .cells #[.slice none 0 0, .slice none 0 0, .slice none 0 0, .int .i64 0] 34 (0, 0)) (pk_ l.1) V.1 (by simp))
   have _ := Q_ (Kd.Ax (Kd.E7 (Kd.Hw (Ae.apart (show Ae w _ g1043 D ae af from Bz a.1 b.1 c.1) (pr_ q.1) (by decide)) hk) (Kd.BJ O)) (fun _ h_ => h_.1))
   have _ := Q_ (Kd.Ax (Kd.E7 (Kd.Hw (Ae.apart (show Ae w _ g1043 D ae af from Bz a.1 b.1 c.1) (pr_ r.1) (by decide)) hk) (Kd.BJ O)) (fun _ h_ => h_.1))
   have _ := Q_ (Kd.DW (Kd.Ij (Kd.K0 (Kd.DW (ok := fun k_ => (((w.heap.size ≤ k_)) ∧ (some k_ ≠ (.slice E x.length G : Value).ownBlock ∧ (some k_ ≠ (.slice F y.length I : Value).ownBlock ∧ (k_ ≠ d ∧ (k_ ≠ v ∧ k_ ≠ g1043)))))) (px_ s.1) (fun k_ hk_ => (⟨hk_, hk_.2.2.2.2.2⟩ : _ ∧ k_ ≠ g1043))) hk) (Kd.BJ O)) (fun _ h_ => h_.1))
   have _ := Q_ (Aw.blk hk (g' := v) (o := .cells #[.slice E x.length G, .slice F y.length I, .slice Q J.length T, .int .i64 L] 34 (0, 0)) (pk_ m.1) W.1 (by simp))
   have _ := Q_ (Kd.BV (Kd.B8 (Kd.B8 (Kd.HN (M := fun k_ => (w.heap.size ≤ k_)) O (AZ (Fo HB.1 (Ae.ge a.1) u.1 z.1)) (fun k_ h_ => h_)) (Kd.Dj (pr_ q.1))) (Kd.Dj (pr_ r.1))) (AZ (Fo HB.1 (Ae.ge a.1) u.1 z.1)))
   have _ := Q_ (hb)
   have _ := Q_ (hi)
   clear l q r s m HB a
   rename_i l q r s m A HB a
   (try clear hb hk hi O)
   refine hK.out _ _ (sb_ m.1) (fun hHeld => ?_)
   clear hK K
   refine no_ (some 19) ?_
   refine Ub (i := 4) (j := 6) (Ni := some 21) (Nj := some 23) #[true, true, true, true, true, true, false, false, true, false, false, false, false, false] #[true, true, true, true, false, true, true, false, true, false, false, false, false, false] rfl rfl rfl rfl (Lr HT_.1 (by kernel_rfl)) (by decide) (by decide) (fun K hK => ?_) (fun K hK => ?_)
   ·skip
    refine gs_ Tryz.func44 #[.pointer (some ⟨g1043, 0, none⟩)] ?_
    with_reducible refine (Bc.calls k g1043 D X Y am ac ad w _ ?side1 ?side2 A5.1).mono ?_
    (case side1 => exact Bz a.1 b.1 c.1)
    (case side2 => exact Fo HB.1 (Ae.ge a.1) u.1 z.1)
    rintro e bj ⟨ab, rfl, O, hi, hb, hk⟩
    refine ⟨_, rfl, ?_⟩
    have _ := Q_ (Aw.blk hk (g' := d) (o := .cells #[.slice none 0 0, .slice none 0 0, .slice none 0 0, .int .i64 0] 34 (0, 0)) (pk_ l.1) V.1 (by simp))
    have _ := Q_ (Kd.Ax (Kd.E7 (Kd.Hw (Ae.apart (show Ae w _ g1043 D X Y from Bz a.1 b.1 c.1) (pr_ q.1) (by decide)) hk) (Kd.BJ O)) (fun _ h_ => h_.1))
    have _ := Q_ (Kd.Ax (Kd.E7 (Kd.Hw (Ae.apart (show Ae w _ g1043 D X Y from Bz a.1 b.1 c.1) (pr_ r.1) (by decide)) hk) (Kd.BJ O)) (fun _ h_ => h_.1))
    have _ := Q_ (Kd.DW (Kd.Ij (Kd.K0 (Kd.DW (ok := fun k_ => ((((w.heap.size ≤ k_)) ∧ (some k_ ≠ (.slice E x.length G : Value).ownBlock ∧ (some k_ ≠ (.slice F y.length I : Value).ownBlock ∧ (k_ ≠ d ∧ (k_ ≠ v ∧ k_ ≠ g1043))))) ∧ some k_ ≠ (Z : Value).ownBlock)) (px_ s.1) (fun k_ hk_ => (⟨hk_, hk_.1.2.2.2.2.2⟩ : _ ∧ k_ ≠ g1043))) hk) (Kd.BJ O)) (fun _ h_ => h_.1))
    have _ := Q_ (Aw.blk hk (g' := v) (o := .cells #[.slice E x.length G, .slice F y.length I, .slice Q J.length T, .int .i64 L] 34 (0, 0)) (pk_ m.1) W.1 (by simp))
    have _ := Q_ (Kd.Ax (Kd.E7 (Kd.Hw (Ae.apart (show Ae w _ g1043 D X Y from Bz a.1 b.1 c.1) (pr_ A.1) (by decide)) hk) (Kd.BJ O)) (fun _ h_ => h_.1))
    have _ := Q_ (Kd.BV (Kd.B8 (Kd.B8 (Kd.B8 (Kd.HN (M := fun k_ => (w.heap.size ≤ k_)) O (AZ (Fo HB.1 (Ae.ge a.1) u.1 z.1)) (fun k_ h_ => h_)) (Kd.Dj (pr_ q.1))) (Kd.Dj (pr_ r.1))) (Kd.Dj (pr_ A.1))) (AZ (Fo HB.1 (Ae.ge a.1) u.1 z.1)))
    have _ := Q_ (hb)
    have _ := Q_ (hi)
    clear l q r s m A HB a
    rename_i l q r s m A P HB a
    (try clear hb hk hi O)
    refine hK.out _ _ (sb_ m.1) (fun hHeld => ?_)
    clear hK K
    refine no_ (some 21) ?_
    refine on_ 6 (some 23) (tm_ 14 383) HT_ (fun K hK => ?_)
    refine JY .i64 3 23 ([5, 77, 0] : List Int) ?_
    intro aa bk ah hb
    rw [← ag.1] at ah
    have _ := Q_ (Kd.B0 (pr_ q.1) (Kd.BJ ah) hb)
    have _ := Q_ (Kd.B0 (pr_ r.1) (Kd.BJ ah) hb)
    have _ := Q_ (Kd.E9 (px_ s.1) (Kd.BJ ah) hb)
    have _ := Q_ (Kd.B0 (pr_ A.1) (Kd.BJ ah) hb)
    have _ := Q_ (Kd.B0 (pr_ P.1) (Kd.BJ ah) hb)
    have _ := Q_ (Kd.BV (Kd.B8 (Kd.B8 (Kd.B8 (Kd.B8 (Kd.HN (M := fun k_ => (w.heap.size ≤ k_)) ah (AZ (Fo HB.1 (Ae.ge a.1) u.1 z.1)) (fun k_ h_ => h_)) (Kd.Dj (pr_ q.1))) (Kd.Dj (pr_ r.1))) (Kd.Dj (pr_ A.1))) (Kd.Dj (pr_ P.1))) (AZ (Fo HB.1 (Ae.ge a.1) u.1 z.1)))
    have _ := Q_ (bb_ l.1 hb)
    have _ := Q_ (bb_ m.1 hb)
    have _ := Q_ (Ae.below (Bz a.1 b.1 c.1) hb)
    have _ := Q_ (AD (Fo HB.1 (Ae.ge a.1) u.1 z.1) hb)
    clear q r s A P l m a HB
    rename_i q r s A P B l m a HB
    clear hb ah
    refine hK.out _ _ (sb_ m.1) (fun hHeld => ?_)
    clear hK K
    refine no_ (some 23) ?_
    exact Ja (by simp only [Ic, Act.put, List.setIfInBounds_toArray, List.set_cons_zero, List.set_cons_succ]) (hCont (Z, ab, aa) _ ⟨hHeld, (by (with_reducible repeat (first | apply Kd.Ef | apply Kd.Ed | apply Kd.EU)); exact Kd.Ax q.1 (fun _ hk => ⟨hk.1.1.1.1, ⟨hk.1.1.1.2, ⟨hk.1.1.2, ⟨hk.1.2, hk.2⟩⟩⟩⟩)), (by (with_reducible repeat (first | apply Kd.Ef | apply Kd.Ed | apply Kd.EU)); exact Kd.Ax r.1 (fun _ hk => ⟨hk.1.1.1.1, ⟨hk.1.1.1.2, ⟨hk.1.1.2, ⟨hk.1.2, hk.2⟩⟩⟩⟩)), (by (with_reducible repeat (first | apply Kd.F4 | apply Kd.F3 | apply Kd.E6)); exact Kd.DW s.1 (fun _ hk => ⟨hk.1.1.1.1, ⟨hk.1.1.1.2.1, ⟨hk.1.1.1.2.2.1, ⟨hk.1.1.2, ⟨hk.1.2, ⟨hk.2, ⟨hk.1.1.1.2.2.2.1, ⟨hk.1.1.1.2.2.2.2.1, hk.1.1.1.2.2.2.2.2⟩⟩⟩⟩⟩⟩⟩⟩)), (by (with_reducible repeat (first | apply Kd.Ef | apply Kd.Ed | apply Kd.EU)); exact Kd.Ax A.1 (fun _ hk => ⟨hk.1.1.1.1.1, ⟨hk.1.1.1.2, ⟨hk.1.1.2, ⟨hk.1.2, hk.2⟩⟩⟩⟩)), (by (with_reducible repeat (first | apply Kd.Ef | apply Kd.Ed | apply Kd.EU)); exact Kd.Ax P.1 (fun _ hk => ⟨hk.1.1.1.1.1, ⟨hk.1.1.1.2, ⟨hk.1.1.2, ⟨hk.1.2, hk.2⟩⟩⟩⟩)), (by (with_reducible repeat (first | apply Kd.Ef | apply Kd.Ed | apply Kd.EU)); exact Kd.Ax B.1 (fun _ hk => ⟨hk.1.1.1.1.1, ⟨hk.1.1.1.2, ⟨hk.1.1.2, ⟨hk.1.2, hk.2⟩⟩⟩⟩)), (pk_ l.1), (pk_ m.1), (Bz a.1 b.1 c.1), (Fo HB.1 (Ae.ge a.1) u.1 z.1)⟩)
   ·skip
    refine JY .i64 3 23 ([5, 77, 0] : List Int) ?_
    intro aa bj ak hb
    rw [← ag.1] at ak
    have _ := Q_ (Kd.B0 (pr_ q.1) (Kd.BJ ak) hb)
    have _ := Q_ (Kd.B0 (pr_ r.1) (Kd.BJ ak) hb)
    have _ := Q_ (Kd.E9 (px_ s.1) (Kd.BJ ak) hb)
    have _ := Q_ (Kd.B0 (pr_ A.1) (Kd.BJ ak) hb)
    have _ := Q_ (Kd.BV (Kd.B8 (Kd.B8 (Kd.B8 (Kd.HN (M := fun k_ => (w.heap.size ≤ k_)) ak (AZ (Fo HB.1 (Ae.ge a.1) u.1 z.1)) (fun k_ h_ => h_)) (Kd.Dj (pr_ q.1))) (Kd.Dj (pr_ r.1))) (Kd.Dj (pr_ A.1))) (AZ (Fo HB.1 (Ae.ge a.1) u.1 z.1)))
    have _ := Q_ (bb_ l.1 hb)
    have _ := Q_ (bb_ m.1 hb)
    have _ := Q_ (Ae.below (Bz a.1 b.1 c.1) hb)
    have _ := Q_ (AD (Fo HB.1 (Ae.ge a.1) u.1 z.1) hb)
    clear q r s A l m a HB
    rename_i q r s A B l m a HB
    clear hb ak
    refine hK.out _ _ (sb_ m.1) (fun hHeld => ?_)
    clear hK K
    refine no_ (some 23) ?_
    refine on_ 4 (some 21) (tm_ 14 383) HT_ (fun K hK => ?_)
    refine gs_ Tryz.func44 #[.pointer (some ⟨g1043, 0, none⟩)] ?_
    with_reducible refine (Bc.calls k g1043 D X Y am ac ad w _ ?side1 ?side2 A5.1).mono ?_
    (case side1 => exact Bz a.1 b.1 c.1)
    (case side2 => exact Fo HB.1 (Ae.ge a.1) u.1 z.1)
    rintro e bl ⟨ab, rfl, O, hi, hb, hk⟩
    refine ⟨_, rfl, ?_⟩
    have _ := Q_ (Aw.blk hk (g' := d) (o := .cells #[.slice none 0 0, .slice none 0 0, .slice none 0 0, .int .i64 0] 34 (0, 0)) (pk_ l.1) V.1 (by simp))
    have _ := Q_ (Kd.Ax (Kd.E7 (Kd.Hw (Ae.apart (show Ae w _ g1043 D X Y from Bz a.1 b.1 c.1) (pr_ q.1) (by decide)) hk) (Kd.BJ O)) (fun _ h_ => h_.1))
    have _ := Q_ (Kd.Ax (Kd.E7 (Kd.Hw (Ae.apart (show Ae w _ g1043 D X Y from Bz a.1 b.1 c.1) (pr_ r.1) (by decide)) hk) (Kd.BJ O)) (fun _ h_ => h_.1))
    have _ := Q_ (Kd.DW (Kd.Ij (Kd.K0 (Kd.DW (ok := fun k_ => (((((w.heap.size ≤ k_)) ∧ (some k_ ≠ (.slice E x.length G : Value).ownBlock ∧ (some k_ ≠ (.slice F y.length I : Value).ownBlock ∧ (k_ ≠ d ∧ (k_ ≠ v ∧ k_ ≠ g1043))))) ∧ some k_ ≠ (Z : Value).ownBlock) ∧ some k_ ≠ (aa : Value).ownBlock)) (px_ s.1) (fun k_ hk_ => (⟨hk_, hk_.1.1.2.2.2.2.2⟩ : _ ∧ k_ ≠ g1043))) hk) (Kd.BJ O)) (fun _ h_ => h_.1))
    have _ := Q_ (Aw.blk hk (g' := v) (o := .cells #[.slice E x.length G, .slice F y.length I, .slice Q J.length T, .int .i64 L] 34 (0, 0)) (pk_ m.1) W.1 (by simp))
    have _ := Q_ (Kd.Ax (Kd.E7 (Kd.Hw (Ae.apart (show Ae w _ g1043 D X Y from Bz a.1 b.1 c.1) (pr_ A.1) (by decide)) hk) (Kd.BJ O)) (fun _ h_ => h_.1))
    have _ := Q_ (Kd.Ax (Kd.E7 (Kd.Hw (Ae.apart (show Ae w _ g1043 D X Y from Bz a.1 b.1 c.1) (pr_ B.1) (by decide)) hk) (Kd.BJ O)) (fun _ h_ => h_.1))
    have _ := Q_ (Kd.BV (Kd.B8 (Kd.B8 (Kd.B8 (Kd.B8 (Kd.HN (M := fun k_ => (w.heap.size ≤ k_)) O (AZ (Fo HB.1 (Ae.ge a.1) u.1 z.1)) (fun k_ h_ => h_)) (Kd.Dj (pr_ q.1))) (Kd.Dj (pr_ r.1))) (Kd.Dj (pr_ A.1))) (Kd.Dj (pr_ B.1))) (AZ (Fo HB.1 (Ae.ge a.1) u.1 z.1)))
    have _ := Q_ (hb)
    have _ := Q_ (hi)
    clear l q r s m A B HB a
    rename_i l q r s m A B P HB a
    (try clear hb hk hi O)
    refine hK.out _ _ (sb_ m.1) (fun hHeld => ?_)
    clear hK K
    refine no_ (some 21) ?_
    exact Ja (by simp only [Ic, Act.put, List.setIfInBounds_toArray, List.set_cons_zero, List.set_cons_succ]) (hCont (Z, ab, aa) _ ⟨hHeld, (by (with_reducible repeat (first | apply Kd.Ef | apply Kd.Ed | apply Kd.EU)); exact Kd.Ax q.1 (fun _ hk => ⟨hk.1.1.1.1, ⟨hk.1.1.1.2, ⟨hk.1.1.2, ⟨hk.2, hk.1.2⟩⟩⟩⟩)), (by (with_reducible repeat (first | apply Kd.Ef | apply Kd.Ed | apply Kd.EU)); exact Kd.Ax r.1 (fun _ hk => ⟨hk.1.1.1.1, ⟨hk.1.1.1.2, ⟨hk.1.1.2, ⟨hk.2, hk.1.2⟩⟩⟩⟩)), (by (with_reducible repeat (first | apply Kd.F4 | apply Kd.F3 | apply Kd.E6)); exact Kd.DW s.1 (fun _ hk => ⟨hk.1.1.1.1, ⟨hk.1.1.1.2.1, ⟨hk.1.1.1.2.2.1, ⟨hk.1.1.2, ⟨hk.2, ⟨hk.1.2, ⟨hk.1.1.1.2.2.2.1, ⟨hk.1.1.1.2.2.2.2.1, hk.1.1.1.2.2.2.2.2⟩⟩⟩⟩⟩⟩⟩⟩)), (by (with_reducible repeat (first | apply Kd.Ef | apply Kd.Ed | apply Kd.EU)); exact Kd.Ax A.1 (fun _ hk => ⟨hk.1.1.1.1.1, ⟨hk.1.1.1.2, ⟨hk.1.1.2, ⟨hk.2, hk.1.2⟩⟩⟩⟩)), (by (with_reducible repeat (first | apply Kd.Ef | apply Kd.Ed | apply Kd.EU)); exact Kd.Ax P.1 (fun _ hk => ⟨hk.1.1.1.1.1, ⟨hk.1.1.1.2, ⟨hk.1.1.2, ⟨hk.1.2, hk.2⟩⟩⟩⟩)), (by (with_reducible repeat (first | apply Kd.Ef | apply Kd.Ed | apply Kd.EU)); exact Kd.Ax B.1 (fun _ hk => ⟨hk.1.1.1.1.1, ⟨hk.1.1.1.2, ⟨hk.1.1.2, ⟨hk.1.2, hk.2⟩⟩⟩⟩)), (pk_ l.1), (pk_ m.1), (Bz a.1 b.1 c.1), (Fo HB.1 (Ae.ge a.1) u.1 z.1)⟩)
  ·skip
   refine JY .i64 3 23 ([5, 77, 0] : List Int) ?_
   intro aa bi ao hb
   rw [← ag.1] at ao
   have _ := Q_ (Kd.B0 (pr_ q.1) (Kd.BJ ao) hb)
   have _ := Q_ (Kd.B0 (pr_ r.1) (Kd.BJ ao) hb)
   have _ := Q_ (Kd.E9 (px_ s.1) (Kd.BJ ao) hb)
   have _ := Q_ (Kd.BV (Kd.B8 (Kd.B8 (Kd.HN (M := fun k_ => (w.heap.size ≤ k_)) ao (AZ (Fo HB.1 (Ae.ge a.1) u.1 z.1)) (fun k_ h_ => h_)) (Kd.Dj (pr_ q.1))) (Kd.Dj (pr_ r.1))) (AZ (Fo HB.1 (Ae.ge a.1) u.1 z.1)))
   have _ := Q_ (bb_ l.1 hb)
   have _ := Q_ (bb_ m.1 hb)
   have _ := Q_ (Ae.below (Bz a.1 b.1 c.1) hb)
   have _ := Q_ (AD (Fo HB.1 (Ae.ge a.1) u.1 z.1) hb)
   clear q r s l m a HB
   rename_i q r s B l m a HB
   clear hb ao
   refine hK.out _ _ (sb_ m.1) (fun hHeld => ?_)
   clear hK K
   refine no_ (some 23) ?_
   refine on_ 2 (some 19) (tm_ 14 367) HT_ (fun K hK => ?_)
   refine gs_ Tryz.func43 #[.pointer (some ⟨g1043, 0, none⟩)] ?_
   with_reducible refine (BW.calls k g1043 D ae af ap X Y w _ ?side1 ?side2 A4.1).mono ?_
   (case side1 => exact Bz a.1 b.1 c.1)
   (case side2 => exact Fo HB.1 (Ae.ge a.1) u.1 z.1)
   rintro e bk ⟨Z, rfl, O, hi, hb, hk⟩
   refine ⟨_, rfl, ?_⟩
   have _ := Q_ (Aw.blk hk (g' := d) (o := .cells #[.slice none 0 0, .slice none 0 0, .slice none 0 0, .int .i64 0] 34 (0, 0)) (pk_ l.1) V.1 (by simp))
   have _ := Q_ (Kd.Ax (Kd.E7 (Kd.Hw (Ae.apart (show Ae w _ g1043 D ae af from Bz a.1 b.1 c.1) (pr_ q.1) (by decide)) hk) (Kd.BJ O)) (fun _ h_ => h_.1))
   have _ := Q_ (Kd.Ax (Kd.E7 (Kd.Hw (Ae.apart (show Ae w _ g1043 D ae af from Bz a.1 b.1 c.1) (pr_ r.1) (by decide)) hk) (Kd.BJ O)) (fun _ h_ => h_.1))
   have _ := Q_ (Kd.DW (Kd.Ij (Kd.K0 (Kd.DW (ok := fun k_ => ((((w.heap.size ≤ k_)) ∧ (some k_ ≠ (.slice E x.length G : Value).ownBlock ∧ (some k_ ≠ (.slice F y.length I : Value).ownBlock ∧ (k_ ≠ d ∧ (k_ ≠ v ∧ k_ ≠ g1043))))) ∧ some k_ ≠ (aa : Value).ownBlock)) (px_ s.1) (fun k_ hk_ => (⟨hk_, hk_.1.2.2.2.2.2⟩ : _ ∧ k_ ≠ g1043))) hk) (Kd.BJ O)) (fun _ h_ => h_.1))
   have _ := Q_ (Aw.blk hk (g' := v) (o := .cells #[.slice E x.length G, .slice F y.length I, .slice Q J.length T, .int .i64 L] 34 (0, 0)) (pk_ m.1) W.1 (by simp))
   have _ := Q_ (Kd.Ax (Kd.E7 (Kd.Hw (Ae.apart (show Ae w _ g1043 D ae af from Bz a.1 b.1 c.1) (pr_ B.1) (by decide)) hk) (Kd.BJ O)) (fun _ h_ => h_.1))
   have _ := Q_ (Kd.BV (Kd.B8 (Kd.B8 (Kd.B8 (Kd.HN (M := fun k_ => (w.heap.size ≤ k_)) O (AZ (Fo HB.1 (Ae.ge a.1) u.1 z.1)) (fun k_ h_ => h_)) (Kd.Dj (pr_ q.1))) (Kd.Dj (pr_ r.1))) (Kd.Dj (pr_ B.1))) (AZ (Fo HB.1 (Ae.ge a.1) u.1 z.1)))
   have _ := Q_ (hb)
   have _ := Q_ (hi)
   clear l q r s m B HB a
   rename_i l q r s m B A HB a
   (try clear hb hk hi O)
   refine hK.out _ _ (sb_ m.1) (fun hHeld => ?_)
   clear hK K
   refine no_ (some 19) ?_
   refine on_ 4 (some 21) (tm_ 14 383) HT_ (fun K hK => ?_)
   refine gs_ Tryz.func44 #[.pointer (some ⟨g1043, 0, none⟩)] ?_
   with_reducible refine (Bc.calls k g1043 D X Y am ac ad w _ ?side1 ?side2 A5.1).mono ?_
   (case side1 => exact Bz a.1 b.1 c.1)
   (case side2 => exact Fo HB.1 (Ae.ge a.1) u.1 z.1)
   rintro e bl ⟨ab, rfl, O, hi, hb, hk⟩
   refine ⟨_, rfl, ?_⟩
   have _ := Q_ (Aw.blk hk (g' := d) (o := .cells #[.slice none 0 0, .slice none 0 0, .slice none 0 0, .int .i64 0] 34 (0, 0)) (pk_ l.1) V.1 (by simp))
   have _ := Q_ (Kd.Ax (Kd.E7 (Kd.Hw (Ae.apart (show Ae w _ g1043 D X Y from Bz a.1 b.1 c.1) (pr_ q.1) (by decide)) hk) (Kd.BJ O)) (fun _ h_ => h_.1))
   have _ := Q_ (Kd.Ax (Kd.E7 (Kd.Hw (Ae.apart (show Ae w _ g1043 D X Y from Bz a.1 b.1 c.1) (pr_ r.1) (by decide)) hk) (Kd.BJ O)) (fun _ h_ => h_.1))
   have _ := Q_ (Kd.DW (Kd.Ij (Kd.K0 (Kd.DW (ok := fun k_ => (((((w.heap.size ≤ k_)) ∧ (some k_ ≠ (.slice E x.length G : Value).ownBlock ∧ (some k_ ≠ (.slice F y.length I : Value).ownBlock ∧ (k_ ≠ d ∧ (k_ ≠ v ∧ k_ ≠ g1043))))) ∧ some k_ ≠ (aa : Value).ownBlock) ∧ some k_ ≠ (Z : Value).ownBlock)) (px_ s.1) (fun k_ hk_ => (⟨hk_, hk_.1.1.2.2.2.2.2⟩ : _ ∧ k_ ≠ g1043))) hk) (Kd.BJ O)) (fun _ h_ => h_.1))
   have _ := Q_ (Aw.blk hk (g' := v) (o := .cells #[.slice E x.length G, .slice F y.length I, .slice Q J.length T, .int .i64 L] 34 (0, 0)) (pk_ m.1) W.1 (by simp))
   have _ := Q_ (Kd.Ax (Kd.E7 (Kd.Hw (Ae.apart (show Ae w _ g1043 D X Y from Bz a.1 b.1 c.1) (pr_ B.1) (by decide)) hk) (Kd.BJ O)) (fun _ h_ => h_.1))
   have _ := Q_ (Kd.Ax (Kd.E7 (Kd.Hw (Ae.apart (show Ae w _ g1043 D X Y from Bz a.1 b.1 c.1) (pr_ A.1) (by decide)) hk) (Kd.BJ O)) (fun _ h_ => h_.1))
   have _ := Q_ (Kd.BV (Kd.B8 (Kd.B8 (Kd.B8 (Kd.B8 (Kd.HN (M := fun k_ => (w.heap.size ≤ k_)) O (AZ (Fo HB.1 (Ae.ge a.1) u.1 z.1)) (fun k_ h_ => h_)) (Kd.Dj (pr_ q.1))) (Kd.Dj (pr_ r.1))) (Kd.Dj (pr_ B.1))) (Kd.Dj (pr_ A.1))) (AZ (Fo HB.1 (Ae.ge a.1) u.1 z.1)))
   have _ := Q_ (hb)
   have _ := Q_ (hi)
   clear l q r s m B A HB a
   rename_i l q r s m B A P HB a
   (try clear hb hk hi O)
   refine hK.out _ _ (sb_ m.1) (fun hHeld => ?_)
   clear hK K
   refine no_ (some 21) ?_
   exact Ja (by simp only [Ic, Act.put, List.setIfInBounds_toArray, List.set_cons_zero, List.set_cons_succ]) (hCont (Z, ab, aa) _ ⟨hHeld, (by (with_reducible repeat (first | apply Kd.Ef | apply Kd.Ed | apply Kd.EU)); exact Kd.Ax q.1 (fun _ hk => ⟨hk.1.1.1.1, ⟨hk.1.1.1.2, ⟨hk.1.2, ⟨hk.2, hk.1.1.2⟩⟩⟩⟩)), (by (with_reducible repeat (first | apply Kd.Ef | apply Kd.Ed | apply Kd.EU)); exact Kd.Ax r.1 (fun _ hk => ⟨hk.1.1.1.1, ⟨hk.1.1.1.2, ⟨hk.1.2, ⟨hk.2, hk.1.1.2⟩⟩⟩⟩)), (by (with_reducible repeat (first | apply Kd.F4 | apply Kd.F3 | apply Kd.E6)); exact Kd.DW s.1 (fun _ hk => ⟨hk.1.1.1.1, ⟨hk.1.1.1.2.1, ⟨hk.1.1.1.2.2.1, ⟨hk.1.2, ⟨hk.2, ⟨hk.1.1.2, ⟨hk.1.1.1.2.2.2.1, ⟨hk.1.1.1.2.2.2.2.1, hk.1.1.1.2.2.2.2.2⟩⟩⟩⟩⟩⟩⟩⟩)), (by (with_reducible repeat (first | apply Kd.Ef | apply Kd.Ed | apply Kd.EU)); exact Kd.Ax A.1 (fun _ hk => ⟨hk.1.1.1.1.1, ⟨hk.1.1.1.2, ⟨hk.1.1.2, ⟨hk.2, hk.1.2⟩⟩⟩⟩)), (by (with_reducible repeat (first | apply Kd.Ef | apply Kd.Ed | apply Kd.EU)); exact Kd.Ax P.1 (fun _ hk => ⟨hk.1.1.1.1.1, ⟨hk.1.1.1.2, ⟨hk.1.1.2, ⟨hk.2, hk.1.2⟩⟩⟩⟩)), (by (with_reducible repeat (first | apply Kd.Ef | apply Kd.Ed | apply Kd.EU)); exact Kd.Ax B.1 (fun _ hk => ⟨hk.1.1.1.1.1, ⟨hk.1.1.1.2, ⟨hk.1.1.2, ⟨hk.1.2, hk.2⟩⟩⟩⟩)), (pk_ l.1), (pk_ m.1), (Bz a.1 b.1 c.1), (Fo HB.1 (Ae.ge a.1) u.1 z.1)⟩)
 rintro ⟨Z, ab, aa⟩ al ⟨hS_, h0_, h1_, h2_, h3_, h4_, h5_, h6_, h7_, h8_, h9_⟩
 have n0_ : Aside0 (Kd.R (Kd.int .i64) 3 al w.heap.size (fun k_ => (w.heap.size ≤ k_) ∧ some k_ ≠ (.slice F y.length I : Value).ownBlock ∧ some k_ ≠ (Z : Value).ownBlock ∧ some k_ ≠ (ab : Value).ownBlock ∧ some k_ ≠ (aa : Value).ownBlock) (.slice E x.length G) x) := ⟨h0_⟩
 have n1_ : Aside0 (Kd.R (Kd.int .i64) 3 al w.heap.size (fun k_ => (w.heap.size ≤ k_) ∧ some k_ ≠ (.slice E x.length G : Value).ownBlock ∧ some k_ ≠ (Z : Value).ownBlock ∧ some k_ ≠ (ab : Value).ownBlock ∧ some k_ ≠ (aa : Value).ownBlock) (.slice F y.length I) y) := ⟨h1_⟩
 have n2_ : Aside0 (Kd.N k75 75 al w.heap.size (fun k_ => (w.heap.size ≤ k_) ∧ some k_ ≠ (.slice E x.length G : Value).ownBlock ∧ some k_ ≠ (.slice F y.length I : Value).ownBlock ∧ some k_ ≠ (Z : Value).ownBlock ∧ some k_ ≠ (ab : Value).ownBlock ∧ some k_ ≠ (aa : Value).ownBlock ∧ k_ ≠ d ∧ k_ ≠ v ∧ k_ ≠ g1043) (.slice Q J.length T) J) := ⟨h2_⟩
 have n3_ : Aside0 (Kd.R (Kd.int .i64) 3 al w.heap.size (fun k_ => (w.heap.size ≤ k_) ∧ some k_ ≠ (.slice E x.length G : Value).ownBlock ∧ some k_ ≠ (.slice F y.length I : Value).ownBlock ∧ some k_ ≠ (ab : Value).ownBlock ∧ some k_ ≠ (aa : Value).ownBlock) Z ap) := ⟨h3_⟩
 have n4_ : Aside0 (Kd.R (Kd.int .i64) 3 al w.heap.size (fun k_ => (w.heap.size ≤ k_) ∧ some k_ ≠ (.slice E x.length G : Value).ownBlock ∧ some k_ ≠ (.slice F y.length I : Value).ownBlock ∧ some k_ ≠ (Z : Value).ownBlock ∧ some k_ ≠ (aa : Value).ownBlock) ab am) := ⟨h4_⟩
 have n5_ : Aside0 (Kd.R (Kd.int .i64) 3 al w.heap.size (fun k_ => (w.heap.size ≤ k_) ∧ some k_ ≠ (.slice E x.length G : Value).ownBlock ∧ some k_ ≠ (.slice F y.length I : Value).ownBlock ∧ some k_ ≠ (Z : Value).ownBlock ∧ some k_ ≠ (ab : Value).ownBlock) aa an) := ⟨h5_⟩
 have n6_ : Aside0 (al.heap[d]? = some (.cells #[.slice none 0 0, .slice none 0 0, .slice none 0 0, .int .i64 0] 34 (0, 0))) := ⟨h6_⟩
 have n7_ : Aside0 (al.heap[v]? = some (.cells #[.slice E x.length G, .slice F y.length I, .slice Q J.length T, .int .i64 L] 34 (0, 0))) := ⟨h7_⟩
 have n8_ : Aside0 (Ae w al g1043 D ac ad) := ⟨h8_⟩
 have n9_ : Aside0 (Below w.heap.size w al) := ⟨h9_⟩
 clear q
 clear r
 clear s
 clear l
 clear m
 clear a
 clear HB
 clear h0_ h1_ h2_ h3_ h4_ h5_ h6_ h7_ h8_ h9_
 have q := n0_
 have r := n1_
 have s := n2_
 have A := n3_
 have P := n4_
 have B := n5_
 have l := n6_
 have m := n7_
 have a := n8_
 have HB := n9_
 clear n0_ n1_ n2_ n3_ n4_ n5_ n6_ n7_ n8_ n9_
 have hHeld : al.cell? ⟨v, 0, none⟩ = some (.slice E x.length G) ∧ al.cell? ⟨v, 1, none⟩ = some (.slice F y.length I) ∧ al.cell? ⟨v, 2, none⟩ = some (.slice Q J.length T) ∧ al.cell? ⟨v, 3, none⟩ = some (.int .i64 L) := hS_
 obtain ⟨aC, aD, aE⟩ := Kd.Bo B.1
 (first | subst aE | (injection aE with f1_ f2_ f3_; have f4_ := f1_.symm; have f5_ := f3_.symm; clear f1_ f2_ f3_; subst f4_; subst f5_))
 refine Ja (a' := ?_) ?_ ?_
 rotate_left
 ·simp only [Ic, Act.put, List.setIfInBounds_toArray, List.set_cons_zero, List.set_cons_succ]
  rfl
 refine on_ 7 (some 24) (tf_ 9 14) HT_ (fun K hK => ?_)
 refine gs_ Tryz.func45 #[.pointer (some ⟨g1043, 0, none⟩), .slice aC an.length aD] ?_
 with_reducible refine (D'.calls g1043 D ac ad _ _ an aF aG aH w _ ?side1 ?side2 ?side3 ?side4 ?side5 A6.1).mono ?_
 (case side1 => exact Bz a.1 b.1 c.1)
 (case side2 => exact Fo HB.1 (Ae.ge a.1) u.1 z.1)
 (case side3 => exact pc_ ((Kd.BH B.1).2.2))
 (case side4 => exact (Kd.BH B.1).2.1)
 (case side5 => exact Ig (Ae.own_ne a.1 B.1 (by decide)))
 rintro e aB ⟨rfl, hi, hb, hk⟩
 refine ⟨_, rfl, ?_⟩
 have _ := Q_ (Aw.blk hk (g' := d) (o := .cells #[.slice none 0 0, .slice none 0 0, .slice none 0 0, .int .i64 0] 34 (0, 0)) (pk_ l.1) V.1 (by simp))
 have _ := Q_ (Kd.Ax (Kd.Fg (Ae.apart (show Ae w _ g1043 D ac ad from Bz a.1 b.1 c.1) (pr_ q.1) (by decide)) hk (fun _ h => h.2)) (fun _ h => h.1))
 have _ := Q_ (Kd.Ax (Kd.Fg (Ae.apart (show Ae w _ g1043 D ac ad from Bz a.1 b.1 c.1) (pr_ r.1) (by decide)) hk (fun _ h => h.2)) (fun _ h => h.1))
 have _ := Q_ (Kd.DW (Kd.Lo (Kd.DW (ok := fun k_ => (((w.heap.size ≤ k_)) ∧ (some k_ ≠ (.slice E x.length G : Value).ownBlock ∧ (some k_ ≠ (.slice F y.length I : Value).ownBlock ∧ (some k_ ≠ (Z : Value).ownBlock ∧ (some k_ ≠ (ab : Value).ownBlock ∧ (some k_ ≠ (.slice aC an.length aD : Value).ownBlock ∧ (k_ ≠ d ∧ (k_ ≠ v ∧ k_ ≠ g1043))))))))) (px_ s.1) (fun k_ hk_ => (⟨hk_, hk_.2.2.2.2.2.2.2.2⟩ : _ ∧ k_ ≠ g1043))) hk (fun _ h => h.2)) (fun _ h => h.1))
 have _ := Q_ (Aw.blk hk (g' := v) (o := .cells #[.slice E x.length G, .slice F y.length I, .slice Q J.length T, .int .i64 L] 34 (0, 0)) (pk_ m.1) W.1 (by simp))
 have _ := Q_ (Kd.Ax (Kd.Fg (Ae.apart (show Ae w _ g1043 D ac ad from Bz a.1 b.1 c.1) (pr_ A.1) (by decide)) hk (fun _ h => h.2)) (fun _ h => h.1))
 have _ := Q_ (Kd.Ax (Kd.Fg (Ae.apart (show Ae w _ g1043 D ac ad from Bz a.1 b.1 c.1) (pr_ P.1) (by decide)) hk (fun _ h => h.2)) (fun _ h => h.1))
 have _ := Q_ (Kd.Ax (Kd.Fg (Ae.apart (show Ae w _ g1043 D ac ad from Bz a.1 b.1 c.1) (pr_ B.1) (by decide)) hk (fun _ h => h.2)) (fun _ h => h.1))
 have _ := Q_ (hb)
 have _ := Q_ (hi)
 clear l q r s m A P B HB a
 rename_i l q r s m A P B HB a
 (try clear hb hk hi)
 refine hK.out _ _ (sb_ m.1) (fun hHeld => ?_)
 clear hK K
 refine no_ (some 24) ?_
 refine on_ 9 (none) (tf_ 10 14) HT_ (fun K hK => ?_)
 have bn : aB.cell? ⟨d, 0, none⟩ = some (.slice none 0 0) := (BM l.1 0).trans rfl
 have ba := DI l.1 0
 have aS := t.1
 have aO := U.1
 have bo : aB.cell? ⟨d, 1, none⟩ = some (.slice none 0 0) := (BM l.1 1).trans rfl
 have bb := DI l.1 1
 have aT := t.1
 have aP := U.1
 have bp : aB.cell? ⟨d, 2, none⟩ = some (.slice none 0 0) := (BM l.1 2).trans rfl
 have bc := DI l.1 2
 have aU := t.1
 have aQ := U.1
 have bq : aB.cell? ⟨d, 3, none⟩ = some (.int .i64 0) := (BM l.1 3).trans rfl
 have bd := DI l.1 3
 have aV := t.1
 have aR := U.1
 refine J2 (w1 := ?_) (by rfl) rfl ?_ ?_
 rotate_left
 ·go_simp
  rfl
 refine hK.out _ _ ⟨((cell_far (p := ⟨d, _, none⟩) t.1 _).trans (((cell_far (p := ⟨d, _, none⟩) t.1 _).trans (((cell_far (p := ⟨d, _, none⟩) t.1 _).trans (((cell_far (p := ⟨d, _, none⟩) t.1 _).trans (hHeld.1)))))))), ((cell_far (p := ⟨d, _, none⟩) t.1 _).trans (((cell_far (p := ⟨d, _, none⟩) t.1 _).trans (((cell_far (p := ⟨d, _, none⟩) t.1 _).trans (((cell_far (p := ⟨d, _, none⟩) t.1 _).trans (hHeld.2.1)))))))), ((cell_far (p := ⟨d, _, none⟩) t.1 _).trans (((cell_far (p := ⟨d, _, none⟩) t.1 _).trans (((cell_far (p := ⟨d, _, none⟩) t.1 _).trans (((cell_far (p := ⟨d, _, none⟩) t.1 _).trans (hHeld.2.2.1)))))))), ((cell_far (p := ⟨d, _, none⟩) t.1 _).trans (((cell_far (p := ⟨d, _, none⟩) t.1 _).trans (((cell_far (p := ⟨d, _, none⟩) t.1 _).trans (((cell_far (p := ⟨d, _, none⟩) t.1 _).trans (hHeld.2.2.2))))))))⟩ (fun hHeld => ?_)
 clear hK K
 refine Ba 10 3 14 2047 ?_
 refine Ba 11 4 14 4095 ?_
 refine Ba 12 5 14 8191 ?_
 refine Ba 13 6 14 16383 ?_
 refine G8 (E0 HT_.1 (by kernel_rfl)) ?_
 try go_wp2
 refine bodyPost_ret (QB (rs := [.cell 2 34, .tmp 3, .tmp 4, .tmp 5, .tmp 6]) rfl (by simp) (.cell d 34 #[.slice E x.length G, .slice F y.length I, .slice Q J.length T, .int .i64 L] (0, 0) _ rfl (pp_ l.1) Tryz.underlying34 rfl (by kernel_rfl) (.tmp (.tmp (.tmp (.tmp .nil)))))) rfl ?_
 exact ⟨_, _, _, _, _, er_, by (with_reducible repeat (first | apply Kd.Ef | apply Kd.Ed | apply Kd.EU)); exact Kd.Ax (Kd.CC (p := ⟨d, 3, none⟩) (Kd.CC (p := ⟨d, 2, none⟩) (Kd.CC (p := ⟨d, 1, none⟩) (Kd.CC (p := ⟨d, 0, none⟩) (Kd.Bi q.1 l.1 (by decide)) (fun _ hk => hk.2) (.slice E x.length G)) (fun _ hk => hk.2) (.slice F y.length I)) (fun _ hk => hk.2) (.slice Q J.length T)) (fun _ hk => hk.2) (.int .i64 L)) (fun _ hk => ⟨hk.1.1, ⟨hk.1.2.1, ⟨hk.1.2.2.1, hk.1.2.2.2.1⟩⟩⟩), by (with_reducible repeat (first | apply Kd.Ef | apply Kd.Ed | apply Kd.EU)); exact Kd.Ax (Kd.CC (p := ⟨d, 3, none⟩) (Kd.CC (p := ⟨d, 2, none⟩) (Kd.CC (p := ⟨d, 1, none⟩) (Kd.CC (p := ⟨d, 0, none⟩) (Kd.Bi r.1 l.1 (by decide)) (fun _ hk => hk.2) (.slice E x.length G)) (fun _ hk => hk.2) (.slice F y.length I)) (fun _ hk => hk.2) (.slice Q J.length T)) (fun _ hk => hk.2) (.int .i64 L)) (fun _ hk => ⟨hk.1.1, ⟨hk.1.2.1, ⟨hk.1.2.2.1, hk.1.2.2.2.1⟩⟩⟩), by (with_reducible repeat (first | apply Kd.F4 | apply Kd.F3 | apply Kd.E6)); exact Kd.DW (Kd.EY (p := ⟨d, 3, none⟩) (Kd.EY (p := ⟨d, 2, none⟩) (Kd.EY (p := ⟨d, 1, none⟩) (Kd.EY (p := ⟨d, 0, none⟩) (Kd.DW s.1 (fun k_ hk => (⟨hk, hk.2.2.2.2.2.2.1⟩ : _ ∧ k_ ≠ d))) (fun _ hk => hk.2) (.slice E x.length G)) (fun _ hk => hk.2) (.slice F y.length I)) (fun _ hk => hk.2) (.slice Q J.length T)) (fun _ hk => hk.2) (.int .i64 L)) (fun _ hk => ⟨hk.1.1, ⟨hk.1.2.1, ⟨hk.1.2.2.1, ⟨hk.1.2.2.2.1, hk.1.2.2.2.2.1⟩⟩⟩⟩), by (with_reducible repeat (first | apply Kd.Ef | apply Kd.Ed | apply Kd.EU)); exact Kd.Ax (Kd.CC (p := ⟨d, 3, none⟩) (Kd.CC (p := ⟨d, 2, none⟩) (Kd.CC (p := ⟨d, 1, none⟩) (Kd.CC (p := ⟨d, 0, none⟩) (Kd.Bi A.1 l.1 (by decide)) (fun _ hk => hk.2) (.slice E x.length G)) (fun _ hk => hk.2) (.slice F y.length I)) (fun _ hk => hk.2) (.slice Q J.length T)) (fun _ hk => hk.2) (.int .i64 L)) (fun _ hk => ⟨hk.1.1, ⟨hk.1.2.1, ⟨hk.1.2.2.1, hk.1.2.2.2.1⟩⟩⟩), by (with_reducible repeat (first | apply Kd.Ef | apply Kd.Ed | apply Kd.EU)); exact Kd.Ax (Kd.CC (p := ⟨d, 3, none⟩) (Kd.CC (p := ⟨d, 2, none⟩) (Kd.CC (p := ⟨d, 1, none⟩) (Kd.CC (p := ⟨d, 0, none⟩) (Kd.Bi P.1 l.1 (by decide)) (fun _ hk => hk.2) (.slice E x.length G)) (fun _ hk => hk.2) (.slice F y.length I)) (fun _ hk => hk.2) (.slice Q J.length T)) (fun _ hk => hk.2) (.int .i64 L)) (fun _ hk => ⟨hk.1.1, ⟨hk.1.2.1, ⟨hk.1.2.2.1, hk.1.2.2.2.1⟩⟩⟩), Fo HB.1 (Ae.ge a.1) u.1 z.1⟩
def D6.f (k : Nat) (i : Bool) (a : Int) (d : List Int) (b : Bool) (c : Int) (e : List Int) : Option (Bool) := if i = true then (if b = true then (if a = c then ((Ai.f k d e).bind fun g => (some g)) else (some false)) else (some false)) else (if b = true then (some false) else (if a = c then ((Ai.f k d e).bind fun h => (some h)) else (some false)))
theorem D6.mono : ∀ a b c d e g k, LeO (D6.f k a b c d e g) (D6.f (k + 1) a b c d e g) := by
 intro a b c d e g k
 unfold D6.f
 exact G7 Ai.mono
theorem D6.calls (k : Nat) (u : Bool) (d : Int) (y : Option Addr) (F : Nat) (m : List Int) (o : Bool) (g : Int) (z : Option Addr) (G : Nat) (n : List Int) (r : Bool) (w : World) (hr0_2 : Kd.C (Kd.int .i64) w y m.length m) (I : m.length ≤ F) (hr1_2 : Kd.C (Kd.int .i64) w z n.length n) (J : n.length ≤ G) (h : D6.f k u d m o g n = some r) :
  Calls Tryz.prog 19 #[.agg #[.bool u, .int .i64 d, .slice y m.length F], .agg #[.bool o, .int .i64 g, .slice z n.length G]] w fun e w' => e = .returned (.bool r) ∧ Below w.heap.size w w' := by
 have hu28 := Tryz.underlying28
 have D := Q_ hr0_2
 have A := Q_ I
 clear hr0_2 I
 have E := Q_ hr1_2
 have B := Q_ J
 clear hr1_2 J
 have HB := Q_ (Below.refl w.heap.size w)
 unfold D6.f at h
 have H := h
 clear h
 have HS_ := Q_ H
 clear H
 go_enter Tryz.func19, Tryz.ntmps19
 go_upto_region 1 with (first | (refine bg_ 2 #[.bool u, .int .i64 d, .slice y m.length F] 28 ?_; intro S hg w3 hbox hb; have _ := Q_ (AD (pb_ HB.1) hb); have c := Q_ (hbox); have K := Q_ (gw_ (w := w) hg (pb_ HB.1)); have i := K; clear HB; rename_i HB; clear hb hbox hg) | (refine bg_ 3 #[.bool o, .int .i64 g, .slice z n.length G] 28 ?_; intro T hg w4 hbox hb; have _ := Q_ (bb_ c.1 hb); have _ := Q_ (AD (CM HB.1 i.1) hb); have j := Q_ (hbox); have L := Q_ (gw_ (w := w) hg (CM HB.1 i.1)); have l := L; have a := Q_ (nb_ hg c); have b := Q_ a.1.symm; clear c HB; rename_i c HB; clear hb hbox hg))
 (try simp only [Act.put, s1_, s2_, s3_])
 have H := HS_.1
 clear HS_
 by_cases Q : u = true
 rotate_left
 ·replace Q := bf_ Q
  subst Q
  rw [if_neg ff_] at H
  by_cases R : o = true
  ·subst R
   rw [if_pos rfl] at H
   obtain rfl := Option.some.inj H
   have au := a.1
   have av := b.1
   have aq := KW c.1
   have ar := KW j.1
   go_wp2
   go_ret
   exact ⟨er_, Dw HB.1 i.1 l.1⟩
  replace R := bf_ R
  subst R
  rw [if_neg ff_] at H
  by_cases v : d = g
  rotate_left
  ·rw [if_neg v] at H
   have p : (d == g) = false := beq_eq_false_iff_ne.mpr v
   have q : (d != g) = true := bne_iff_ne.mpr v
   (first | rw [p] | (simp only [E4, E']; rw [p]) | rw [q] | (have c_ := q; rw [bne] at c_; rw [c_]; clear c_) | skip)
   obtain rfl := Option.some.inj H
   have ag := a.1
   have al := b.1
   have W := KW c.1
   have X := KW j.1
   go_wp2
   go_ret
   exact ⟨er_, Dw HB.1 i.1 l.1⟩
  rw [if_pos v] at H
  have p : (d == g) = true := beq_iff_eq.mpr v
  have q : (d != g) = false := bne_eq_false_iff_eq.mpr v
  clear v
  (first | rw [p] | (simp only [E4, E']; rw [p]) | rw [q] | (have c_ := q; rw [bne] at c_; rw [c_]; clear c_) | skip)
  obtain ⟨t, U, H⟩ := bs_ H
  replace H : (some t) = some r := H
  obtain rfl := Option.some.inj H
  have ah := a.1
  have am := b.1
  have Y := KW c.1
  have Z := KW j.1
  go_wp2_with (first | (go_at_call 46; (with_reducible refine (Ai.calls k _ _ m _ _ n t _ (cb_ D HB) A.1 (cb_ E HB) B.1 U.1).mono ?_); rintro e w' ⟨rfl, ⟨nd, rfl⟩⟩))
  go_ret
  exact ⟨er_, Dw HB.1 i.1 l.1⟩
 subst Q
 rw [if_pos rfl] at H
 by_cases M : o = true
 rotate_left
 ·replace M := bf_ M
  subst M
  rw [if_neg ff_] at H
  obtain rfl := Option.some.inj H
  have ai := a.1
  have an := b.1
  have aa := KW c.1
  have ab := KW j.1
  go_wp2
  go_ret
  exact ⟨er_, Dw HB.1 i.1 l.1⟩
 subst M
 rw [if_pos rfl] at H
 by_cases x : d = g
 rotate_left
 ·rw [if_neg x] at H
  have O : (d == g) = false := beq_eq_false_iff_ne.mpr x
  have P : (d != g) = true := bne_iff_ne.mpr x
  obtain rfl := Option.some.inj H
  have aj := a.1
  have ao := b.1
  have ac := KW c.1
  have ad := KW j.1
  go_wp2
  go_ret
  exact ⟨er_, Dw HB.1 i.1 l.1⟩
 rw [if_pos x] at H
 have O : (d == g) = true := beq_iff_eq.mpr x
 have P : (d != g) = false := bne_eq_false_iff_eq.mpr x
 clear x
 obtain ⟨s, V, H⟩ := bs_ H
 replace H : (some s) = some r := H
 obtain rfl := Option.some.inj H
 have ak := a.1
 have ap := b.1
 have ae := KW c.1
 have af := KW j.1
 go_wp2_with (first | (go_at_call 46; (with_reducible refine (Ai.calls k _ _ m _ _ n s _ (cb_ D HB) A.1 (cb_ E HB) B.1 V.1).mono ?_); rintro e w' ⟨rfl, ⟨nd, rfl⟩⟩))
 go_ret
 exact ⟨er_, Dw HB.1 i.1 l.1⟩
def Df.f (k : Nat) (a : List Int) (i : List Int) (b : List (S75)) (h : Int) (j : List Int) : Option (Int) := (B9.f k a i b h).bind fun c => (if c = true then ((Az.f k b a).bind fun d => ((BI.f k a d).bind fun e => ((Ak.f k j e).bind fun g => (some g)))) else (some 0))
theorem Df.mono : ∀ a b c d e k, LeO (Df.f k a b c d e) (Df.f (k + 1) a b c d e) := by
 intro a b c d e k
 unfold Df.f
 exact M5 Ak.mono B9.mono Az.mono BI.mono
def Df.T3 : Bool × List (List Nat × List Nat) := (true, [([], []), ([], []), ([1], [1]), ([], []), ([3], [3]), ([], []), ([5], [5]), ([4, 6], [4, 6]), ([2, 7, 7], [2, 7]), ([0, 8, 8], [0, 8]), ([9, 9, 0, 1, 2, 3, 4, 5, 6, 7, 8, 9], [9])])
def Df.B3 : List Nat := [0, 0, 2, 0, 8, 0, 32, 120, 254, 511, 1023]
theorem Df.tab3 : rtab .any (opsOf Tryz.f21 3) = Df.T3 := by kernel_rfl
theorem Df.bits3 : Fa Df.T3.2 Df.B3 = true := by kernel_rfl
theorem Df.calls (k : Nat) (p : Option Addr) (s : Nat) (c : List Int) (y : Option Addr) (z : Nat) (j : List Int) (u : Option Addr) (v : Nat) (g : List (S75)) (q : Int) (Z : Option Addr) (c1 : Nat) (M : List Int) (r : Int) (w : World) (hr0_0 : Kd.C (Kd.int .i64) w p c.length c) (G : c.length ≤ s) (hr0_1 : Kd.C (Kd.int .i64) w y j.length j) (I : j.length ≤ z) (hr0_2 : Kd.C k75 w u g.length g) (J : g.length ≤ v) (hr1 : Kd.C (Kd.int .i64) w Z M.length M) (X : M.length ≤ c1) (h : Df.f k c j g q M = some r) :
  Calls Tryz.prog 21 #[.agg #[.slice p c.length s, .slice y j.length z, .slice u g.length v, .int .i64 q], .slice Z M.length c1] w fun e w' => e = .returned (.int .i64 r) ∧ Below w.heap.size w w' := by
 have hu34 := Tryz.underlying34
 have B := Q_ hr0_0
 have A := Q_ G
 clear hr0_0 G
 have R := Q_ hr0_1
 have Q := Q_ I
 clear hr0_1 I
 have F := Q_ hr0_2
 have E := Q_ J
 clear hr0_2 J
 have ac := Q_ hr1
 have ab := Q_ X
 clear hr1 X
 have HB := Q_ (Below.refl w.heap.size w)
 unfold Df.f at h
 have H := h
 clear h
 have HS_ := Q_ H
 clear H
 go_enter Tryz.func21, Tryz.ntmps21
 go_upto_region 1 with (first | (refine bg_ 2 #[.slice p c.length s, .slice y j.length z, .slice u g.length v, .int .i64 q] 34 ?_; intro o hg w3 hbox hb; have _ := Q_ (AD (pb_ HB.1) hb); have a := Q_ (hbox); have L := Q_ (gw_ (w := w) hg (pb_ HB.1)); have d := L; clear HB; rename_i HB; clear hb hbox hg))
 (try simp only [Act.put, s1_, s2_, s3_])
 have H := HS_.1
 clear HS_
 obtain ⟨x, A4, H⟩ := bs_ H
 (try dsimp only at H)
 have HS_ := Q_ H
 clear H
 have ag := E8 a.1
 go_upto_if 7 with (first | (refine gk_ 20 6 Tryz.func20 #[.agg #[.slice p c.length s, .slice y j.length z, .slice u g.length v, .int .i64 q]] ?_; (with_reducible refine (B9.calls k _ _ c _ _ j _ _ g q x _ (cb_ B HB) A.1 (cb_ R HB) Q.1 (cb_ F HB) E.1 A4.1).mono ?_); rintro e w6 ⟨rfl, hb⟩; refine ⟨_, rfl, ?_⟩; have _ := Q_ (bb_ a.1 hb); have _ := Q_ (AD (CM HB.1 d.1) hb); clear a HB; rename_i a HB; (try clear hb)))
 (try simp only [Act.put, s1_, s2_, s3_])
 have H := HS_.1
 clear HS_
 by_cases Y : x = true
 rotate_left
 ·replace Y := bf_ Y
  subst Y
  rw [if_neg ff_] at H
  obtain rfl := Option.some.inj H
  go_wp2
  go_ret
  exact ⟨er_, CM HB.1 d.1⟩
 subst Y
 rw [if_pos rfl] at H
 obtain ⟨t, A8, H⟩ := bs_ H
 (try dsimp only at H)
 obtain ⟨l, A9, H⟩ := bs_ H
 replace H : ((Ak.f k M l).bind fun m => (some m)) = some r := H
 obtain ⟨m, aa, H⟩ := bs_ H
 replace H : (some m) = some r := H
 obtain rfl := Option.some.inj H
 try go_wp2
 have _ := Q_ (Bq a.1)
 have _ := Q_ (Cm HB.1)
 clear a HB
 rename_i a HB
 refine sw_ (S := fun w' => w'.cell? ⟨o, 0, none⟩ = some (.slice p c.length s) ∧ w'.cell? ⟨o, 1, none⟩ = some (.slice y j.length z) ∧ w'.cell? ⟨o, 2, none⟩ = some (.slice u g.length v) ∧ w'.cell? ⟨o, 3, none⟩ = some (.int .i64 q)) 11 Df.tab3 Df.bits3 (sb_ a.1) (fun hHeld HT_ HW_ => ?_)
 generalize w6.drew = ak at a HB hHeld ⊢
 refine Ba 0 8 11 1 ?_
 refine Ba 1 9 11 3 ?_
 refine Ba 3 11 11 11 ?_
 refine Ba 5 13 11 43 ?_
 refine E1 2 10 11 47 hHeld ?_
 refine E1 4 12 11 63 hHeld ?_
 refine E1 6 14 11 127 hHeld ?_
 refine on_ 7 (some 15) (tf_ 8 11) HT_ (fun K hK => ?_)
 refine gs_ Tryz.func55 #[.slice u g.length v, .slice p c.length s] ?_
 with_reducible refine (Az.calls k _ _ g _ _ c t _ (cb_ F HB) E.1 (cb_ B HB) A.1 A8.1).mono ?_
 rintro e al ⟨ae, rfl, D, hb⟩
 refine ⟨_, rfl, ?_⟩
 have _ := Q_ (Kd.BV D (AZ (CM HB.1 d.1)))
 have _ := Q_ (bb_ a.1 hb)
 have _ := Q_ (AD (CM HB.1 d.1) hb)
 clear a HB
 rename_i b a HB
 (try clear hb D)
 obtain ⟨T, V, O⟩ := Kd.Bo b.1
 (first | subst O | (injection O with f1_ f2_ f3_; have f4_ := f1_.symm; have f5_ := f3_.symm; clear f1_ f2_ f3_; subst f4_; subst f5_))
 (try (obtain ⟨Ao_, co_, eo_⟩ := Kd.Bo b.1; subst eo_))
 refine hK.out _ _ (sb_ a.1) (fun hHeld => ?_)
 clear hK K
 refine no_ (some 15) ?_
 refine on_ 8 (some 16) (tf_ 9 11) HT_ (fun K hK => ?_)
 refine gs_ Tryz.func54 #[.slice p c.length s, .slice T t.length V] ?_
 with_reducible refine (BI.calls k _ _ c _ _ t l _ (cb_ B HB) A.1 ?side3 ?side4 A9.1).mono ?_
 (case side3 => exact pc_ ((Kd.BH b.1).2.2))
 (case side4 => exact (Kd.BH b.1).2.1)
 rintro e am ⟨af, rfl, D, hb⟩
 refine ⟨_, rfl, ?_⟩
 have _ := Q_ (Kd.B0 (pr_ b.1) (Kd.BJ D) hb)
 have _ := Q_ (Kd.BV (Kd.B8 D (Kd.Dj (pr_ b.1))) (AZ (CM HB.1 d.1)))
 have _ := Q_ (bb_ a.1 hb)
 have _ := Q_ (AD (CM HB.1 d.1) hb)
 clear b a HB
 rename_i b i a HB
 (try clear hb D)
 obtain ⟨U, W, P⟩ := Kd.Bo i.1
 (first | subst P | (injection P with f1_ f2_ f3_; have f4_ := f1_.symm; have f5_ := f3_.symm; clear f1_ f2_ f3_; subst f4_; subst f5_))
 refine hK.out _ _ (sb_ a.1) (fun hHeld => ?_)
 clear hK K
 refine no_ (some 16) ?_
 refine on_ 9 (some 17) (tf_ 10 11) HT_ (fun K hK => ?_)
 refine gs_ Tryz.func27 #[.slice Z M.length c1, .slice U l.length W] ?_
 with_reducible refine (Ak.calls k _ _ M _ _ l m _ (cb_ ac HB) ab.1 ?side3 ?side4 aa.1).mono ?_
 (case side3 => exact pc_ ((Kd.BH i.1).2.2))
 (case side4 => exact (Kd.BH i.1).2.1)
 rintro e an ⟨rfl, hb⟩
 refine ⟨_, rfl, ?_⟩
 have _ := Q_ (Kd.Bv (pr_ b.1) hb)
 have _ := Q_ (Kd.Bv (pr_ i.1) hb)
 have _ := Q_ (bb_ a.1 hb)
 have _ := Q_ (AD (CM HB.1 d.1) hb)
 clear b i a HB
 rename_i b i a HB
 (try clear hb)
 refine hK.out _ _ (sb_ a.1) (fun hHeld => ?_)
 clear hK K
 refine no_ (some 17) ?_
 refine Ba 10 4 11 2047 ?_
 refine G8 (E0 HT_.1 (by kernel_rfl)) ?_
 try go_wp2
 go_ret
 exact ⟨er_, CM HB.1 d.1⟩
def H6.f (a : Int) (c : List Int) (d : List Int) (b : Bool) : Option (Bool) := if a = 0 then (if (c.length : Int) = 0 then (if (d.length : Int) = 0 then (some (!b)) else (some false)) else (some false)) else (some false)
theorem H6.calls (c : Int) (l : Option Addr) (n : Nat) (a : List Int) (m : Option Addr) (o : Nat) (b : List Int) (k : Bool) (r : Bool) (w : World) (hr0_1 : Kd.C (Kd.int .i64) w l a.length a) (p : a.length ≤ n) (hr0_2 : Kd.C (Kd.int .i64) w m b.length b) (q : b.length ≤ o) (h : H6.f c a b k = some r) :
  Calls Tryz.prog 60 #[.agg #[.int .i64 c, .slice l a.length n, .slice m b.length o, .bool k]] w fun e w' => e = .returned (.bool r) ∧ Below w.heap.size w w' := by
 have hu75 := Tryz.underlying75
 have F := Q_ hr0_1
 have D := Q_ p
 clear hr0_1 p
 have G := Q_ hr0_2
 have E := Q_ q
 clear hr0_2 q
 have HB := Q_ (Below.refl w.heap.size w)
 unfold H6.f at h
 have H := h
 clear h
 have HS_ := Q_ H
 clear H
 go_enter Tryz.func60, Tryz.ntmps60
 go_upto_region 1 with (first | ((with_reducible refine FP (N := 1) rfl ?_); (try (refine GK (by rfl) ?_; dsimp only)); refine bx_ 1 #[.int .i64 c, .slice l a.length n, .slice m b.length o, .bool k] 75 ?_; intro B hg P hbox hb; have _ := Q_ (AD (pb_ HB.1) hb); have d := Q_ (hbox); have s := Q_ (gw_ (w := w) hg (pb_ HB.1)); have g := s; clear HB; rename_i HB; clear hb hbox hg))
 (try simp only [Act.put, s1_, s2_, s3_])
 have H := HS_.1
 clear HS_
 by_cases v : c = 0
 rotate_left
 ·rw [if_neg v] at H
  have i : (c == 0) = false := beq_eq_false_iff_ne.mpr v
  have j : (c != 0) = true := bne_iff_ne.mpr v
  (first | rw [i] | (simp only [E4, E']; rw [i]) | rw [j] | (have c_ := j; rw [bne] at c_; rw [c_]; clear c_) | skip)
  obtain rfl := Option.some.inj H
  have K := E8 d.1
  go_wp2
  go_ret
  exact ⟨er_, CM HB.1 g.1⟩
 rw [if_pos v] at H
 have i : (c == 0) = true := beq_iff_eq.mpr v
 have j : (c != 0) = false := bne_eq_false_iff_eq.mpr v
 clear v
 (first | rw [i] | (simp only [E4, E']; rw [i]) | rw [j] | (have c_ := j; rw [bne] at c_; rw [c_]; clear c_) | skip)
 by_cases t : (a.length : Int) = 0
 rotate_left
 ·rw [if_neg t] at H
  have x : ((a.length : Int) == 0) = false := beq_eq_false_iff_ne.mpr t
  have y : ((a.length : Int) != 0) = true := bne_iff_ne.mpr t
  have I : ¬ (a = []) := fun h_ => t (by rw [h_]; rfl)
  obtain rfl := Option.some.inj H
  have L := E8 d.1
  go_wp2
  go_ret
  exact ⟨er_, CM HB.1 g.1⟩
 rw [if_pos t] at H
 have x : ((a.length : Int) == 0) = true := beq_iff_eq.mpr t
 have y : ((a.length : Int) != 0) = false := bne_eq_false_iff_eq.mpr t
 clear t
 by_cases u : (b.length : Int) = 0
 rotate_left
 ·rw [if_neg u] at H
  have z : ((b.length : Int) == 0) = false := beq_eq_false_iff_ne.mpr u
  have A : ((b.length : Int) != 0) = true := bne_iff_ne.mpr u
  have J : ¬ (b = []) := fun h_ => u (by rw [h_]; rfl)
  obtain rfl := Option.some.inj H
  have M := E8 d.1
  go_wp2
  go_ret
  exact ⟨er_, CM HB.1 g.1⟩
 rw [if_pos u] at H
 have z : ((b.length : Int) == 0) = true := beq_iff_eq.mpr u
 have A : ((b.length : Int) != 0) = false := bne_eq_false_iff_eq.mpr u
 clear u
 obtain rfl := Option.some.inj H
 have O := E8 d.1
 go_wp2
 go_ret
 exact ⟨er_, CM HB.1 g.1⟩
def G0.f (b : Int) (d : List Int) (e : List Int) (c : Bool) : Option (Bool) := (H6.f b d e c).bind fun a => (some (!a))
theorem G0.calls (d : Int) (j : Option Addr) (m : Nat) (a : List Int) (k : Option Addr) (n : Nat) (b : List Int) (g : Bool) (r : Bool) (w : World) (hr0_1 : Kd.C (Kd.int .i64) w j a.length a) (o : a.length ≤ m) (hr0_2 : Kd.C (Kd.int .i64) w k b.length b) (p : b.length ≤ n) (h : G0.f d a b g = some r) :
  Calls Tryz.prog 59 #[.agg #[.int .i64 d, .slice j a.length m, .slice k b.length n, .bool g]] w fun e w' => e = .returned (.bool r) ∧ Below w.heap.size w w' := by
 have hu75 := Tryz.underlying75
 have u := Q_ hr0_1
 have s := Q_ o
 clear hr0_1 o
 have v := Q_ hr0_2
 have t := Q_ p
 clear hr0_2 p
 have HB := Q_ (Below.refl w.heap.size w)
 unfold G0.f at h
 have H := h
 clear h
 obtain ⟨i, z, H⟩ := bs_ H
 replace H : (some (!i)) = some r := H
 obtain rfl := Option.some.inj H
 go_enter Tryz.func59, Tryz.ntmps59
 go_wp2_with (first | (refine bg_ 1 #[.int .i64 d, .slice j a.length m, .slice k b.length n, .bool g] 75 ?_; intro x hg A hbox hb; have _ := Q_ (AD (pb_ HB.1) hb); have c := Q_ (hbox); have q := Q_ (gw_ (w := w) hg (pb_ HB.1)); have l := q; clear HB; rename_i HB; clear hb hbox hg; have y := E8 c.1) | (refine gk_ 60 4 Tryz.func60 #[.agg #[.int .i64 d, .slice j a.length m, .slice k b.length n, .bool g]] ?_; (with_reducible refine (H6.calls d _ _ a _ _ b g i _ (cb_ u HB) s.1 (cb_ v HB) t.1 z.1).mono ?_); rintro e B ⟨rfl, hb⟩; refine ⟨_, rfl, ?_⟩; have _ := Q_ (bb_ c.1 hb); have _ := Q_ (AD (CM HB.1 l.1) hb); clear c HB; rename_i c HB; (try clear hb)))
 go_ret
 exact ⟨er_, CM HB.1 l.1⟩
def AB.l0 : Nat → List (S75) → Int → Int → Option (Int)
 | 0, _, _, _ => none
 | k + 1, c, d, a => if a < d then (if 0 ≤ a then (if a < (c.length : Int) then ((G0.f ((EM c a).f0) ((EM c a).f1) ((EM c a).f2) ((EM c a).f3)).bind fun b => (if b = true then (some a) else (AB.l0 k c d (wrap64 (a + 1))))) else (none)) else (none)) else (some (-1))
def AB.f (k : Nat) (a : List (S75)) : Option (Int) := AB.l0 k a (a.length : Int) 0
theorem AB.mono_l : ∀ k, (∀ a b c, LeO (AB.l0 k a b c) (AB.l0 (k + 1) a b c))
 | 0 => fun _ _ _ r h => by simp [AB.l0] at h
 | k + 1 => by
  have ih0 := AB.mono_l k
  ·intro a b c
   unfold AB.l0
   exact G7 ih0
theorem AB.mono : ∀ a k, LeO (AB.f k a) (AB.f (k + 1) a) := by
 intro a k
 have ih0 := AB.mono_l k
 unfold AB.f
 exact G7 ih0
theorem AB.calls (k : Nat) (J : Option Addr) (K : Nat) (i : List (S75)) (r : Int) (w : World) (hr0 : Kd.C k75 w J i.length i) (B : i.length ≤ K) (h : AB.f k i = some r) :
  Calls Tryz.prog 82 #[.slice J i.length K, .func (.func 59) #[] #[]] w fun e w' => e = .returned (.int .i64 r) ∧ Below w.heap.size w w' := by
 have hu75 := Tryz.underlying75
 have I := Q_ hr0
 have O := Q_ B
 clear hr0 B
 have HB := Q_ (Below.refl w.heap.size w)
 unfold AB.f at h
 have H := h
 clear h
 have H' := Q_ H
 clear H
 go_enter Tryz.func82, Tryz.ntmps82
 go_wp2
 go_loopg [8] k (fun kq P w' => ∃ (a : Int), P = .int .i64 a ∧ Aside0 (AB.l0 kq i (i.length : Int) a = some r) ∧ Aside0 (kq ≤ k) ∧ Aside0 (Below w.heap.size w w'))
 case atStart => exact ⟨(0), el_, H', ⟨Nat.le_refl _⟩, ⟨pb_ HB.1⟩⟩
 clear H'
 obtain ⟨a, rfl, HA, x, HB⟩ := hrel
 rcases gk with _ | k1
 ·exact absurd HA.1 (by simp [AB.l0])
 have H := HA.1
 clear HA
 simp only [AB.l0] at H
 by_cases t : a < (i.length : Int)
 rotate_left
 ·rw [if_neg t] at H
  have A := decide_eq_false t
  clear t
  obtain rfl := Option.some.inj H
  go_wp2
  go_ret
  exact ⟨er_, pb_ HB.1⟩
 rw [if_pos t] at H
 have A := decide_eq_true t
 clear t
 by_cases E : 0 ≤ a
 rotate_left
 ·rw [if_neg E] at H
  exact nn_ H
 rw [if_pos E] at H
 have L := decide_eq_true E
 clear E
 by_cases F : a < (i.length : Int)
 rotate_left
 ·rw [if_neg F] at H
  exact nn_ H
 rw [if_pos F] at H
 have M := decide_eq_true F
 clear F
 obtain ⟨q, N, H⟩ := bs_ H
 (try dsimp only at H)
 have HS_ := Q_ H
 clear H
 have j : 0 ≤ (a : Int) := dt_
 have l : a < (i.length : Int) := dt_
 obtain ⟨D, u, y, v, z, s, b, c, d, g, m, o, n, p⟩ := S4 I.1 a j l
 cases s
 replace b := bt_ HB b
 replace c := bt_ HB c
 replace d := bt_ HB d
 replace g := bt_ HB g
 replace j := eq_true j
 replace l := eq_true l
 go_upto_if 16 with (first | (go_at_call 59; (with_reducible refine (G0.calls ((EM i a).f0) _ _ ((EM i a).f1) _ _ ((EM i a).f2) ((EM i a).f3) q _ (cb_ o HB) m.1 (cb_ p HB) n.1 N.1).mono ?_); rintro e Q ⟨rfl, hb⟩; have _ := Q_ (AD (pb_ HB.1) hb); clear HB; rename_i HB; (try clear hb)))
 (try simp only [Act.put, s1_, s2_, s3_])
 have H := HS_.1
 clear HS_
 by_cases G : q = true
 rotate_left
 ·replace G := bf_ G
  subst G
  rw [if_neg ff_] at H
  have H' := Q_ H
  clear H
  go_wp2
  go_roundg k1
  case measure => have := x.1; omega
  case rel => exact ⟨(wrap64 (a + 1)), el_, H', ⟨by have := x.1; omega⟩, ⟨pb_ HB.1⟩⟩
 subst G
 rw [if_pos rfl] at H
 obtain rfl := Option.some.inj H
 go_wp2
 go_ret
 exact ⟨er_, pb_ HB.1⟩
def Ag.f (k : Nat) (b : List (S75)) : Option (Bool) := (AB.f k b).bind fun a => (some (decide (a ≥ 0)))
theorem Ag.mono : ∀ a k, LeO (Ag.f k a) (Ag.f (k + 1) a) := by
 intro a k
 unfold Ag.f
 exact G7 AB.mono
theorem Ag.calls (k : Nat) (i : Option Addr) (j : Nat) (b : List (S75)) (r : Bool) (w : World) (hr0 : Kd.C k75 w i b.length b) (c : b.length ≤ j) (h : Ag.f k b = some r) :
  Calls Tryz.prog 50 #[.slice i b.length j, .func (.func 59) #[] #[]] w fun e w' => e = .returned (.bool r) ∧ Below w.heap.size w w' := by
 have g := Q_ hr0
 have d := Q_ c
 clear hr0 c
 have HB := Q_ (Below.refl w.heap.size w)
 unfold Ag.f at h
 have H := h
 clear h
 obtain ⟨a, l, H⟩ := bs_ H
 replace H : (some (decide (a ≥ 0))) = some r := H
 obtain rfl := Option.some.inj H
 go_enter Tryz.func50, Tryz.ntmps50
 go_wp2_with (first | (go_at_call 82; (with_reducible refine (AB.calls k _ _ b a _ (pc_ g.1) d.1 l.1).mono ?_); rintro e m ⟨rfl, hb⟩; have _ := Q_ (AD (pb_ HB.1) hb); clear HB; rename_i HB; (try clear hb)))
 go_ret
 exact ⟨er_, pb_ HB.1⟩
def Dn.f (k : Nat) (b : List (S75)) : Option (Bool) := if (b.length : Int) ≤ 4 then ((Ag.f k b).bind fun a => (some (!a))) else (some false)
theorem Dn.mono : ∀ a k, LeO (Dn.f k a) (Dn.f (k + 1) a) := by
 intro a k
 unfold Dn.f
 exact G7 Ag.mono
theorem Dn.calls (k : Nat) (m : Option Addr) (n : Nat) (b : List (S75)) (r : Bool) (w : World) (hr0 : Kd.C k75 w m b.length b) (i : b.length ≤ n) (h : Dn.f k b = some r) :
  Calls Tryz.prog 26 #[.slice m b.length n] w fun e w' => e = .returned (.bool r) ∧ Below w.heap.size w w' := by
 have l := Q_ hr0
 have j := Q_ i
 clear hr0 i
 have HB := Q_ (Below.refl w.heap.size w)
 unfold Dn.f at h
 have H := h
 clear h
 by_cases c : (b.length : Int) ≤ 4
 rotate_left
 ·rw [if_neg c] at H
  have d := decide_eq_false c
  have g : decide (b.length ≤ 4) = false := decide_eq_false (by omega)
  clear c
  obtain rfl := Option.some.inj H
  go_enter Tryz.func26, Tryz.ntmps26
  go_wp2
  go_ret
  exact ⟨er_, pb_ HB.1⟩
 rw [if_pos c] at H
 have d := decide_eq_true c
 have g : decide (b.length ≤ 4) = true := decide_eq_true (by omega)
 clear c
 obtain ⟨a, o, H⟩ := bs_ H
 replace H : (some (!a)) = some r := H
 obtain rfl := Option.some.inj H
 go_enter Tryz.func26, Tryz.ntmps26
 go_wp2_with (first | (go_at_call 50; (with_reducible refine (Ag.calls k _ _ b a _ (pc_ l.1) j.1 o.1).mono ?_); rintro e p ⟨rfl, hb⟩; have _ := Q_ (AD (pb_ HB.1) hb); clear HB; rename_i HB; (try clear hb)))
 go_ret
 exact ⟨er_, pb_ HB.1⟩
end Go.Proofs.YtibmehnippjakaaGreat.Print
