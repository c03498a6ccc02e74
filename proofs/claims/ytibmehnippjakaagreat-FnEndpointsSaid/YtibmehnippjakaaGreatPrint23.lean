-- Written by a program of this session (printx.py) out of the translation; Lean checks it.
import Derived.Test.YtibmehnippjakaaGreatPrint0
import Derived.Test.YtibmehnippjakaaGreatPrint1
import Derived.Test.YtibmehnippjakaaGreatPrint4
import Derived.Test.YtibmehnippjakaaGreatPrint10
import Derived.Test.YtibmehnippjakaaGreatPrint12
import Derived.Test.YtibmehnippjakaaGreatPrint15
import Derived.Test.YtibmehnippjakaaGreatPrint21
namespace Go.Proofs.YtibmehnippjakaaGreat.Print
open Go.RowKit Go.Proofs.YtibmehnippjakaaGreatW.PrintWords Go.Proofs.YtibmehnippjakaaGreatW.PrintLast Go.Proofs.YtibmehnippjakaaGreatW.PrintMore Go.Proofs.YtibmehnippjakaaGreat.Short
attribute [local go_sem] F8 Fq G5 G6 FA FH F5 Fp
set_option linter.unusedVariables false
set_option maxHeartbeats 8000000
set_option maxRecDepth 100000
set_option linter.unusedSimpArgs false
def laws_FnEndpoints.j0 : Nat → List Int → Int → Bool → List Int → List Int → List (S75) → Int → Option (Bool)
 | 0, _, _, _, _, _, _, _ => none
 | k + 1, j, h, i, a, e, b, g => if i = true then (none) else ((Dn.f k b).bind fun c => (if c = true then ((Ak.f k j a).bind fun d => (some (h == d))) else (some true)))
def laws_FnEndpoints.f (k : Nat) (o : List Int) : Option (Bool) := (JG.f o).bind fun g => (if g = true then (some true) else ((DF.f k o).bind fun a => ((DX.f k a.1 a.2.1 a.2.2.1 a.2.2.2.1 a.2.2.2.2.1 a.2.2.2.2.2.1 a.2.2.2.2.2.2.1 a.2.2.2.2.2.2.2).bind fun b => ((DX.f k a.1 a.2.1 a.2.2.1 a.2.2.2.1 a.2.2.2.2.1 a.2.2.2.2.2.1 a.2.2.2.2.2.2.1 (wrap64 (a.2.2.2.2.2.2.2 + 1))).bind fun d => ((D6.f k b.1 b.2.1 b.2.2.1 d.1 d.2.1 d.2.2.1).bind fun h => (if h = true then ((B9.f k a.1 a.2.1 a.2.2.1 a.2.2.2.1).bind fun i => (if i = true then ((Bj.f k a.1 a.2.1 a.2.2.1 a.2.2.2.1 a.2.2.2.2.2.2.2).bind fun e => ((Df.f k a.1 a.2.1 a.2.2.1 a.2.2.2.1 a.2.2.2.2.1).bind fun c => ((BQ.f k e.1 e.2).bind fun l => (if l = true then ((DU.f k e.2).bind fun m => (if m = true then (if c > 0 then ((Ey.f a.2.2.2.2.2.2.1).bind fun n => (if (b.1 != n) = true then (laws_FnEndpoints.j0 k a.2.2.2.2.1 c true a.1 a.2.1 a.2.2.1 a.2.2.2.1) else (if b.1 = true then (laws_FnEndpoints.j0 k a.2.2.2.2.1 c (b.2.1 != c) a.1 a.2.1 a.2.2.1 a.2.2.2.1) else (laws_FnEndpoints.j0 k a.2.2.2.2.1 c false a.1 a.2.1 a.2.2.1 a.2.2.2.1)))) else (if (b.1 != false) = true then (laws_FnEndpoints.j0 k a.2.2.2.2.1 c true a.1 a.2.1 a.2.2.1 a.2.2.2.1) else (if b.1 = true then (laws_FnEndpoints.j0 k a.2.2.2.2.1 c (b.2.1 != c) a.1 a.2.1 a.2.2.1 a.2.2.2.1) else (laws_FnEndpoints.j0 k a.2.2.2.2.1 c false a.1 a.2.1 a.2.2.1 a.2.2.2.1)))) else (laws_FnEndpoints.j0 k a.2.2.2.2.1 c true a.1 a.2.1 a.2.2.1 a.2.2.2.1))) else (laws_FnEndpoints.j0 k a.2.2.2.2.1 c true a.1 a.2.1 a.2.2.1 a.2.2.2.1))))) else (if b.1 = true then (some false) else (if b.2.2.2.1 = 0 then ((Df.f k a.1 a.2.1 a.2.2.1 a.2.2.2.1 a.2.2.2.2.1).bind fun j => (some (j == 0))) else (some false))))) else (none)))))))
theorem laws_FnEndpoints.mono_l : ∀ k, (∀ a b c d e f g, LeO (laws_FnEndpoints.j0 k a b c d e f g) (laws_FnEndpoints.j0 (k + 1) a b c d e f g))
 | 0 => fun _ _ _ _ _ _ _ r h => by simp [laws_FnEndpoints.j0] at h
 | k + 1 => by
  have ih0 := laws_FnEndpoints.mono_l k
  ·intro a b c d e f g
   unfold laws_FnEndpoints.j0
   exact YU ih0 Ak.mono Df.mono DX.mono D6.mono DU.mono Bj.mono Dn.mono B9.mono BQ.mono DF.mono
def laws_FnEndpoints.T12 : Bool × List (List Nat × List Nat) := (true, [([], []), ([0], [0]), ([1], [1]), ([2, 1], [2]), ([3], [3]), ([4, 3], [3, 4]), ([5, 3, 3], [3, 5]), ([6, 3], [3, 6]), ([3, 7], [3, 7]), ([8, 6], [8]), ([9], [9]), ([10, 9], [9, 10]), ([11, 9], [9, 11]), ([9], [9]), ([13, 9], [9, 13]), ([14, 9, 9], [9, 14]), ([15], [15]), ([16, 15, 15], [15, 16]), ([15, 17, 9], [9, 15, 17]), ([12, 18, 9], [9, 12, 18]), ([9, 19], [9, 19]), ([20, 17], [20]), ([21], [21]), ([22, 21], [21, 22]), ([23, 21], [21, 23]), ([24, 21, 21], [21, 24]), ([25], [25]), ([26, 25], [25, 26]), ([27, 25], [25, 27]), ([25], [25]), ([28, 29, 25], [25, 28, 29]), ([25, 30, 21], [21, 25, 30]), ([21, 31], [21, 31])])
def laws_FnEndpoints.B12 : List Nat := [0, 1, 3, 7, 15, 31, 63, 127, 255, 511, 1023, 2047, 4095, 1023, 9215, 25599, 58367, 123903, 254975, 524287, 1048575, 2097151, 4194303, 8388607, 16777215, 33554431, 67108863, 134217727, 268435455, 67108863, 1073741823, 2147483647, 4294967295]
theorem laws_FnEndpoints.tab12 : rtab .any (opsOf Tryz.f4 12) = laws_FnEndpoints.T12 := by kernel_rfl
theorem laws_FnEndpoints.bits12 : Fa laws_FnEndpoints.T12.2 laws_FnEndpoints.B12 = true := by kernel_rfl
theorem laws_FnEndpoints.jt {q : Prop} {k : Nat} {a b c d e g} {r : Bool} (H : laws_FnEndpoints.j0 k a b true c d e g = some r) : q := by cases k <;> simp [laws_FnEndpoints.j0] at H
theorem laws_FnEndpoints.calls (k : Nat) (A0 : Option Addr) (c0 : Nat) (l0 : List Int) (r : Bool) (w : World) (hr0 : Kd.C (Kd.int .u8) w A0 l0.length l0) (b8 : l0.length ≤ c0) (h : laws_FnEndpoints.f k l0 = some r) :
  Calls Tryz.prog 4 #[.slice A0 l0.length c0] w fun e w' => e = .returned (.bool r) ∧ Below w.heap.size w w' := by
 have hu34 := Tryz.underlying34
 have hu30 := Tryz.underlying30
 have hu28 := Tryz.underlying28
 have hu53 := Tryz.underlying53
 have bY := Q_ hr0
 have bX := Q_ b8
 clear hr0 b8
 have HB := Q_ (Below.refl w.heap.size w)
 unfold laws_FnEndpoints.f at h
 have H := h
 clear h
 obtain ⟨bg, A2, H⟩ := bs_ H
 (try dsimp only at H)
 have HS_ := Q_ H
 clear H
 go_enter Tryz.func4, Tryz.ntmps4
 go_upto_if 13 with (first | ((with_reducible refine I6 (f := 17) rfl ?_); refine gl_ (some 13) Tryz.func17 #[.slice A0 l0.length c0] ?_; (with_reducible refine (JG.calls _ _ l0 bg _ (pc_ bY.1) bX.1 A2.1).mono ?_); rintro e w' ⟨rfl, ⟨nd, rfl⟩⟩; refine ⟨_, rfl, ?_⟩))
 (try simp only [Act.put, s1_, s2_, s3_])
 have H := HS_.1
 clear HS_
 by_cases c3 : bg = true
 ·subst c3
  rw [if_pos rfl] at H
  obtain rfl := Option.some.inj H
  go_wp2
  go_ret
  exact ⟨er_, pb_ HB.1⟩
 replace c3 := bf_ c3
 subst c3
 rw [if_neg ff_] at H
 obtain ⟨⟨G, I, U, ax, P, am, aX, a2⟩, A4, H⟩ := bs_ H
 (try dsimp only at H)
 have HS_ := Q_ H
 clear H
 go_upto_region 4 with (first | ((with_reducible refine I6 (f := 18) rfl ?_); refine gl_ (some 16) Tryz.func18 #[.slice A0 l0.length c0] ?_; (with_reducible refine (DF.calls k _ _ l0 G I U ax P am aX a2 _ ?side1 bX.1 A4.1).mono ?_); (case side1 => exact pc_ (Kd.Ec bY.1 (pb_ HB.1))); rintro e w5 ⟨bk, bl, dD, bm, bn, rfl, aO, aW, b9, ca, cb, hb⟩; refine ⟨_, rfl, ?_⟩; have _ := Q_ (Kd.BV (Kd.Ax (ok' := fun k_ => some k_ ≠ (bl : Value).ownBlock ∧ some k_ ≠ (bm : Value).ownBlock ∧ some k_ ≠ (bn : Value).ownBlock) aO (fun _ hk_ => hk_.2)) (AZ (pb_ HB.1))); have _ := Q_ (Kd.BV (Kd.Ax (ok' := fun k_ => some k_ ≠ (bk : Value).ownBlock ∧ some k_ ≠ (bm : Value).ownBlock ∧ some k_ ≠ (bn : Value).ownBlock) aW (fun _ hk_ => hk_.2)) (AZ (pb_ HB.1))); have _ := Q_ (Kd.IW (Kd.DW (ok' := fun k_ => some k_ ≠ (bk : Value).ownBlock ∧ some k_ ≠ (bl : Value).ownBlock ∧ some k_ ≠ (bm : Value).ownBlock ∧ some k_ ≠ (bn : Value).ownBlock) b9 (fun k_ hk_ => ⟨hk_.2.1, hk_.2.2.1, hk_.2.2.2.1, hk_.2.2.2.2⟩)) (AZ (pb_ HB.1))); have _ := Q_ (Kd.BV (Kd.Ax (ok' := fun k_ => some k_ ≠ (bk : Value).ownBlock ∧ some k_ ≠ (bl : Value).ownBlock ∧ some k_ ≠ (bn : Value).ownBlock) ca (fun _ hk_ => hk_.2)) (AZ (pb_ HB.1))); have _ := Q_ (Kd.BV (Kd.Ax (ok' := fun k_ => some k_ ≠ (bk : Value).ownBlock ∧ some k_ ≠ (bl : Value).ownBlock ∧ some k_ ≠ (bm : Value).ownBlock) cb (fun _ hk_ => hk_.2)) (AZ (pb_ HB.1))); have _ := Q_ (AD (pb_ HB.1) hb); clear HB; rename_i i j m l t HB; (try clear hb aO aW b9 ca cb)) | ((with_reducible refine FP (N := 3) rfl ?_); refine bx_ 3 #[.slice none 0 0, .slice none 0 0, .slice none 0 0, .int .i64 0] 34 ?_; intro Y hg w6 hbox hb; have _ := Q_ (Kd.Bv (pr_ i.1) hb); have _ := Q_ (Kd.Bv (pr_ j.1) hb); have _ := Q_ (Kd.FG (Kd.IH (px_ m.1) Y (Nat.le_of_eq hg.symm)) hb); have _ := Q_ (Kd.Bv (pr_ l.1) hb); have _ := Q_ (Kd.Bv (pr_ t.1) hb); have _ := Q_ (AD (pb_ HB.1) hb); have d := Q_ (hbox); have bC := Q_ (gw_ (w := w) hg (pb_ HB.1)); have D := bC; clear i j m l t HB; rename_i i j m l t HB; clear hb hbox hg; obtain ⟨aE, az, cD⟩ := Kd.Bo i.1; subst cD; have dL := E8 d.1; obtain ⟨aF, aA, cE⟩ := Kd.Bo j.1; subst cE; obtain ⟨aS, aN, bZ⟩ := Kd.IM m.1; subst bZ))
 (try simp only [Act.put, s1_, s2_, s3_])
 have H := HS_.1
 clear HS_
 obtain ⟨⟨V, aG, O, aD, Q⟩, cu, H⟩ := bs_ H
 (try dsimp only at H)
 have HS_ := Q_ H
 clear H
 have cF := E8 d.1
 obtain ⟨ay, al, b0⟩ := Kd.Bo l.1
 subst b0
 obtain ⟨aU, aR, b1⟩ := Kd.Bo t.1
 subst b1
 go_upto_region 5 with (first | ((with_reducible refine I6 (f := 9) rfl ?_); refine gl_ (some 27) Tryz.func9 #[.agg #[.slice aE G.length az, .slice aF I.length aA, .slice aS U.length aN, .int .i64 ax], .slice ay P.length al, .slice aU am.length aR, .int .i64 aX, .int .i64 a2] ?_; (with_reducible refine (DX.calls k _ _ G _ _ I _ _ U ax _ _ P _ _ am aX a2 V aG O aD Q _ ?side1 ?side2 ?side3 ?side4 ?side5 ?side6 ?side7 ?side8 ?side9 ?side10 cu.1).mono ?_); (case side1 => refine (Kd.BH (e := 3) (base := w.heap.size) (ok := fun k_ => (some k_ ≠ (.slice aF I.length aA : Value).ownBlock ∧ (some k_ ≠ (.slice ay P.length al : Value).ownBlock ∧ some k_ ≠ (.slice aU am.length aR : Value).ownBlock))) (n := G.length) (c := az) ?_).2.2; exact (pr_ (Ir i.1 d.1))); (case side2 => exact (Kd.BH i.1).2.1); (case side3 => refine (Kd.BH (e := 3) (base := w.heap.size) (ok := fun k_ => (some k_ ≠ (.slice aE G.length az : Value).ownBlock ∧ (some k_ ≠ (.slice ay P.length al : Value).ownBlock ∧ some k_ ≠ (.slice aU am.length aR : Value).ownBlock))) (n := I.length) (c := aA) ?_).2.2; exact (pr_ (Ir j.1 d.1))); (case side4 => exact (Kd.BH j.1).2.1); (case side5 => refine (Kd.Em (e := 75) (base := w.heap.size) (ok := fun k_ => ((some k_ ≠ (.slice aE G.length az : Value).ownBlock ∧ (some k_ ≠ (.slice aF I.length aA : Value).ownBlock ∧ (some k_ ≠ (.slice ay P.length al : Value).ownBlock ∧ some k_ ≠ (.slice aU am.length aR : Value).ownBlock))) ∧ k_ ≠ Y)) (n := U.length) (c := aN) ?_).2.2; exact (by (with_reducible repeat (first | apply Kd.F4 | apply Kd.F3 | apply Kd.E6)); exact (Kd.DW (Kd.EY (p := ⟨Y, 3, none⟩) (Kd.EY (p := ⟨Y, 2, none⟩) (Kd.EY (p := ⟨Y, 1, none⟩) (Kd.EY (p := ⟨Y, 0, none⟩) (Kd.DW m.1 (fun k_ hk => (⟨hk, hk.2⟩ : _ ∧ k_ ≠ Y))) (fun _ hk => hk.2) (.slice aE G.length az)) (fun _ hk => hk.2) (.slice aF I.length aA)) (fun _ hk => hk.2) (.slice aS U.length aN)) (fun _ hk => hk.2) (.int .i64 ax)) (fun _ h_ => h_.1)))); (case side6 => exact (Kd.Em m.1).2.1); (case side7 => refine (Kd.BH (e := 3) (base := w.heap.size) (ok := fun k_ => (some k_ ≠ (.slice aE G.length az : Value).ownBlock ∧ (some k_ ≠ (.slice aF I.length aA : Value).ownBlock ∧ some k_ ≠ (.slice aU am.length aR : Value).ownBlock))) (n := P.length) (c := al) ?_).2.2; exact (pr_ (Ir l.1 d.1))); (case side8 => exact (Kd.BH l.1).2.1); (case side9 => refine (Kd.BH (e := 3) (base := w.heap.size) (ok := fun k_ => (some k_ ≠ (.slice aE G.length az : Value).ownBlock ∧ (some k_ ≠ (.slice aF I.length aA : Value).ownBlock ∧ some k_ ≠ (.slice ay P.length al : Value).ownBlock))) (n := am.length) (c := aR) ?_).2.2; exact (pr_ (Ir t.1 d.1))); (case side10 => exact (Kd.BH t.1).2.1); rintro e dZ ⟨dE, dF, rfl, aO, aW, hb⟩; refine ⟨_, rfl, ?_⟩; have _ := Q_ (Kd.Ax (Kd.E7 (Kd.E7 (Kd.J9 (pr_ (Ir i.1 d.1)) hb) (Kd.BJ aO)) (Kd.BJ aW)) (fun _ h_ => h_.1)); have _ := Q_ (Kd.Ax (Kd.E7 (Kd.E7 (Kd.J9 (pr_ (Ir j.1 d.1)) hb) (Kd.BJ aO)) (Kd.BJ aW)) (fun _ h_ => h_.1)); have _ := Q_ (Kd.DW (Kd.Ij (Kd.Ij (Kd.Vb (by (with_reducible repeat (first | apply Kd.F4 | apply Kd.F3 | apply Kd.E6)); exact (Kd.DW (Kd.EY (p := ⟨Y, 3, none⟩) (Kd.EY (p := ⟨Y, 2, none⟩) (Kd.EY (p := ⟨Y, 1, none⟩) (Kd.EY (p := ⟨Y, 0, none⟩) (Kd.DW m.1 (fun k_ hk => (⟨hk, hk.2⟩ : _ ∧ k_ ≠ Y))) (fun _ hk => hk.2) (.slice aE G.length az)) (fun _ hk => hk.2) (.slice aF I.length aA)) (fun _ hk => hk.2) (.slice aS U.length aN)) (fun _ hk => hk.2) (.int .i64 ax)) (fun _ h_ => h_.1))) hb) (Kd.BJ aO)) (Kd.BJ aW)) (fun _ h_ => h_.1)); have _ := Q_ (Kd.Ax (Kd.E7 (Kd.E7 (Kd.J9 (pr_ (Ir l.1 d.1)) hb) (Kd.BJ aO)) (Kd.BJ aW)) (fun _ h_ => h_.1)); have _ := Q_ (Kd.Ax (Kd.E7 (Kd.E7 (Kd.J9 (pr_ (Ir t.1 d.1)) hb) (Kd.BJ aO)) (Kd.BJ aW)) (fun _ h_ => h_.1)); have u := Q_ (Kd.BV (Kd.B8 (Kd.B8 (Kd.B8 (Kd.B8 aO (Kd.Dj (pr_ (Ir i.1 d.1)))) (Kd.Dj (pr_ (Ir j.1 d.1)))) (Kd.Dj (pr_ (Ir l.1 d.1)))) (Kd.Dj (pr_ (Ir t.1 d.1)))) (AZ (CM HB.1 D.1))); have v := Q_ (Kd.BV (Kd.B8 (Kd.B8 (Kd.B8 (Kd.B8 aW (Kd.Dj (pr_ (Ir i.1 d.1)))) (Kd.Dj (pr_ (Ir j.1 d.1)))) (Kd.Dj (pr_ (Ir l.1 d.1)))) (Kd.Dj (pr_ (Ir t.1 d.1)))) (AZ (CM HB.1 D.1))); have _ := Q_ (Ej (g := Y) (o := .cells #[.slice aE G.length az, .slice aF I.length aA, .slice aS U.length aN, .int .i64 ax] 34 (0, 0)) (pp_ d.1) hb); have _ := Q_ (AD (CM HB.1 D.1) hb); clear i j m l t d HB; rename_i i j m l t d HB; (try clear hb aO aW)) | ((with_reducible refine FP (N := 8) rfl ?_); refine bx_ 8 #[.bool false, .int .i64 0, .slice none 0 0, .int .i64 0, .slice none 0 0] 30 ?_; intro B hg d0 hbox hb; have _ := Q_ (Kd.Bv (pr_ i.1) hb); have _ := Q_ (Kd.Bv (pr_ j.1) hb); have _ := Q_ (Kd.FG (Kd.IH (px_ m.1) B (Nat.le_of_eq hg.symm)) hb); have _ := Q_ (Kd.Bv (pr_ l.1) hb); have _ := Q_ (Kd.Bv (pr_ t.1) hb); have _ := Q_ (Kd.Bv (pr_ u.1) hb); have _ := Q_ (Kd.Bv (pr_ v.1) hb); have _ := Q_ (bb_ d.1 hb); have _ := Q_ (AD (CM HB.1 D.1) hb); have a := Q_ (hbox); have bD := Q_ (gw_ (w := w) hg (CM HB.1 D.1)); have E := bD; have X := Q_ (nb_ hg d); have aa := Q_ X.1.symm; clear i j m l t u v d HB; rename_i i j m l t u v d HB; clear hb hbox hg; have cT := aa.1; have dg := X.1; have cG := PO a.1; obtain ⟨ab, Z, b2⟩ := Kd.Bo u.1; subst b2; obtain ⟨ac, af, b3⟩ := Kd.Bo v.1; subst b3))
 (try simp only [Act.put, s1_, s2_, s3_])
 have H := HS_.1
 clear HS_
 obtain ⟨⟨a0, a1, ah, a5, ai⟩, cv, H⟩ := bs_ H
 (try dsimp only at H)
 have HS_ := Q_ H
 clear H
 have cU := X.1
 have dh := aa.1
 have cH := E8 d.1
 go_upto_region 6 with (first | ((with_reducible refine I6 (f := 9) rfl ?_); refine gl_ (some 34) Tryz.func9 #[.agg #[.slice aE G.length az, .slice aF I.length aA, .slice aS U.length aN, .int .i64 ax], .slice ay P.length al, .slice aU am.length aR, .int .i64 aX, .int .i64 (wrap64 (a2 + 1))] ?_; (with_reducible refine (DX.calls k _ _ G _ _ I _ _ U ax _ _ P _ _ am aX (wrap64 (a2 + 1)) a0 a1 ah a5 ai _ ?side1 ?side2 ?side3 ?side4 ?side5 ?side6 ?side7 ?side8 ?side9 ?side10 cv.1).mono ?_); (case side1 => refine (Kd.BH (e := 3) (base := w.heap.size) (ok := fun k_ => (((some k_ ≠ (.slice aF I.length aA : Value).ownBlock ∧ (some k_ ≠ (.slice ay P.length al : Value).ownBlock ∧ some k_ ≠ (.slice aU am.length aR : Value).ownBlock)) ∧ some k_ ≠ (.slice ab O.length Z : Value).ownBlock) ∧ some k_ ≠ (.slice ac Q.length af : Value).ownBlock)) (n := G.length) (c := az) ?_).2.2; exact (pr_ (IU i.1 a.1))); (case side2 => exact (Kd.BH i.1).2.1); (case side3 => refine (Kd.BH (e := 3) (base := w.heap.size) (ok := fun k_ => (((some k_ ≠ (.slice aE G.length az : Value).ownBlock ∧ (some k_ ≠ (.slice ay P.length al : Value).ownBlock ∧ some k_ ≠ (.slice aU am.length aR : Value).ownBlock)) ∧ some k_ ≠ (.slice ab O.length Z : Value).ownBlock) ∧ some k_ ≠ (.slice ac Q.length af : Value).ownBlock)) (n := I.length) (c := aA) ?_).2.2; exact (pr_ (IU j.1 a.1))); (case side4 => exact (Kd.BH j.1).2.1); (case side5 => refine (Kd.Em (e := 75) (base := w.heap.size) (ok := fun k_ => (((((some k_ ≠ (.slice aE G.length az : Value).ownBlock ∧ (some k_ ≠ (.slice aF I.length aA : Value).ownBlock ∧ (some k_ ≠ (.slice ay P.length al : Value).ownBlock ∧ some k_ ≠ (.slice aU am.length aR : Value).ownBlock))) ∧ k_ ≠ Y) ∧ some k_ ≠ (.slice ab O.length Z : Value).ownBlock) ∧ some k_ ≠ (.slice ac Q.length af : Value).ownBlock) ∧ k_ ≠ B)) (n := U.length) (c := aN) ?_).2.2; exact (by (with_reducible repeat (first | apply Kd.F4 | apply Kd.F3 | apply Kd.E6)); exact (Kd.DW (Kd.EY (p := ⟨B, 4, none⟩) (Kd.EY (p := ⟨B, 3, none⟩) (Kd.EY (p := ⟨B, 2, none⟩) (Kd.EY (p := ⟨B, 1, none⟩) (Kd.EY (p := ⟨B, 0, none⟩) (Kd.DW m.1 (fun k_ hk => (⟨hk, hk.2⟩ : _ ∧ k_ ≠ B))) (fun _ hk => hk.2) (.bool V)) (fun _ hk => hk.2) (.int .i64 aG)) (fun _ hk => hk.2) (.slice ab O.length Z)) (fun _ hk => hk.2) (.int .i64 aD)) (fun _ hk => hk.2) (.slice ac Q.length af)) (fun _ h_ => h_.1)))); (case side6 => exact (Kd.Em m.1).2.1); (case side7 => refine (Kd.BH (e := 3) (base := w.heap.size) (ok := fun k_ => (((some k_ ≠ (.slice aE G.length az : Value).ownBlock ∧ (some k_ ≠ (.slice aF I.length aA : Value).ownBlock ∧ some k_ ≠ (.slice aU am.length aR : Value).ownBlock)) ∧ some k_ ≠ (.slice ab O.length Z : Value).ownBlock) ∧ some k_ ≠ (.slice ac Q.length af : Value).ownBlock)) (n := P.length) (c := al) ?_).2.2; exact (pr_ (IU l.1 a.1))); (case side8 => exact (Kd.BH l.1).2.1); (case side9 => refine (Kd.BH (e := 3) (base := w.heap.size) (ok := fun k_ => (((some k_ ≠ (.slice aE G.length az : Value).ownBlock ∧ (some k_ ≠ (.slice aF I.length aA : Value).ownBlock ∧ some k_ ≠ (.slice ay P.length al : Value).ownBlock)) ∧ some k_ ≠ (.slice ab O.length Z : Value).ownBlock) ∧ some k_ ≠ (.slice ac Q.length af : Value).ownBlock)) (n := am.length) (c := aR) ?_).2.2; exact (pr_ (IU t.1 a.1))); (case side10 => exact (Kd.BH t.1).2.1); rintro e d1 ⟨dG, dH, rfl, aO, aW, hb⟩; refine ⟨_, rfl, ?_⟩; have _ := Q_ (Kd.Ax (Kd.E7 (Kd.E7 (Kd.J9 (pr_ (IU i.1 a.1)) hb) (Kd.BJ aO)) (Kd.BJ aW)) (fun _ h_ => h_.1)); have _ := Q_ (Kd.Ax (Kd.E7 (Kd.E7 (Kd.J9 (pr_ (IU j.1 a.1)) hb) (Kd.BJ aO)) (Kd.BJ aW)) (fun _ h_ => h_.1)); have _ := Q_ (Kd.DW (Kd.Ij (Kd.Ij (Kd.Vb (by (with_reducible repeat (first | apply Kd.F4 | apply Kd.F3 | apply Kd.E6)); exact (Kd.DW (Kd.EY (p := ⟨B, 4, none⟩) (Kd.EY (p := ⟨B, 3, none⟩) (Kd.EY (p := ⟨B, 2, none⟩) (Kd.EY (p := ⟨B, 1, none⟩) (Kd.EY (p := ⟨B, 0, none⟩) (Kd.DW m.1 (fun k_ hk => (⟨hk, hk.2⟩ : _ ∧ k_ ≠ B))) (fun _ hk => hk.2) (.bool V)) (fun _ hk => hk.2) (.int .i64 aG)) (fun _ hk => hk.2) (.slice ab O.length Z)) (fun _ hk => hk.2) (.int .i64 aD)) (fun _ hk => hk.2) (.slice ac Q.length af)) (fun _ h_ => h_.1))) hb) (Kd.BJ aO)) (Kd.BJ aW)) (fun _ h_ => h_.1)); have _ := Q_ (Kd.Ax (Kd.E7 (Kd.E7 (Kd.J9 (pr_ (IU l.1 a.1)) hb) (Kd.BJ aO)) (Kd.BJ aW)) (fun _ h_ => h_.1)); have _ := Q_ (Kd.Ax (Kd.E7 (Kd.E7 (Kd.J9 (pr_ (IU t.1 a.1)) hb) (Kd.BJ aO)) (Kd.BJ aW)) (fun _ h_ => h_.1)); have _ := Q_ (Kd.Ax (Kd.E7 (Kd.E7 (Kd.J9 (pr_ (IU u.1 a.1)) hb) (Kd.BJ aO)) (Kd.BJ aW)) (fun _ h_ => h_.1)); have _ := Q_ (Kd.Ax (Kd.E7 (Kd.E7 (Kd.J9 (pr_ (IU v.1 a.1)) hb) (Kd.BJ aO)) (Kd.BJ aW)) (fun _ h_ => h_.1)); have x := Q_ (Kd.BV (Kd.B8 (Kd.B8 (Kd.B8 (Kd.B8 (Kd.B8 (Kd.B8 aO (Kd.Dj (pr_ (IU i.1 a.1)))) (Kd.Dj (pr_ (IU j.1 a.1)))) (Kd.Dj (pr_ (IU l.1 a.1)))) (Kd.Dj (pr_ (IU t.1 a.1)))) (Kd.Dj (pr_ (IU u.1 a.1)))) (Kd.Dj (pr_ (IU v.1 a.1)))) (AZ (Dw HB.1 D.1 E.1))); have z := Q_ (Kd.BV (Kd.B8 (Kd.B8 (Kd.B8 (Kd.B8 (Kd.B8 (Kd.B8 aW (Kd.Dj (pr_ (IU i.1 a.1)))) (Kd.Dj (pr_ (IU j.1 a.1)))) (Kd.Dj (pr_ (IU l.1 a.1)))) (Kd.Dj (pr_ (IU t.1 a.1)))) (Kd.Dj (pr_ (IU u.1 a.1)))) (Kd.Dj (pr_ (IU v.1 a.1)))) (AZ (Dw HB.1 D.1 E.1))); have _ := Q_ (Ej (g := Y) (o := .cells #[.slice aE G.length az, .slice aF I.length aA, .slice aS U.length aN, .int .i64 ax] 34 (0, 0)) (pp_ d.1) hb); have _ := Q_ (Ej (g := B) (o := .cells #[.bool V, .int .i64 aG, .slice ab O.length Z, .int .i64 aD, .slice ac Q.length af] 30 (0, 0)) (pp_ a.1) hb); have _ := Q_ (AD (Dw HB.1 D.1 E.1) hb); clear i j m l t u v d a HB; rename_i i j m l t u v d a HB; (try clear hb aO aW)) | ((with_reducible refine FP (N := 9) rfl ?_); refine bx_ 9 #[.bool false, .int .i64 0, .slice none 0 0, .int .i64 0, .slice none 0 0] 30 ?_; intro aC hg d2 hbox hb; have _ := Q_ (Kd.Bv (pr_ i.1) hb); have _ := Q_ (Kd.Bv (pr_ j.1) hb); have _ := Q_ (Kd.FG (Kd.IH (px_ m.1) aC (Nat.le_of_eq hg.symm)) hb); have _ := Q_ (Kd.Bv (pr_ l.1) hb); have _ := Q_ (Kd.Bv (pr_ t.1) hb); have _ := Q_ (Kd.Bv (pr_ u.1) hb); have _ := Q_ (Kd.Bv (pr_ v.1) hb); have _ := Q_ (Kd.Bv (pr_ x.1) hb); have _ := Q_ (Kd.Bv (pr_ z.1) hb); have _ := Q_ (bb_ d.1 hb); have _ := Q_ (bb_ a.1 hb); have _ := Q_ (AD (Dw HB.1 D.1 E.1) hb); have q := Q_ (hbox); have bE := Q_ (gw_ (w := w) hg (Dw HB.1 D.1 E.1)); have F := bE; have aw := Q_ (nb_ hg d); have aB := Q_ aw.1.symm; have aJ := Q_ (nb_ hg a); have aP := Q_ aJ.1.symm; clear i j m l t u v x z d a HB; rename_i i j m l t u v x z d a HB; clear hb hbox hg; have cV := aB.1; have di := aw.1; have cW := aP.1; have dj := aJ.1; have cI := PO q.1; obtain ⟨aK, aI, b4⟩ := Kd.Bo x.1; subst b4; obtain ⟨aL, aM, b5⟩ := Kd.Bo z.1; subst b5))
 (try simp only [Act.put, s1_, s2_, s3_])
 have H := HS_.1
 clear HS_
 obtain ⟨bh, cw, H⟩ := bs_ H
 (try dsimp only at H)
 have HS_ := Q_ H
 clear H
 have cX := aa.1
 have dk := X.1
 have cY := aJ.1
 have dl := aP.1
 have cJ := PO a.1
 have cZ := aB.1
 have dm := aw.1
 have cK := PO q.1
 go_upto_if 40 with (first | ((with_reducible refine I6 (f := 19) rfl ?_); refine gl_ (some 39) Tryz.func19 #[.agg #[.bool V, .int .i64 aG, .slice ab O.length Z], .agg #[.bool a0, .int .i64 a1, .slice aK ah.length aI]] ?_; (with_reducible refine (D6.calls k V aG _ _ O a0 a1 _ _ ah bh _ ?side1 ?side2 ?side3 ?side4 cw.1).mono ?_); (case side1 => refine (Kd.BH (e := 3) (base := w.heap.size) (ok := fun k_ => ((((((some k_ ≠ (.slice ac Q.length af : Value).ownBlock ∧ some k_ ≠ (.slice aE G.length az : Value).ownBlock) ∧ some k_ ≠ (.slice aF I.length aA : Value).ownBlock) ∧ some k_ ≠ (.slice ay P.length al : Value).ownBlock) ∧ some k_ ≠ (.slice aU am.length aR : Value).ownBlock) ∧ some k_ ≠ (.slice aK ah.length aI : Value).ownBlock) ∧ some k_ ≠ (.slice aL ai.length aM : Value).ownBlock)) (n := O.length) (c := Z) ?_).2.2; exact (pr_ (IU u.1 q.1))); (case side2 => exact (Kd.BH u.1).2.1); (case side3 => refine (Kd.BH (e := 3) (base := w.heap.size) (ok := fun k_ => ((((((some k_ ≠ (.slice aL ai.length aM : Value).ownBlock ∧ some k_ ≠ (.slice aE G.length az : Value).ownBlock) ∧ some k_ ≠ (.slice aF I.length aA : Value).ownBlock) ∧ some k_ ≠ (.slice ay P.length al : Value).ownBlock) ∧ some k_ ≠ (.slice aU am.length aR : Value).ownBlock) ∧ some k_ ≠ (.slice ab O.length Z : Value).ownBlock) ∧ some k_ ≠ (.slice ac Q.length af : Value).ownBlock)) (n := ah.length) (c := aI) ?_).2.2; exact (pr_ (IU x.1 q.1))); (case side4 => exact (Kd.BH x.1).2.1); rintro e d3 ⟨rfl, hb⟩; refine ⟨_, rfl, ?_⟩; have _ := Q_ (Kd.Bv (pr_ (IU i.1 q.1)) hb); have _ := Q_ (Kd.Bv (pr_ (IU j.1 q.1)) hb); have _ := Q_ (Kd.FG (by (with_reducible repeat (first | apply Kd.F4 | apply Kd.F3 | apply Kd.E6)); exact (Kd.DW (Kd.EY (p := ⟨aC, 4, none⟩) (Kd.EY (p := ⟨aC, 3, none⟩) (Kd.EY (p := ⟨aC, 2, none⟩) (Kd.EY (p := ⟨aC, 1, none⟩) (Kd.EY (p := ⟨aC, 0, none⟩) (Kd.DW m.1 (fun k_ hk => (⟨hk, hk.2⟩ : _ ∧ k_ ≠ aC))) (fun _ hk => hk.2) (.bool a0)) (fun _ hk => hk.2) (.int .i64 a1)) (fun _ hk => hk.2) (.slice aK ah.length aI)) (fun _ hk => hk.2) (.int .i64 a5)) (fun _ hk => hk.2) (.slice aL ai.length aM)) (fun _ h_ => h_.1))) hb); have _ := Q_ (Kd.Bv (pr_ (IU l.1 q.1)) hb); have _ := Q_ (Kd.Bv (pr_ (IU t.1 q.1)) hb); have _ := Q_ (Kd.Bv (pr_ (IU u.1 q.1)) hb); have _ := Q_ (Kd.Bv (pr_ (IU v.1 q.1)) hb); have _ := Q_ (Kd.Bv (pr_ (IU x.1 q.1)) hb); have _ := Q_ (Kd.Bv (pr_ (IU z.1 q.1)) hb); have _ := Q_ (Ej (g := Y) (o := .cells #[.slice aE G.length az, .slice aF I.length aA, .slice aS U.length aN, .int .i64 ax] 34 (0, 0)) (pp_ d.1) hb); have _ := Q_ (Ej (g := B) (o := .cells #[.bool V, .int .i64 aG, .slice ab O.length Z, .int .i64 aD, .slice ac Q.length af] 30 (0, 0)) (pp_ a.1) hb); have _ := Q_ (Ej (g := aC) (o := .cells #[.bool a0, .int .i64 a1, .slice aK ah.length aI, .int .i64 a5, .slice aL ai.length aM] 30 (0, 0)) (pp_ q.1) hb); have _ := Q_ (AD (Gg HB.1 D.1 E.1 F.1) hb); clear i j m l t u v x z d a q HB; rename_i i j m l t u v x z d a q HB; (try clear hb)))
 (try simp only [Act.put, s1_, s2_, s3_])
 have H := HS_.1
 clear HS_
 by_cases bG : bh = true
 rotate_left
 ·replace bG := bf_ bG
  subst bG
  rw [if_neg ff_] at H
  exact nn_ H
 subst bG
 rw [if_pos rfl] at H
 obtain ⟨bi, cx, H⟩ := bs_ H
 (try dsimp only at H)
 have HS_ := Q_ H
 clear H
 have c1 := X.1
 have dn := aa.1
 have c2 := aw.1
 have dp := aB.1
 have cL := E8 d.1
 go_upto_if 43 with (first | ((with_reducible refine I6 (f := 20) rfl ?_); refine gl_ (some 42) Tryz.func20 #[.agg #[.slice aE G.length az, .slice aF I.length aA, .slice aS U.length aN, .int .i64 ax]] ?_; (with_reducible refine (B9.calls k _ _ G _ _ I _ _ U ax bi _ ?side1 ?side2 ?side3 ?side4 ?side5 ?side6 cx.1).mono ?_); (case side1 => exact pc_ ((Kd.BH i.1).2.2)); (case side2 => exact (Kd.BH i.1).2.1); (case side3 => exact pc_ ((Kd.BH j.1).2.2)); (case side4 => exact (Kd.BH j.1).2.1); (case side5 => exact pc_ ((Kd.Em m.1).2.2)); (case side6 => exact (Kd.Em m.1).2.1); rintro e d4 ⟨rfl, hb⟩; refine ⟨_, rfl, ?_⟩; have _ := Q_ (Kd.Bv (pr_ i.1) hb); have _ := Q_ (Kd.Bv (pr_ j.1) hb); have _ := Q_ (Kd.FG (px_ m.1) hb); have _ := Q_ (Kd.Bv (pr_ l.1) hb); have _ := Q_ (Kd.Bv (pr_ t.1) hb); have _ := Q_ (Kd.Bv (pr_ u.1) hb); have _ := Q_ (Kd.Bv (pr_ v.1) hb); have _ := Q_ (Kd.Bv (pr_ x.1) hb); have _ := Q_ (Kd.Bv (pr_ z.1) hb); have _ := Q_ (bb_ d.1 hb); have _ := Q_ (bb_ a.1 hb); have _ := Q_ (bb_ q.1 hb); have _ := Q_ (AD (Gg HB.1 D.1 E.1 F.1) hb); clear i j m l t u v x z d a q HB; rename_i i j m l t u v x z d a q HB; (try clear hb)))
 (try simp only [Act.put, s1_, s2_, s3_])
 have H := HS_.1
 clear HS_
 by_cases bH : bi = true
 rotate_left
 ·replace bH := bf_ bH
  subst bH
  rw [if_neg ff_] at H
  by_cases bI : V = true
  ·subst bI
   rw [if_pos rfl] at H
   obtain rfl := Option.some.inj H
   have c4 := aa.1
   have dq := X.1
   have c5 := aJ.1
   have dr := aP.1
   have cM := PO a.1
   go_wp2
   go_ret
   exact ⟨er_, Gg HB.1 D.1 E.1 F.1⟩
  replace bI := bf_ bI
  subst bI
  rw [if_neg ff_] at H
  by_cases br : aD = 0
  rotate_left
  ·rw [if_neg br] at H
   have a7 : (aD == 0) = false := beq_eq_false_iff_ne.mpr br
   have a8 : (aD != 0) = true := bne_iff_ne.mpr br
   (first | rw [a7] | (simp only [E4, E']; rw [a7]) | rw [a8] | (have c_ := a8; rw [bne] at c_; rw [c_]; clear c_) | skip)
   obtain rfl := Option.some.inj H
   have c6 := aa.1
   have dt := X.1
   have c7 := aJ.1
   have du := aP.1
   have cN := PO a.1
   go_wp2
   go_ret
   exact ⟨er_, Gg HB.1 D.1 E.1 F.1⟩
  rw [if_pos br] at H
  have a7 : (aD == 0) = true := beq_iff_eq.mpr br
  have a8 : (aD != 0) = false := bne_eq_false_iff_eq.mpr br
  clear br
  (first | rw [a7] | (simp only [E4, E']; rw [a7]) | rw [a8] | (have c_ := a8; rw [bne] at c_; rw [c_]; clear c_) | skip)
  obtain ⟨bj, cy, H⟩ := bs_ H
  replace H : (some (bj == 0)) = some r := H
  obtain rfl := Option.some.inj H
  have c8 := aa.1
  have dv := X.1
  have c9 := aJ.1
  have dw := aP.1
  have cO := PO a.1
  have da := aw.1
  have dx := aB.1
  have cP := E8 d.1
  go_wp2_with (first | (go_at_call 21; (with_reducible refine (Df.calls k _ _ G _ _ I _ _ U ax _ _ P bj _ ?side1 ?side2 ?side3 ?side4 ?side5 ?side6 ?side7 ?side8 cy.1).mono ?_); (case side1 => exact pc_ ((Kd.BH i.1).2.2)); (case side2 => exact (Kd.BH i.1).2.1); (case side3 => exact pc_ ((Kd.BH j.1).2.2)); (case side4 => exact (Kd.BH j.1).2.1); (case side5 => exact pc_ ((Kd.Em m.1).2.2)); (case side6 => exact (Kd.Em m.1).2.1); (case side7 => exact pc_ ((Kd.BH l.1).2.2)); (case side8 => exact (Kd.BH l.1).2.1); rintro e d5 ⟨rfl, hb⟩; have _ := Q_ (bb_ d.1 hb); have _ := Q_ (bb_ a.1 hb); have _ := Q_ (bb_ q.1 hb); have _ := Q_ (AD (Gg HB.1 D.1 E.1 F.1) hb); clear d a q HB i j m l t u v x z; rename_i d a q HB; (try clear hb)))
  go_ret
  exact ⟨er_, Gg HB.1 D.1 E.1 F.1⟩
 subst bH
 rw [if_pos rfl] at H
 obtain ⟨⟨L, J⟩, cz, H⟩ := bs_ H
 (try dsimp only at H)
 obtain ⟨aH, cA, H⟩ := bs_ H
 (try dsimp only at H)
 have bz := Q_ H
 clear H
 have db := X.1
 have dy := aa.1
 have dc := aw.1
 have dz := aB.1
 have cQ := E8 d.1
 go_upto_region 12 with (first | ((with_reducible refine I6 (f := 22) rfl ?_); refine gl_ (some 61) Tryz.func22 #[.agg #[.slice aE G.length az, .slice aF I.length aA, .slice aS U.length aN, .int .i64 ax], .int .i64 a2] ?_; (with_reducible refine (Bj.calls k _ _ G _ _ I _ _ U ax a2 L J _ ?side1 ?side2 ?side3 ?side4 ?side5 ?side6 cz.1).mono ?_); (case side1 => exact pc_ ((Kd.BH i.1).2.2)); (case side2 => exact (Kd.BH i.1).2.1); (case side3 => exact pc_ ((Kd.BH j.1).2.2)); (case side4 => exact (Kd.BH j.1).2.1); (case side5 => exact pc_ ((Kd.Em m.1).2.2)); (case side6 => exact (Kd.Em m.1).2.1); rintro e d6 ⟨bV, dI, rfl, aO, aW, hb⟩; refine ⟨_, rfl, ?_⟩; have _ := Q_ (Kd.B0 (pr_ i.1) (Kd.BJ aO) hb); have _ := Q_ (Kd.B0 (pr_ j.1) (Kd.BJ aO) hb); have _ := Q_ (Kd.DW (Kd.Ij (Kd.Ij (Kd.Vb (px_ m.1) hb) (Kd.BJ aO)) (Kd.L6 aW)) (fun _ h_ => h_.1)); have _ := Q_ (Kd.B0 (pr_ l.1) (Kd.BJ aO) hb); have _ := Q_ (Kd.B0 (pr_ t.1) (Kd.BJ aO) hb); have _ := Q_ (Kd.B0 (pr_ u.1) (Kd.BJ aO) hb); have _ := Q_ (Kd.B0 (pr_ v.1) (Kd.BJ aO) hb); have _ := Q_ (Kd.B0 (pr_ x.1) (Kd.BJ aO) hb); have _ := Q_ (Kd.B0 (pr_ z.1) (Kd.BJ aO) hb); have y := Q_ (Kd.BV (Kd.B8 (Kd.B8 (Kd.B8 (Kd.B8 (Kd.B8 (Kd.B8 (Kd.B8 (Kd.B8 aO (Kd.Dj (pr_ i.1))) (Kd.Dj (pr_ j.1))) (Kd.Dj (pr_ l.1))) (Kd.Dj (pr_ t.1))) (Kd.Dj (pr_ u.1))) (Kd.Dj (pr_ v.1))) (Kd.Dj (pr_ x.1))) (Kd.Dj (pr_ z.1))) (AZ (Gg HB.1 D.1 E.1 F.1))); have s := Q_ (Kd.IW (Kd.DW (ok' := fun k_ => some k_ ≠ (bV : Value).ownBlock ∧ some k_ ≠ (.slice aE G.length az : Value).ownBlock ∧ some k_ ≠ (.slice aF I.length aA : Value).ownBlock ∧ some k_ ≠ (.slice aS U.length aN : Value).ownBlock ∧ some k_ ≠ (.slice ay P.length al : Value).ownBlock ∧ some k_ ≠ (.slice aU am.length aR : Value).ownBlock ∧ some k_ ≠ (.slice ab O.length Z : Value).ownBlock ∧ some k_ ≠ (.slice ac Q.length af : Value).ownBlock ∧ some k_ ≠ (.slice aK ah.length aI : Value).ownBlock ∧ some k_ ≠ (.slice aL ai.length aM : Value).ownBlock ∧ k_ ≠ Y ∧ k_ ≠ B ∧ k_ ≠ aC) (Kd.S_N (Kd.Jl aW)) (fun k_ hk_ => ⟨hk_.1, (Kd.fresh' (Kd.Dj (pr_ i.1)) k_ hk_.2.1), (Kd.fresh' (Kd.Dj (pr_ j.1)) k_ hk_.2.1), (Kd.fresh' (Kd.Qp (px_ m.1)) k_ hk_.2.1), (Kd.fresh' (Kd.Dj (pr_ l.1)) k_ hk_.2.1), (Kd.fresh' (Kd.Dj (pr_ t.1)) k_ hk_.2.1), (Kd.fresh' (Kd.Dj (pr_ u.1)) k_ hk_.2.1), (Kd.fresh' (Kd.Dj (pr_ v.1)) k_ hk_.2.1), (Kd.fresh' (Kd.Dj (pr_ x.1)) k_ hk_.2.1), (Kd.fresh' (Kd.Dj (pr_ z.1)) k_ hk_.2.1), (Kd.Gy (g := Y) (o := .cells #[.slice aE G.length az, .slice aF I.length aA, .slice aS U.length aN, .int .i64 ax] 34 (0, 0)) (pk_ d.1) k_ hk_.2.1), (Kd.Gy (g := B) (o := .cells #[.bool V, .int .i64 aG, .slice ab O.length Z, .int .i64 aD, .slice ac Q.length af] 30 (0, 0)) (pk_ a.1) k_ hk_.2.1), (Kd.Gy (g := aC) (o := .cells #[.bool a0, .int .i64 a1, .slice aK ah.length aI, .int .i64 a5, .slice aL ai.length aM] 30 (0, 0)) (pk_ q.1) k_ hk_.2.1)⟩)) (AZ (Gg HB.1 D.1 E.1 F.1))); have _ := Q_ (bb_ d.1 hb); have _ := Q_ (bb_ a.1 hb); have _ := Q_ (bb_ q.1 hb); have _ := Q_ (AD (Gg HB.1 D.1 E.1 F.1) hb); clear i j m l t u v x z d a q HB; rename_i i j m l t u v x z d a q HB; (try clear hb aO aW)) | ((with_reducible refine FP (N := 10) rfl ?_); refine bx_ 10 #[.slice none 0 0, .slice none 0 0] 53 ?_; intro M hg d7 hbox hb; have _ := Q_ (Kd.Bv (pr_ i.1) hb); have _ := Q_ (Kd.Bv (pr_ j.1) hb); have _ := Q_ (Kd.FG (Kd.IH (px_ m.1) M (Nat.le_of_eq hg.symm)) hb); have _ := Q_ (Kd.Bv (pr_ l.1) hb); have _ := Q_ (Kd.Bv (pr_ t.1) hb); have _ := Q_ (Kd.Bv (pr_ u.1) hb); have _ := Q_ (Kd.Bv (pr_ v.1) hb); have _ := Q_ (Kd.Bv (pr_ x.1) hb); have _ := Q_ (Kd.Bv (pr_ z.1) hb); have _ := Q_ (Kd.Bv (pr_ y.1) hb); have _ := Q_ (Kd.FG (Kd.IH (px_ s.1) M (Nat.le_of_eq hg.symm)) hb); have _ := Q_ (bb_ d.1 hb); have _ := Q_ (bb_ a.1 hb); have _ := Q_ (bb_ q.1 hb); have _ := Q_ (AD (Gg HB.1 D.1 E.1 F.1) hb); have b := Q_ (hbox); have bF := Q_ (gw_ (w := w) hg (Gg HB.1 D.1 E.1 F.1)); have T := bF; have aV := Q_ (nb_ hg d); have aY := Q_ aV.1.symm; have a3 := Q_ (nb_ hg a); have bc := Q_ a3.1.symm; have a4 := Q_ (nb_ hg q); have bd := Q_ a4.1.symm; clear i j m l t u v x z y s d a q HB; rename_i i j m l t u v x z y s d a q HB; clear hb hbox hg; obtain ⟨ad, ag, b6⟩ := Kd.Bo y.1; subst b6; have dd := aY.1; have dA := aV.1; have de := bc.1; have dB := a3.1; have df := bd.1; have dC := a4.1; have cR := Ew b.1; obtain ⟨aj, ak, b7⟩ := Kd.IM s.1; subst b7; have cS := E8 d.1) | ((with_reducible refine I6 (f := 21) rfl ?_); refine gl_ (some 64) Tryz.func21 #[.agg #[.slice aE G.length az, .slice aF I.length aA, .slice aS U.length aN, .int .i64 ax], .slice ay P.length al] ?_; (with_reducible refine (Df.calls k _ _ G _ _ I _ _ U ax _ _ P aH _ ?side1 ?side2 ?side3 ?side4 ?side5 ?side6 ?side7 ?side8 cA.1).mono ?_); (case side1 => refine (Kd.BH (e := 3) (base := w.heap.size) (ok := fun k_ => ((((((some k_ ≠ (.slice aF I.length aA : Value).ownBlock ∧ (some k_ ≠ (.slice ay P.length al : Value).ownBlock ∧ some k_ ≠ (.slice aU am.length aR : Value).ownBlock)) ∧ some k_ ≠ (.slice ab O.length Z : Value).ownBlock) ∧ some k_ ≠ (.slice ac Q.length af : Value).ownBlock) ∧ some k_ ≠ (.slice aK ah.length aI : Value).ownBlock) ∧ some k_ ≠ (.slice aL ai.length aM : Value).ownBlock) ∧ some k_ ≠ (.slice ad L.length ag : Value).ownBlock)) (n := G.length) (c := az) ?_).2.2; exact (pr_ (H5 i.1 b.1))); (case side2 => exact (Kd.BH i.1).2.1); (case side3 => refine (Kd.BH (e := 3) (base := w.heap.size) (ok := fun k_ => ((((((some k_ ≠ (.slice aE G.length az : Value).ownBlock ∧ (some k_ ≠ (.slice ay P.length al : Value).ownBlock ∧ some k_ ≠ (.slice aU am.length aR : Value).ownBlock)) ∧ some k_ ≠ (.slice ab O.length Z : Value).ownBlock) ∧ some k_ ≠ (.slice ac Q.length af : Value).ownBlock) ∧ some k_ ≠ (.slice aK ah.length aI : Value).ownBlock) ∧ some k_ ≠ (.slice aL ai.length aM : Value).ownBlock) ∧ some k_ ≠ (.slice ad L.length ag : Value).ownBlock)) (n := I.length) (c := aA) ?_).2.2; exact (pr_ (H5 j.1 b.1))); (case side4 => exact (Kd.BH j.1).2.1); (case side5 => refine (Kd.Em (e := 75) (base := w.heap.size) (ok := fun k_ => (((((((((((some k_ ≠ (.slice aE G.length az : Value).ownBlock ∧ (some k_ ≠ (.slice aF I.length aA : Value).ownBlock ∧ (some k_ ≠ (.slice ay P.length al : Value).ownBlock ∧ some k_ ≠ (.slice aU am.length aR : Value).ownBlock))) ∧ k_ ≠ Y) ∧ some k_ ≠ (.slice ab O.length Z : Value).ownBlock) ∧ some k_ ≠ (.slice ac Q.length af : Value).ownBlock) ∧ k_ ≠ B) ∧ some k_ ≠ (.slice aK ah.length aI : Value).ownBlock) ∧ some k_ ≠ (.slice aL ai.length aM : Value).ownBlock) ∧ k_ ≠ aC) ∧ some k_ ≠ (.slice ad L.length ag : Value).ownBlock) ∧ some k_ ≠ (.slice aj J.length ak : Value).ownBlock) ∧ k_ ≠ M)) (n := U.length) (c := aN) ?_).2.2; exact (by (with_reducible repeat (first | apply Kd.F4 | apply Kd.F3 | apply Kd.E6)); exact (Kd.DW (Kd.EY (p := ⟨M, 1, none⟩) (Kd.EY (p := ⟨M, 0, none⟩) (Kd.DW m.1 (fun k_ hk => (⟨hk, hk.2⟩ : _ ∧ k_ ≠ M))) (fun _ hk => hk.2) (.slice ad L.length ag)) (fun _ hk => hk.2) (.slice aj J.length ak)) (fun _ h_ => h_.1)))); (case side6 => exact (Kd.Em m.1).2.1); (case side7 => refine (Kd.BH (e := 3) (base := w.heap.size) (ok := fun k_ => ((((((some k_ ≠ (.slice aE G.length az : Value).ownBlock ∧ (some k_ ≠ (.slice aF I.length aA : Value).ownBlock ∧ some k_ ≠ (.slice aU am.length aR : Value).ownBlock)) ∧ some k_ ≠ (.slice ab O.length Z : Value).ownBlock) ∧ some k_ ≠ (.slice ac Q.length af : Value).ownBlock) ∧ some k_ ≠ (.slice aK ah.length aI : Value).ownBlock) ∧ some k_ ≠ (.slice aL ai.length aM : Value).ownBlock) ∧ some k_ ≠ (.slice ad L.length ag : Value).ownBlock)) (n := P.length) (c := al) ?_).2.2; exact (pr_ (H5 l.1 b.1))); (case side8 => exact (Kd.BH l.1).2.1); rintro e bp ⟨rfl, hb⟩; refine ⟨_, rfl, ?_⟩; have _ := Q_ (Kd.Bv (pr_ (H5 i.1 b.1)) hb); have _ := Q_ (Kd.Bv (pr_ (H5 j.1 b.1)) hb); have _ := Q_ (Kd.FG (by (with_reducible repeat (first | apply Kd.F4 | apply Kd.F3 | apply Kd.E6)); exact (Kd.DW (Kd.EY (p := ⟨M, 1, none⟩) (Kd.EY (p := ⟨M, 0, none⟩) (Kd.DW m.1 (fun k_ hk => (⟨hk, hk.2⟩ : _ ∧ k_ ≠ M))) (fun _ hk => hk.2) (.slice ad L.length ag)) (fun _ hk => hk.2) (.slice aj J.length ak)) (fun _ h_ => h_.1))) hb); have _ := Q_ (Kd.Bv (pr_ (H5 l.1 b.1)) hb); have _ := Q_ (Kd.Bv (pr_ (H5 t.1 b.1)) hb); have _ := Q_ (Kd.Bv (pr_ (H5 u.1 b.1)) hb); have _ := Q_ (Kd.Bv (pr_ (H5 v.1 b.1)) hb); have _ := Q_ (Kd.Bv (pr_ (H5 x.1 b.1)) hb); have _ := Q_ (Kd.Bv (pr_ (H5 z.1 b.1)) hb); have _ := Q_ (Kd.Bv (pr_ (H5 y.1 b.1)) hb); have _ := Q_ (Kd.FG (by (with_reducible repeat (first | apply Kd.F4 | apply Kd.F3 | apply Kd.E6)); exact (Kd.DW (Kd.EY (p := ⟨M, 1, none⟩) (Kd.EY (p := ⟨M, 0, none⟩) (Kd.DW s.1 (fun k_ hk => (⟨hk, hk.2⟩ : _ ∧ k_ ≠ M))) (fun _ hk => hk.2) (.slice ad L.length ag)) (fun _ hk => hk.2) (.slice aj J.length ak)) (fun _ h_ => h_.1))) hb); have _ := Q_ (Ej (g := Y) (o := .cells #[.slice aE G.length az, .slice aF I.length aA, .slice aS U.length aN, .int .i64 ax] 34 (0, 0)) (pp_ d.1) hb); have _ := Q_ (Ej (g := B) (o := .cells #[.bool V, .int .i64 aG, .slice ab O.length Z, .int .i64 aD, .slice ac Q.length af] 30 (0, 0)) (pp_ a.1) hb); have _ := Q_ (Ej (g := aC) (o := .cells #[.bool a0, .int .i64 a1, .slice aK ah.length aI, .int .i64 a5, .slice aL ai.length aM] 30 (0, 0)) (pp_ q.1) hb); have _ := Q_ (Ej (g := M) (o := .cells #[.slice ad L.length ag, .slice aj J.length ak] 53 (0, 0)) (pp_ b.1) hb); have _ := Q_ (AD (JX HB.1 D.1 E.1 F.1 T.1) hb); clear i j m l t u v x z y s d a q b HB; rename_i i j m l t u v x z y s d a q b HB; (try clear hb)))
 (try simp only [Act.put, s1_, s2_, s3_])
 have RC : Aside0 (Kd.C (Kd.int .i64) bp ay P.length P ∧ Kd.C (Kd.int .i64) bp aE G.length G ∧ Kd.C k75 bp aS U.length U ∧ Kd.C (Kd.int .i64) bp ad L.length L ∧ Kd.C k81 bp aj J.length J) := ⟨(Kd.BH l.1).2.2, (Kd.BH i.1).2.2, (Kd.Em m.1).2.2, (Kd.BH y.1).2.2, (Kd.Em s.1).2.2⟩
 have LN : Aside0 (P.length ≤ al ∧ G.length ≤ az ∧ U.length ≤ aN ∧ L.length ≤ ag ∧ J.length ≤ ak) := ⟨(Kd.BH l.1).2.1, (Kd.BH i.1).2.1, (Kd.Em m.1).2.1, (Kd.BH y.1).2.1, (Kd.Em s.1).2.1⟩
 have HZ := Q_ (Below.refl bp.heap.size bp)
 clear l i j m u v x z y s q
 go_cut [97] (fun dJ wc => ∃ (kq : Nat) (a6 : Bool), dJ = .bool a6 ∧ Aside0 (laws_FnEndpoints.j0 kq P aH a6 G I U ax = some r) ∧ Aside0 (kq ≤ k) ∧ Aside0 (wc.heap[Y]? = some (.cells #[(.slice aE G.length az), (.slice aF I.length aA), (.slice aS U.length aN), .int .i64 ax] 34 (0, 0))) ∧ Aside0 (Below bp.heap.size bp wc) ∧ Aside0 (Below w.heap.size w wc))
 case first =>
  have H := bz.1
  clear bz
  obtain ⟨bs, bo, H⟩ := bs_ H
  (try dsimp only at H)
  by_cases bJ : bs = true
  rotate_left
  ·replace bJ := bf_ bJ
   subst bJ
   rw [if_neg ff_] at H
   exact laws_FnEndpoints.jt H
  subst bJ
  rw [if_pos rfl] at H
  obtain ⟨bt, bq, H⟩ := bs_ H
  (try dsimp only at H)
  by_cases bK : bt = true
  rotate_left
  ·replace bK := bf_ bK
   subst bK
   rw [if_neg ff_] at H
   exact laws_FnEndpoints.jt H
  subst bK
  rw [if_pos rfl] at H
  by_cases bx : aH > 0
  rotate_left
  ·rw [if_neg bx] at H
   have a9 := decide_eq_false bx
   clear bx
   (first | rw [a9] | (simp only [E4, E']; rw [a9]) | skip)
   by_cases ba : (V != false) = true
   ·rw [if_pos ba] at H
    have bO : (V != false) = true := ba
    (try (have bP : decide (V = false) = false := by simpa using ba))
    (try (have bQ : (V == false) = false := by simpa using ba))
    (try (have cB : ¬ (V = false) := by simpa using ba))
    clear ba
    exact laws_FnEndpoints.jt H
   rw [if_neg ba] at H
   have bO : (V != false) = false := by simpa using ba
   (try (have bP : decide (V = false) = true := by simpa using ba))
   (try (have bQ : (V == false) = true := by simpa using ba))
   clear ba
   by_cases bL : V = true
   rotate_left
   ·replace bL := bf_ bL
    subst bL
    rw [if_neg ff_] at H
    have H' := Q_ H
    clear H
    try go_wp2
    have _ := Q_ (Kd.EU t.1)
    have _ := Q_ (Bq d.1)
    have _ := Q_ (Bq a.1)
    have _ := Q_ (Bq b.1)
    have _ := Q_ (Cm HB.1)
    replace HZ := Q_ (Cm HZ.1)
    clear t d a b HB
    rename_i t d a b HB
    refine sw_ (S := fun w' => w'.cell? ⟨M, 0, none⟩ = some (.slice ad L.length ag) ∧ w'.cell? ⟨M, 1, none⟩ = some (.slice aj J.length ak) ∧ w'.cell? ⟨B, 0, none⟩ = some (.bool false) ∧ w'.cell? ⟨B, 1, none⟩ = some (.int .i64 aG) ∧ w'.cell? ⟨B, 2, none⟩ = some (.slice ab O.length Z) ∧ w'.cell? ⟨B, 3, none⟩ = some (.int .i64 aD) ∧ w'.cell? ⟨B, 4, none⟩ = some (.slice ac Q.length af)) 33 laws_FnEndpoints.tab12 laws_FnEndpoints.bits12 ⟨(BM b.1 0).trans rfl, (BM b.1 1).trans rfl, (BM a.1 0).trans rfl, (BM a.1 1).trans rfl, (BM a.1 2).trans rfl, (BM a.1 3).trans rfl, (BM a.1 4).trans rfl⟩ (fun hHeld HT_ HW_ => ?_)
    generalize bp.drew = eg at t d a b HZ HB hHeld ⊢
    refine E1 0 65 33 1 hHeld ?_
    refine on_ 1 (some 66) (tf_ 2 33) HT_ (fun K hK => ?_)
    refine gs_ Tryz.func23 #[.agg #[.slice ad L.length ag, .slice aj J.length ak]] ?_
    with_reducible refine (BQ.calls k _ _ L _ _ J true _ ?side1 ?side2 ?side3 ?side4 bo.1).mono ?_
    (case side1 => exact cb_ (Q_ RC.1.2.2.2.1) HZ)
    (case side2 => exact LN.1.2.2.2.1)
    (case side3 => exact cb_ (Q_ RC.1.2.2.2.2) HZ)
    (case side4 => exact LN.1.2.2.2.2)
    rintro e eh ⟨rfl, hb⟩
    refine ⟨_, rfl, ?_⟩
    have _ := Q_ (Kd.Bv (pr_ t.1) hb)
    have _ := Q_ (bb_ d.1 hb)
    have _ := Q_ (bb_ a.1 hb)
    have _ := Q_ (bb_ b.1 hb)
    have _ := Q_ (AD (JX HB.1 D.1 E.1 F.1 T.1) hb)
    replace HZ := Q_ (AD (pb_ HZ.1) hb)
    clear t d a b HB
    rename_i t d a b HB
    (try clear hb)
    refine hK.out _ _ (Ht b.1 a.1) (fun hHeld => ?_)
    clear hK K
    refine no_ (some 66) ?_
    refine Ba 2 67 33 7 ?_
    refine Ba 3 68 33 15 ?_
    refine Ba 4 69 33 31 ?_
    refine E1 5 70 33 63 hHeld ?_
    refine on_ 6 (some 71) (tf_ 7 33) HT_ (fun K hK => ?_)
    refine gs_ Tryz.func24 #[.slice aj J.length ak] ?_
    with_reducible refine (DU.calls k _ _ J true _ ?side1 ?side2 bq.1).mono ?_
    (case side1 => exact cb_ (Q_ RC.1.2.2.2.2) HZ)
    (case side2 => exact LN.1.2.2.2.2)
    rintro e ei ⟨rfl, hb⟩
    refine ⟨_, rfl, ?_⟩
    have _ := Q_ (Kd.Bv (pr_ t.1) hb)
    have _ := Q_ (bb_ d.1 hb)
    have _ := Q_ (bb_ a.1 hb)
    have _ := Q_ (bb_ b.1 hb)
    have _ := Q_ (AD (JX HB.1 D.1 E.1 F.1 T.1) hb)
    replace HZ := Q_ (AD (pb_ HZ.1) hb)
    clear t d a b HB
    rename_i t d a b HB
    (try clear hb)
    refine hK.out _ _ (Ht b.1 a.1) (fun hHeld => ?_)
    clear hK K
    refine no_ (some 71) ?_
    refine Ba 7 72 33 255 ?_
    refine Ba 8 73 33 511 ?_
    refine Ba 9 74 33 1023 ?_
    refine Ba 10 75 33 2047 ?_
    refine Ba 11 76 33 4095 ?_
    refine Ba 13 78 33 12287 ?_
    refine Ba 14 79 33 28671 ?_
    refine Ba 15 80 33 61439 ?_
    refine En 16 81 33 126975 ?_
    refine En 17 82 33 258047 ?_
    refine Ba 18 83 33 520191 ?_
    refine E1 12 77 33 524287 hHeld ?_
    refine Ba 19 84 33 1048575 ?_
    refine Ba 20 85 33 2097151 ?_
    refine Ba 21 86 33 4194303 ?_
    refine Ba 22 87 33 8388607 ?_
    refine Ba 23 88 33 16777215 ?_
    refine E1 24 89 33 33554431 hHeld ?_
    refine Ba 25 90 33 67108863 ?_
    refine En 26 91 33 134217727 ?_
    refine En 27 92 33 268435455 ?_
    refine En 28 93 33 536870911 ?_
    refine En 29 94 33 1073741823 ?_
    refine En 30 95 33 2147483647 ?_
    refine Ba 31 96 33 4294967295 ?_
    refine Ba 32 97 33 8589934591 ?_
    refine G8 (E0 HT_.1 (by kernel_rfl)) ?_
    try go_wp2
    go_meet
    case rel => exact ⟨_, (false), el_, H', ⟨by first | omega | exact Nat.le_refl _⟩, ⟨pk_ d.1⟩, ⟨pb_ HZ.1⟩, ⟨JX HB.1 D.1 E.1 F.1 T.1⟩⟩
   subst bL
   rw [if_pos rfl] at H
   have H' := Q_ H
   clear H
   try go_wp2
   have _ := Q_ (Kd.EU t.1)
   have _ := Q_ (Bq d.1)
   have _ := Q_ (Bq a.1)
   have _ := Q_ (Bq b.1)
   have _ := Q_ (Cm HB.1)
   replace HZ := Q_ (Cm HZ.1)
   clear t d a b HB
   rename_i t d a b HB
   refine sw_ (S := fun w' => w'.cell? ⟨M, 0, none⟩ = some (.slice ad L.length ag) ∧ w'.cell? ⟨M, 1, none⟩ = some (.slice aj J.length ak) ∧ w'.cell? ⟨B, 0, none⟩ = some (.bool true) ∧ w'.cell? ⟨B, 1, none⟩ = some (.int .i64 aG) ∧ w'.cell? ⟨B, 2, none⟩ = some (.slice ab O.length Z) ∧ w'.cell? ⟨B, 3, none⟩ = some (.int .i64 aD) ∧ w'.cell? ⟨B, 4, none⟩ = some (.slice ac Q.length af)) 33 laws_FnEndpoints.tab12 laws_FnEndpoints.bits12 ⟨(BM b.1 0).trans rfl, (BM b.1 1).trans rfl, (BM a.1 0).trans rfl, (BM a.1 1).trans rfl, (BM a.1 2).trans rfl, (BM a.1 3).trans rfl, (BM a.1 4).trans rfl⟩ (fun hHeld HT_ HW_ => ?_)
   generalize bp.drew = ej at t d a b HZ HB hHeld ⊢
   refine E1 0 65 33 1 hHeld ?_
   refine on_ 1 (some 66) (tf_ 2 33) HT_ (fun K hK => ?_)
   refine gs_ Tryz.func23 #[.agg #[.slice ad L.length ag, .slice aj J.length ak]] ?_
   with_reducible refine (BQ.calls k _ _ L _ _ J true _ ?side1 ?side2 ?side3 ?side4 bo.1).mono ?_
   (case side1 => exact cb_ (Q_ RC.1.2.2.2.1) HZ)
   (case side2 => exact LN.1.2.2.2.1)
   (case side3 => exact cb_ (Q_ RC.1.2.2.2.2) HZ)
   (case side4 => exact LN.1.2.2.2.2)
   rintro e ek ⟨rfl, hb⟩
   refine ⟨_, rfl, ?_⟩
   have _ := Q_ (Kd.Bv (pr_ t.1) hb)
   have _ := Q_ (bb_ d.1 hb)
   have _ := Q_ (bb_ a.1 hb)
   have _ := Q_ (bb_ b.1 hb)
   have _ := Q_ (AD (JX HB.1 D.1 E.1 F.1 T.1) hb)
   replace HZ := Q_ (AD (pb_ HZ.1) hb)
   clear t d a b HB
   rename_i t d a b HB
   (try clear hb)
   refine hK.out _ _ (Ht b.1 a.1) (fun hHeld => ?_)
   clear hK K
   refine no_ (some 66) ?_
   refine Ba 2 67 33 7 ?_
   refine Ba 3 68 33 15 ?_
   refine Ba 4 69 33 31 ?_
   refine E1 5 70 33 63 hHeld ?_
   refine on_ 6 (some 71) (tf_ 7 33) HT_ (fun K hK => ?_)
   refine gs_ Tryz.func24 #[.slice aj J.length ak] ?_
   with_reducible refine (DU.calls k _ _ J true _ ?side1 ?side2 bq.1).mono ?_
   (case side1 => exact cb_ (Q_ RC.1.2.2.2.2) HZ)
   (case side2 => exact LN.1.2.2.2.2)
   rintro e el ⟨rfl, hb⟩
   refine ⟨_, rfl, ?_⟩
   have _ := Q_ (Kd.Bv (pr_ t.1) hb)
   have _ := Q_ (bb_ d.1 hb)
   have _ := Q_ (bb_ a.1 hb)
   have _ := Q_ (bb_ b.1 hb)
   have _ := Q_ (AD (JX HB.1 D.1 E.1 F.1 T.1) hb)
   replace HZ := Q_ (AD (pb_ HZ.1) hb)
   clear t d a b HB
   rename_i t d a b HB
   (try clear hb)
   refine hK.out _ _ (Ht b.1 a.1) (fun hHeld => ?_)
   clear hK K
   refine no_ (some 71) ?_
   refine Ba 7 72 33 255 ?_
   refine Ba 8 73 33 511 ?_
   refine Ba 9 74 33 1023 ?_
   refine Ba 10 75 33 2047 ?_
   refine Ba 11 76 33 4095 ?_
   refine Ba 13 78 33 12287 ?_
   refine Ba 14 79 33 28671 ?_
   refine Ba 15 80 33 61439 ?_
   refine En 16 81 33 126975 ?_
   refine En 17 82 33 258047 ?_
   refine Ba 18 83 33 520191 ?_
   refine E1 12 77 33 524287 hHeld ?_
   refine Ba 19 84 33 1048575 ?_
   refine Ba 20 85 33 2097151 ?_
   refine Ba 21 86 33 4194303 ?_
   refine Ba 22 87 33 8388607 ?_
   refine Ba 23 88 33 16777215 ?_
   refine E1 24 89 33 33554431 hHeld ?_
   refine Ba 25 90 33 67108863 ?_
   refine Ba 26 91 33 134217727 ?_
   refine Ba 27 92 33 268435455 ?_
   refine Ba 29 94 33 805306367 ?_
   refine E1 28 93 33 1073741823 hHeld ?_
   refine Ba 30 95 33 2147483647 ?_
   refine Ba 31 96 33 4294967295 ?_
   refine Ba 32 97 33 8589934591 ?_
   refine G8 (E0 HT_.1 (by kernel_rfl)) ?_
   try go_wp2
   go_meet
   case rel => exact ⟨_, ((aG != aH)), el_, H', ⟨by first | omega | exact Nat.le_refl _⟩, ⟨pk_ d.1⟩, ⟨pb_ HZ.1⟩, ⟨JX HB.1 D.1 E.1 F.1 T.1⟩⟩
  rw [if_pos bx] at H
  have a9 := decide_eq_true bx
  clear bx
  (first | rw [a9] | (simp only [E4, E']; rw [a9]) | skip)
  obtain ⟨aT, bN, H⟩ := bs_ H
  (try dsimp only at H)
  by_cases bb : (V != aT) = true
  ·rw [if_pos bb] at H
   have bR : (V != aT) = true := bb
   (try (have bS : decide (V = aT) = false := by simpa using bb))
   (try (have bT : (V == aT) = false := by simpa using bb))
   (try (have cC : ¬ (V = aT) := by simpa using bb))
   clear bb
   exact laws_FnEndpoints.jt H
  rw [if_neg bb] at H
  have bR : (V != aT) = false := by simpa using bb
  (try (have bS : decide (V = aT) = true := by simpa using bb))
  (try (have bT : (V == aT) = true := by simpa using bb))
  clear bb
  by_cases bu : V = true
  rotate_left
  ·replace bu := bf_ bu
   subst bu
   rw [if_neg ff_] at H
   have H' := Q_ H
   clear H
   try go_wp2
   have _ := Q_ (Kd.EU t.1)
   have _ := Q_ (Bq d.1)
   have _ := Q_ (Bq a.1)
   have _ := Q_ (Bq b.1)
   have _ := Q_ (Cm HB.1)
   replace HZ := Q_ (Cm HZ.1)
   clear t d a b HB
   rename_i t d a b HB
   refine sw_ (S := fun w' => w'.cell? ⟨M, 0, none⟩ = some (.slice ad L.length ag) ∧ w'.cell? ⟨M, 1, none⟩ = some (.slice aj J.length ak) ∧ w'.cell? ⟨B, 0, none⟩ = some (.bool false) ∧ w'.cell? ⟨B, 1, none⟩ = some (.int .i64 aG) ∧ w'.cell? ⟨B, 2, none⟩ = some (.slice ab O.length Z) ∧ w'.cell? ⟨B, 3, none⟩ = some (.int .i64 aD) ∧ w'.cell? ⟨B, 4, none⟩ = some (.slice ac Q.length af)) 33 laws_FnEndpoints.tab12 laws_FnEndpoints.bits12 ⟨(BM b.1 0).trans rfl, (BM b.1 1).trans rfl, (BM a.1 0).trans rfl, (BM a.1 1).trans rfl, (BM a.1 2).trans rfl, (BM a.1 3).trans rfl, (BM a.1 4).trans rfl⟩ (fun hHeld HT_ HW_ => ?_)
   generalize bp.drew = dO at t d a b HZ HB hHeld ⊢
   refine E1 0 65 33 1 hHeld ?_
   refine on_ 1 (some 66) (tf_ 2 33) HT_ (fun K hK => ?_)
   refine gs_ Tryz.func23 #[.agg #[.slice ad L.length ag, .slice aj J.length ak]] ?_
   with_reducible refine (BQ.calls k _ _ L _ _ J true _ ?side1 ?side2 ?side3 ?side4 bo.1).mono ?_
   (case side1 => exact cb_ (Q_ RC.1.2.2.2.1) HZ)
   (case side2 => exact LN.1.2.2.2.1)
   (case side3 => exact cb_ (Q_ RC.1.2.2.2.2) HZ)
   (case side4 => exact LN.1.2.2.2.2)
   rintro e dP ⟨rfl, hb⟩
   refine ⟨_, rfl, ?_⟩
   have _ := Q_ (Kd.Bv (pr_ t.1) hb)
   have _ := Q_ (bb_ d.1 hb)
   have _ := Q_ (bb_ a.1 hb)
   have _ := Q_ (bb_ b.1 hb)
   have _ := Q_ (AD (JX HB.1 D.1 E.1 F.1 T.1) hb)
   replace HZ := Q_ (AD (pb_ HZ.1) hb)
   clear t d a b HB
   rename_i t d a b HB
   (try clear hb)
   refine hK.out _ _ (Ht b.1 a.1) (fun hHeld => ?_)
   clear hK K
   refine no_ (some 66) ?_
   refine Ba 2 67 33 7 ?_
   refine Ba 3 68 33 15 ?_
   refine Ba 4 69 33 31 ?_
   refine E1 5 70 33 63 hHeld ?_
   refine on_ 6 (some 71) (tf_ 7 33) HT_ (fun K hK => ?_)
   refine gs_ Tryz.func24 #[.slice aj J.length ak] ?_
   with_reducible refine (DU.calls k _ _ J true _ ?side1 ?side2 bq.1).mono ?_
   (case side1 => exact cb_ (Q_ RC.1.2.2.2.2) HZ)
   (case side2 => exact LN.1.2.2.2.2)
   rintro e dQ ⟨rfl, hb⟩
   refine ⟨_, rfl, ?_⟩
   have _ := Q_ (Kd.Bv (pr_ t.1) hb)
   have _ := Q_ (bb_ d.1 hb)
   have _ := Q_ (bb_ a.1 hb)
   have _ := Q_ (bb_ b.1 hb)
   have _ := Q_ (AD (JX HB.1 D.1 E.1 F.1 T.1) hb)
   replace HZ := Q_ (AD (pb_ HZ.1) hb)
   clear t d a b HB
   rename_i t d a b HB
   (try clear hb)
   refine hK.out _ _ (Ht b.1 a.1) (fun hHeld => ?_)
   clear hK K
   refine no_ (some 71) ?_
   refine Ba 7 72 33 255 ?_
   refine Ba 8 73 33 511 ?_
   refine Ba 9 74 33 1023 ?_
   refine Ba 10 75 33 2047 ?_
   refine Ba 11 76 33 4095 ?_
   refine Ba 13 78 33 12287 ?_
   refine Ba 14 79 33 28671 ?_
   refine Ba 15 80 33 61439 ?_
   refine Ba 16 81 33 126975 ?_
   refine E1 12 77 33 131071 hHeld ?_
   refine on_ 17 (some 82) (tf_ 18 33) HT_ (fun K hK => ?_)
   refine gs_ Tryz.func25 #[.int .i64 aX] ?_
   with_reducible refine (Ey.calls aX aT _ bN.1).mono ?_
   rintro e w' ⟨rfl, ⟨nd, rfl⟩⟩
   refine ⟨_, rfl, ?_⟩
   refine hK.out _ _ (Ht b.1 a.1) (fun hHeld => ?_)
   clear hK K
   refine no_ (some 82) ?_
   refine Ba 18 83 33 524287 ?_
   refine Ba 19 84 33 1048575 ?_
   refine Ba 20 85 33 2097151 ?_
   refine Ba 21 86 33 4194303 ?_
   refine Ba 22 87 33 8388607 ?_
   refine Ba 23 88 33 16777215 ?_
   refine E1 24 89 33 33554431 hHeld ?_
   refine Ba 25 90 33 67108863 ?_
   refine En 26 91 33 134217727 ?_
   refine En 27 92 33 268435455 ?_
   refine En 28 93 33 536870911 ?_
   refine En 29 94 33 1073741823 ?_
   refine En 30 95 33 2147483647 ?_
   refine Ba 31 96 33 4294967295 ?_
   refine Ba 32 97 33 8589934591 ?_
   refine G8 (E0 HT_.1 (by kernel_rfl)) ?_
   try go_wp2
   go_meet
   case rel => exact ⟨_, (false), el_, H', ⟨by first | omega | exact Nat.le_refl _⟩, ⟨pk_ d.1⟩, ⟨pb_ HZ.1⟩, ⟨JX HB.1 D.1 E.1 F.1 T.1⟩⟩
  subst bu
  rw [if_pos rfl] at H
  have H' := Q_ H
  clear H
  try go_wp2
  have _ := Q_ (Kd.EU t.1)
  have _ := Q_ (Bq d.1)
  have _ := Q_ (Bq a.1)
  have _ := Q_ (Bq b.1)
  have _ := Q_ (Cm HB.1)
  replace HZ := Q_ (Cm HZ.1)
  clear t d a b HB
  rename_i t d a b HB
  refine sw_ (S := fun w' => w'.cell? ⟨M, 0, none⟩ = some (.slice ad L.length ag) ∧ w'.cell? ⟨M, 1, none⟩ = some (.slice aj J.length ak) ∧ w'.cell? ⟨B, 0, none⟩ = some (.bool true) ∧ w'.cell? ⟨B, 1, none⟩ = some (.int .i64 aG) ∧ w'.cell? ⟨B, 2, none⟩ = some (.slice ab O.length Z) ∧ w'.cell? ⟨B, 3, none⟩ = some (.int .i64 aD) ∧ w'.cell? ⟨B, 4, none⟩ = some (.slice ac Q.length af)) 33 laws_FnEndpoints.tab12 laws_FnEndpoints.bits12 ⟨(BM b.1 0).trans rfl, (BM b.1 1).trans rfl, (BM a.1 0).trans rfl, (BM a.1 1).trans rfl, (BM a.1 2).trans rfl, (BM a.1 3).trans rfl, (BM a.1 4).trans rfl⟩ (fun hHeld HT_ HW_ => ?_)
  generalize bp.drew = dR at t d a b HZ HB hHeld ⊢
  refine E1 0 65 33 1 hHeld ?_
  refine on_ 1 (some 66) (tf_ 2 33) HT_ (fun K hK => ?_)
  refine gs_ Tryz.func23 #[.agg #[.slice ad L.length ag, .slice aj J.length ak]] ?_
  with_reducible refine (BQ.calls k _ _ L _ _ J true _ ?side1 ?side2 ?side3 ?side4 bo.1).mono ?_
  (case side1 => exact cb_ (Q_ RC.1.2.2.2.1) HZ)
  (case side2 => exact LN.1.2.2.2.1)
  (case side3 => exact cb_ (Q_ RC.1.2.2.2.2) HZ)
  (case side4 => exact LN.1.2.2.2.2)
  rintro e dS ⟨rfl, hb⟩
  refine ⟨_, rfl, ?_⟩
  have _ := Q_ (Kd.Bv (pr_ t.1) hb)
  have _ := Q_ (bb_ d.1 hb)
  have _ := Q_ (bb_ a.1 hb)
  have _ := Q_ (bb_ b.1 hb)
  have _ := Q_ (AD (JX HB.1 D.1 E.1 F.1 T.1) hb)
  replace HZ := Q_ (AD (pb_ HZ.1) hb)
  clear t d a b HB
  rename_i t d a b HB
  (try clear hb)
  refine hK.out _ _ (Ht b.1 a.1) (fun hHeld => ?_)
  clear hK K
  refine no_ (some 66) ?_
  refine Ba 2 67 33 7 ?_
  refine Ba 3 68 33 15 ?_
  refine Ba 4 69 33 31 ?_
  refine E1 5 70 33 63 hHeld ?_
  refine on_ 6 (some 71) (tf_ 7 33) HT_ (fun K hK => ?_)
  refine gs_ Tryz.func24 #[.slice aj J.length ak] ?_
  with_reducible refine (DU.calls k _ _ J true _ ?side1 ?side2 bq.1).mono ?_
  (case side1 => exact cb_ (Q_ RC.1.2.2.2.2) HZ)
  (case side2 => exact LN.1.2.2.2.2)
  rintro e dT ⟨rfl, hb⟩
  refine ⟨_, rfl, ?_⟩
  have _ := Q_ (Kd.Bv (pr_ t.1) hb)
  have _ := Q_ (bb_ d.1 hb)
  have _ := Q_ (bb_ a.1 hb)
  have _ := Q_ (bb_ b.1 hb)
  have _ := Q_ (AD (JX HB.1 D.1 E.1 F.1 T.1) hb)
  replace HZ := Q_ (AD (pb_ HZ.1) hb)
  clear t d a b HB
  rename_i t d a b HB
  (try clear hb)
  refine hK.out _ _ (Ht b.1 a.1) (fun hHeld => ?_)
  clear hK K
  refine no_ (some 71) ?_
  refine Ba 7 72 33 255 ?_
  refine Ba 8 73 33 511 ?_
  refine Ba 9 74 33 1023 ?_
  refine Ba 10 75 33 2047 ?_
  refine Ba 11 76 33 4095 ?_
  refine Ba 13 78 33 12287 ?_
  refine Ba 14 79 33 28671 ?_
  refine Ba 15 80 33 61439 ?_
  refine Ba 16 81 33 126975 ?_
  refine E1 12 77 33 131071 hHeld ?_
  refine on_ 17 (some 82) (tf_ 18 33) HT_ (fun K hK => ?_)
  refine gs_ Tryz.func25 #[.int .i64 aX] ?_
  with_reducible refine (Ey.calls aX aT _ bN.1).mono ?_
  rintro e w' ⟨rfl, ⟨nd, rfl⟩⟩
  refine ⟨_, rfl, ?_⟩
  refine hK.out _ _ (Ht b.1 a.1) (fun hHeld => ?_)
  clear hK K
  refine no_ (some 82) ?_
  refine Ba 18 83 33 524287 ?_
  refine Ba 19 84 33 1048575 ?_
  refine Ba 20 85 33 2097151 ?_
  refine Ba 21 86 33 4194303 ?_
  refine Ba 22 87 33 8388607 ?_
  refine Ba 23 88 33 16777215 ?_
  refine E1 24 89 33 33554431 hHeld ?_
  refine Ba 25 90 33 67108863 ?_
  refine Ba 26 91 33 134217727 ?_
  refine Ba 27 92 33 268435455 ?_
  refine Ba 29 94 33 805306367 ?_
  refine E1 28 93 33 1073741823 hHeld ?_
  refine Ba 30 95 33 2147483647 ?_
  refine Ba 31 96 33 4294967295 ?_
  refine Ba 32 97 33 8589934591 ?_
  refine G8 (E0 HT_.1 (by kernel_rfl)) ?_
  try go_wp2
  go_meet
  case rel => exact ⟨_, ((aG != aH)), el_, H', ⟨by first | omega | exact Nat.le_refl _⟩, ⟨pk_ d.1⟩, ⟨pb_ HZ.1⟩, ⟨JX HB.1 D.1 E.1 F.1 T.1⟩⟩
 clear bz
 obtain ⟨kq, a6, rfl, HA, dK, d, HZ, HB⟩ := hcut
 rcases kq with _ | kj61
 ·exact absurd HA.1 (by simp [laws_FnEndpoints.j0])
 have H := HA.1
 clear HA
 simp only [laws_FnEndpoints.j0] at H
 by_cases bv : a6 = true
 ·subst bv
  rw [if_pos rfl] at H
  exact nn_ H
 replace bv := bf_ bv
 subst bv
 rw [if_neg ff_] at H
 obtain ⟨bU, bM, H⟩ := bs_ H
 (try dsimp only at H)
 by_cases bw : bU = true
 rotate_left
 ·replace bw := bf_ bw
  subst bw
  rw [if_neg ff_] at H
  obtain rfl := Option.some.inj H
  have cf := E8 d.1
  go_wp2_with (first | ((with_reducible refine I6 (f := 26) rfl ?_); refine gl_ (some 100) Tryz.func26 #[.slice aS U.length aN] ?_; (with_reducible refine (Dn.calls kj61 _ _ U false _ ?side1 ?side2 bM.1).mono ?_); (case side1 => exact cb_ (Q_ RC.1.2.2.1) HZ); (case side2 => exact LN.1.2.2.1); rintro e dU ⟨rfl, hb⟩; refine ⟨_, rfl, ?_⟩; have _ := Q_ (bb_ d.1 hb); have _ := Q_ (AD (JX HB.1 D.1 E.1 F.1 T.1) hb); replace HZ := Q_ (AD (pb_ HZ.1) hb); clear d HB; rename_i d HB; (try clear hb)))
  go_ret
  exact ⟨er_, JX HB.1 D.1 E.1 F.1 T.1⟩
 subst bw
 rw [if_pos rfl] at H
 obtain ⟨bB, bW, H⟩ := bs_ H
 replace H : (some (aH == bB)) = some r := H
 obtain rfl := Option.some.inj H
 have cg := E8 d.1
 go_wp2_with (first | ((with_reducible refine I6 (f := 26) rfl ?_); refine gl_ (some 100) Tryz.func26 #[.slice aS U.length aN] ?_; (with_reducible refine (Dn.calls kj61 _ _ U true _ ?side1 ?side2 bM.1).mono ?_); (case side1 => exact cb_ (Q_ RC.1.2.2.1) HZ); (case side2 => exact LN.1.2.2.1); rintro e dV ⟨rfl, hb⟩; refine ⟨_, rfl, ?_⟩; have _ := Q_ (bb_ d.1 hb); have _ := Q_ (AD (JX HB.1 D.1 E.1 F.1 T.1) hb); replace HZ := Q_ (AD (pb_ HZ.1) hb); clear d HB; rename_i d HB; (try clear hb); have ch := E8 d.1) | (go_at_call 27; (with_reducible refine (Ak.calls kj61 _ _ P _ _ G bB _ ?side1 ?side2 ?side3 ?side4 bW.1).mono ?_); (case side1 => exact cb_ (Q_ RC.1.1) HZ); (case side2 => exact LN.1.1); (case side3 => exact cb_ (Q_ RC.1.2.1) HZ); (case side4 => exact LN.1.2.1); rintro e dW ⟨rfl, hb⟩; have _ := Q_ (bb_ d.1 hb); have _ := Q_ (AD (JX HB.1 D.1 E.1 F.1 T.1) hb); replace HZ := Q_ (AD (pb_ HZ.1) hb); clear d HB; rename_i d HB; (try clear hb)))
 go_ret
 exact ⟨er_, JX HB.1 D.1 E.1 F.1 T.1⟩
def laws_FnEndpoints.Pure : Prop := ∀ (a : List Int), a.length ≤ maxLen → a.length * 1 ≤ 140737488351232 → (∀ x ∈ a, (Lit.int .u8 x).wf = true) → ∃ k, laws_FnEndpoints.f k a = some true
theorem laws_FnEndpoints.walk (P : laws_FnEndpoints.Pure) (a : Option Addr) (len0 cap0 : Nat) (z0 : List Int) (w : World) (w0 : (a = none ∧ len0 = 0 ∧ cap0 = 0 ∧ z0 = []) ∨ ∃ x, a = some x ∧ len0 ≤ cap0 ∧ cap0 ≤ maxLen ∧ z0.length = cap0 ∧ (∀ i, i < z0.length → w.cell? (x.add i) = some (.int .u8 (z0.getD i 0))) ∧ ∀ n ∈ z0, (Lit.int .u8 n).wf = true) (j : len0 * 1 ≤ 140737488351232) :
  Calls Tryz.prog 4 #[.slice a len0 cap0] w fun e w' => e = .returned (.bool true) ∧ Below w.heap.size w w' := by
 obtain ⟨g, rfl, hr0, c, f, b⟩ := GI.ofRowC w0
 obtain ⟨k, h⟩ := P g c j f
 refine (laws_FnEndpoints.calls k _ _ g true w (Kd.IZ (d := (0 : Int)) (h1 := fun _ => rfl) hr0) b h).mono ?_
 rintro e w' ⟨rfl, hd⟩
 exact ⟨rfl, hd⟩
end Go.Proofs.YtibmehnippjakaaGreat.Print
