-- Written by a program of this session (printx.py) out of the translation; Lean checks it.
import Derived.Test.YtibmehnippjakaaPrint0
import Derived.Test.YtibmehnippjakaaPrint1
import Derived.Test.YtibmehnippjakaaPrint5
import Derived.Test.YtibmehnippjakaaPrint8
import Derived.Test.YtibmehnippjakaaPrint9
import Derived.Test.YtibmehnippjakaaPrint10
import Derived.Test.YtibmehnippjakaaPrint11
namespace Go.Proofs.Ytibmehnippjakaa.Print
open Go.RowKit Go.Proofs.YtibmehnippjakaaW.PrintWords Go.Proofs.YtibmehnippjakaaW.PrintLast Go.Proofs.YtibmehnippjakaaW.PrintMore Go.Proofs.Ytibmehnippjakaa.Short
attribute [local go_sem] max2_int min2_int max_two min_two max_three min_three max_four min_four   -- for this text's walks alone
set_option linter.unusedVariables false
set_option maxHeartbeats 8000000
set_option maxRecDepth 100000
set_option linter.unusedSimpArgs false

/-! ### laws_FnExactHelloOf: function 3 -/
def laws_FnExactHelloOf.j0 : Nat → Int → Bool → List Int → List Int → List (S55) → Int → List Int → List (S44) → List Int → List (S44) → Option (Bool)
 | 0, _, _, _, _, _, _, _, _, _, _ => none
 | k + 1, r, q, d, e, g, h, i, j, l, m => if q = true then (some false) else ((laws_markHello.f k l m 1).bind fun a => ((laws_heldHello.f k a.2.1 a.2.2 1).bind fun n => (if n < 0 then (some false) else (if n = a.1 then ((laws_toEndpoint.f k d e g h).bind fun b => ((impl_HelloOf.f k b.1 b.2.1 b.2.2.1 b.2.2.2 r).bind fun c => ((laws_eqHello.f k c.1 c.2 i j).bind fun p => (if p = true then ((laws_heldHello.f k a.2.1 a.2.2 1).bind fun o => (if o < 0 then (some false) else (if o = a.1 then (some true) else (some false)))) else (some false))))) else (some false)))))
def laws_FnExactHelloOf.f (k : Nat) (e : List Int) (g : List Int) (h : List (S55)) (d : Int) (q : Int) : Option (Bool) := (laws_szEndpoint.f k e g h d 1048576).bind fun l => (if l < 0 then (some true) else ((laws_toEndpoint.f k e g h d).bind fun i => ((spec_HelloOf.f k i.1 i.2.1 i.2.2.1 i.2.2.2 q).bind fun b => ((laws_toEndpoint.f k e g h d).bind fun a => ((impl_HelloOf.f k a.1 a.2.1 a.2.2.1 a.2.2.2 q).bind fun c => ((laws_eqHello.f k c.1 c.2 b.1 b.2).bind fun m => (if m = true then ((laws_toEndpoint.f k e g h d).bind fun j => ((laws_eqEndpoint.f k a.1 a.2.1 a.2.2.1 a.2.2.2 j.1 j.2.1 j.2.2.1 j.2.2.2).bind fun n => (if n = true then ((laws_markEndpoint.f a.1 a.2.1 a.2.2.1 a.2.2.2 1).bind fun o => (if o < 0 then (laws_FnExactHelloOf.j0 k q true e g h d b.1 b.2 c.1 c.2) else ((laws_eqHello.f k c.1 c.2 b.1 b.2).bind fun p => (laws_FnExactHelloOf.j0 k q (!p) e g h d b.1 b.2 c.1 c.2)))) else (some false)))) else (some false))))))))
theorem laws_FnExactHelloOf.mono_l : ∀ k, (∀ a b c d e f g i j l, LeO (laws_FnExactHelloOf.j0 k a b c d e f g i j l) (laws_FnExactHelloOf.j0 (k + 1) a b c d e f g i j l))
 | 0 => fun _ _ _ _ _ _ _ _ _ _ r h => by simp [laws_FnExactHelloOf.j0] at h
 | k + 1 => by
  have ih0 := laws_FnExactHelloOf.mono_l k
  ·intro a b c d e f g i j l
   unfold laws_FnExactHelloOf.j0
   repeat' first
   | (with_reducible exact ih0 _ _ _ _ _ _ _ _ _ _)
   | (with_reducible exact impl_HelloOf.mono _ _ _ _ _ _)
   | (with_reducible exact laws_eqEndpoint.mono _ _ _ _ _ _ _ _ _)
   | (with_reducible exact laws_eqHello.mono _ _ _ _ _)
   | (with_reducible exact laws_heldHello.mono _ _ _ _)
   | (with_reducible exact laws_markHello.mono _ _ _ _)
   | (with_reducible exact laws_szEndpoint.mono _ _ _ _ _ _)
   | (with_reducible exact laws_toEndpoint.mono _ _ _ _ _)
   | (with_reducible exact spec_HelloOf.mono _ _ _ _ _ _)
   | (with_reducible exact LeO.refl _)
   | (with_reducible exact LeO.none _)
   | (with_reducible refine LeO.ite ?_ ?_)
   | (with_reducible refine LeO.bind ?_ (fun _ => ?_))
   | exact ih0 _ _ _ _ _ _ _ _ _ _
   | exact impl_HelloOf.mono _ _ _ _ _ _
   | exact laws_eqEndpoint.mono _ _ _ _ _ _ _ _ _
   | exact laws_eqHello.mono _ _ _ _ _
   | exact laws_heldHello.mono _ _ _ _
   | exact laws_markHello.mono _ _ _ _
   | exact laws_szEndpoint.mono _ _ _ _ _ _
   | exact laws_toEndpoint.mono _ _ _ _ _
   | exact spec_HelloOf.mono _ _ _ _ _ _
   | exact LeO.none _
   | refine LeO.ite ?_ ?_
   | refine LeO.bind ?_ (fun _ => ?_)
theorem laws_FnExactHelloOf.mono : ∀ a b c d e k, LeO (laws_FnExactHelloOf.f k a b c d e) (laws_FnExactHelloOf.f (k + 1) a b c d e) := by
 intro a b c d e k
 have ih0 := laws_FnExactHelloOf.mono_l k
 unfold laws_FnExactHelloOf.f
 repeat' first
   | (with_reducible exact ih0 _ _ _ _ _ _ _ _ _ _)
   | (with_reducible exact impl_HelloOf.mono _ _ _ _ _ _)
   | (with_reducible exact laws_eqEndpoint.mono _ _ _ _ _ _ _ _ _)
   | (with_reducible exact laws_eqHello.mono _ _ _ _ _)
   | (with_reducible exact laws_heldHello.mono _ _ _ _)
   | (with_reducible exact laws_markHello.mono _ _ _ _)
   | (with_reducible exact laws_szEndpoint.mono _ _ _ _ _ _)
   | (with_reducible exact laws_toEndpoint.mono _ _ _ _ _)
   | (with_reducible exact spec_HelloOf.mono _ _ _ _ _ _)
   | (with_reducible exact LeO.refl _)
   | (with_reducible exact LeO.none _)
   | (with_reducible refine LeO.ite ?_ ?_)
   | (with_reducible refine LeO.bind ?_ (fun _ => ?_))
   | exact ih0 _ _ _ _ _ _ _ _ _ _
   | exact impl_HelloOf.mono _ _ _ _ _ _
   | exact laws_eqEndpoint.mono _ _ _ _ _ _ _ _ _
   | exact laws_eqHello.mono _ _ _ _ _
   | exact laws_heldHello.mono _ _ _ _
   | exact laws_markHello.mono _ _ _ _
   | exact laws_szEndpoint.mono _ _ _ _ _ _
   | exact laws_toEndpoint.mono _ _ _ _ _
   | exact spec_HelloOf.mono _ _ _ _ _ _
   | exact LeO.none _
   | refine LeO.ite ?_ ?_
   | refine LeO.bind ?_ (fun _ => ?_)
theorem laws_FnExactHelloOf.calls (k : Nat) (aX : Option Addr) (a3 : Nat) (au : List Int) (aY : Option Addr) (a4 : Nat) (av : List Int) (aZ : Option Addr) (a5 : Nat) (aw : List (S55)) (az : Int) (a1 : Int) (r : Bool) (w : World) (hr0_0 : Kd.C (Kd.int .i64) w aX au.length au) (cf : au.length ≤ a3) (hr0_1 : Kd.C (Kd.int .i64) w aY av.length av) (cg : av.length ≤ a4) (hr0_2 : Kd.C k55 w aZ aw.length aw) (ch : aw.length ≤ a5) (h : laws_FnExactHelloOf.f k au av aw az a1 = some r) :
  Calls Try.prog 3 #[.agg #[.slice aX au.length a3, .slice aY av.length a4, .slice aZ aw.length a5, .int .i64 az], .int .i64 a1] w fun e w' => e = .returned (.bool r) ∧ Below w.heap.size w w' := by
 have hu25 := Try.underlying25
 have hu29 := Try.underlying29
 have hu33 := Try.underlying33
 have bE := Q_ hr0_0
 have bB := Q_ cf
 clear hr0_0 cf
 have bF := Q_ hr0_1
 have bC := Q_ cg
 clear hr0_1 cg
 have bG := Q_ hr0_2
 have bD := Q_ ch
 clear hr0_2 ch
 have HB := Q_ (Below.refl w.heap.size w)
 have H : ((laws_szEndpoint.f k au av aw az 1048576).bind fun b1 => (if b1 < 0 then (some true) else ((laws_toEndpoint.f k au av aw az).bind fun bS => ((spec_HelloOf.f k bS.1 bS.2.1 bS.2.2.1 bS.2.2.2 a1).bind fun bc => ((laws_toEndpoint.f k au av aw az).bind fun aU => ((impl_HelloOf.f k aU.1 aU.2.1 aU.2.2.1 aU.2.2.2 a1).bind fun bd => ((laws_eqHello.f k bd.1 bd.2 bc.1 bc.2).bind fun b2 => (if b2 = true then ((laws_toEndpoint.f k au av aw az).bind fun bT => ((laws_eqEndpoint.f k aU.1 aU.2.1 aU.2.2.1 aU.2.2.2 bT.1 bT.2.1 bT.2.2.1 bT.2.2.2).bind fun b3 => (if b3 = true then ((laws_markEndpoint.f aU.1 aU.2.1 aU.2.2.1 aU.2.2.2 1).bind fun b4 => (if b4 < 0 then (laws_FnExactHelloOf.j0 k a1 true au av aw az bc.1 bc.2 bd.1 bd.2) else ((laws_eqHello.f k bd.1 bd.2 bc.1 bc.2).bind fun b5 => (laws_FnExactHelloOf.j0 k a1 (!b5) au av aw az bc.1 bc.2 bd.1 bd.2)))) else (some false)))) else (some false))))))))) = some r := h
 clear h
 have HS_ := Q_ H
 clear H
 go_enter Try.func3, Try.ntmps3
 go_upto_region 2 with (first | ((with_reducible refine gate_dst (N := 2) rfl ?_); refine bx_ 2 #[.slice aX au.length a3, .slice aY av.length a4, .slice aZ aw.length a5, .int .i64 az] 25 ?_; intro Q hg w3 hbox hb; have _ := Q_ (below_step (pb_ HB.1) hb); have a := Q_ (hbox); have cu := Q_ (gw_ (w := w) hg (pb_ HB.1)); have q := cu; clear HB; rename_i HB; clear hb hbox hg))
 (try simp only [Act.put, s1_, s2_, s3_])
 have H := HS_.1
 clear HS_
 obtain ⟨b1, A4, H⟩ := bs_ H
 (try dsimp only at H)
 have HS_ := Q_ H
 clear H
 have eJ := bc4_ a.1
 go_upto_if 17 with (first | ((with_reducible refine gate_callee (f := 4) rfl ?_); refine gl_ (some 15) Try.func4 #[.agg #[.slice aX au.length a3, .slice aY av.length a4, .slice aZ aw.length a5, .int .i64 az], .int .i64 1048576] ?_; (with_reducible refine (laws_szEndpoint.calls k _ _ au _ _ av _ _ aw az 1048576 b1 _ (cb_ bE HB) bB.1 (cb_ bF HB) bC.1 (cb_ bG HB) bD.1 A4.1).mono ?_); rintro e w6 ⟨rfl, hb⟩; refine ⟨_, rfl, ?_⟩; have _ := Q_ (bb_ a.1 hb); have _ := Q_ (below_step (pb1_ HB.1 q.1) hb); clear a HB; rename_i a HB; (try clear hb)))
 (try simp only [Act.put, s1_, s2_, s3_])
 have H := HS_.1
 clear HS_
 by_cases c7 : b1 < 0
 ·rw [if_pos c7] at H
  have bU := decide_eq_true c7
  clear c7
  (first | rw [bU] | (simp only [i64_w, i32_w]; rw [bU]) | skip)
  obtain rfl := Option.some.inj H
  go_wp2
  go_ret
  exact ⟨er_, pb1_ HB.1 q.1⟩
 rw [if_neg c7] at H
 have bU := decide_eq_false c7
 clear c7
 (first | rw [bU] | (simp only [i64_w, i32_w]; rw [bU]) | skip)
 obtain ⟨⟨Z, aa, aD, ci⟩, A8, H⟩ := bs_ H
 (try dsimp only at H)
 obtain ⟨⟨A, aP⟩, A9, H⟩ := bs_ H
 (try dsimp only at H)
 have HS_ := Q_ H
 clear H
 have dy := bc4_ a.1
 go_upto_region 6 with (first | ((with_reducible refine gate_callee (f := 6) rfl ?_); refine gl_ (some 19) Try.func6 #[.agg #[.slice aX au.length a3, .slice aY av.length a4, .slice aZ aw.length a5, .int .i64 az]] ?_; (with_reducible refine (laws_toEndpoint.calls k _ _ au _ _ av _ _ aw az Z aa aD ci _ (cb_ bE HB) bB.1 (cb_ bF HB) bC.1 (cb_ bG HB) bD.1 A8.1).mono ?_); rintro e fg ⟨eK, eL, eM, rfl, ak, ay, bg, hb⟩; refine ⟨_, rfl, ?_⟩; obtain ⟨tN1, hN1⟩ := bN_ hb; have _ := Q_ (Kd.R_lower (R_geN_ hN1 ak) (below_size (pb1_ HB.1 q.1))); have _ := Q_ (Kd.R_lower (R_geN_ hN1 ay) (below_size (pb1_ HB.1 q.1))); have _ := Q_ (Kd.S_lower (S_geN_ hN1 bg) (below_size (pb1_ HB.1 q.1))); have _ := Q_ (bb_ a.1 hb); have _ := Q_ (below_step (pb1_ HB.1 q.1) hb); clear a HB; rename_i t u F a HB; (try clear hb ak ay bg); obtain ⟨ac, ae, cI⟩ := Kd.R_slice t.1; subst cI; obtain ⟨ad, af, cJ⟩ := Kd.R_slice u.1; subst cJ; obtain ⟨aI, aL, cK⟩ := Kd.S_slice F.1; subst cK) | ((with_reducible refine gate_callee (f := 5) rfl ?_); refine gl_ (some 21) Try.func5 #[.agg #[.slice ac Z.length ae, .slice ad aa.length af, .slice aI aD.length aL, .int .i64 ci], .int .i64 a1] ?_; (with_reducible refine (spec_HelloOf.calls k _ _ Z _ _ aa _ _ aD ci a1 A aP _ ?side1 ?side2 ?side3 ?side4 ?side5 ?side6 A9.1).mono ?_); (case side1 => exact pc_ ((Kd.R_reads' t.1).2.2)); (case side2 => exact (Kd.R_reads' t.1).2.1); (case side3 => exact pc_ ((Kd.R_reads' u.1).2.2)); (case side4 => exact (Kd.R_reads' u.1).2.1); (case side5 => exact pc_ ((Kd.S_reads' F.1).2.2)); (case side6 => exact (Kd.S_reads' F.1).2.1); rintro e fh ⟨cT, eN, rfl, ak, ay, hb⟩; refine ⟨_, rfl, ?_⟩; have _ := Q_ (Kd.R_elder' (pr_ t.1) (Kd.R_base ak) hb); have _ := Q_ (Kd.R_elder' (pr_ u.1) (Kd.R_base ak) hb); have _ := Q_ (Kd.S_elder' (ps_ F.1) (Kd.R_base ak) hb); have _ := Q_ (Kd.R_lower (Kd.R_new' (Kd.R_new' (Kd.R_mono (ok' := fun k_ => True) ak (fun _ hk_ => trivial)) (Kd.R_lt (pr_ t.1))) (Kd.R_lt (pr_ u.1))) (below_size (pb1_ HB.1 q.1))); have _ := Q_ (Kd.V_lower (Kd.V_mono (ok' := fun k_ => some k_ ≠ (cT : Value).ownBlock ∧ some k_ ≠ (.slice ac Z.length ae : Value).ownBlock ∧ some k_ ≠ (.slice ad aa.length af : Value).ownBlock ∧ some k_ ≠ (.slice aI aD.length aL : Value).ownBlock ∧ k_ ≠ Q) ay (fun k_ hk_ => ⟨hk_.2, (Kd.fresh' (Kd.R_lt (pr_ t.1)) k_ hk_.1), (Kd.fresh' (Kd.R_lt (pr_ u.1)) k_ hk_.1), (Kd.fresh' (Kd.S_lt (ps_ F.1)) k_ hk_.1), (Kd.freshB (g := Q) (o := .cells #[.slice aX au.length a3, .slice aY av.length a4, .slice aZ aw.length a5, .int .i64 az] 25 (0, 0)) (pk_ a.1) k_ hk_.1)⟩)) (below_size (pb1_ HB.1 q.1))); have _ := Q_ (bb_ a.1 hb); have _ := Q_ (below_step (pb1_ HB.1 q.1) hb); clear t u F a HB; rename_i t u F y J a HB; (try clear hb ak ay)) | ((with_reducible refine gate_dst (N := 6) rfl ?_); refine bx_ 6 #[.slice none 0 0, .slice none 0 0] 29 ?_; intro Y hg fi hbox hb; have _ := Q_ (Kd.R_below (pr_ t.1) hb); have _ := Q_ (Kd.R_below (pr_ u.1) hb); have _ := Q_ (Kd.S_below (ps_ F.1) hb); have _ := Q_ (Kd.R_below (pr_ y.1) hb); have _ := Q_ (Kd.V_below (Kd.V_elderB (by (with_reducible repeat (first | apply Kd.V_alloc | apply Kd.V_drewN | apply Kd.V_drew)); exact J.1) Y (Nat.le_of_eq hg.symm)) hb); have _ := Q_ (bb_ a.1 hb); have _ := Q_ (below_step (pb1_ HB.1 q.1) hb); have b := Q_ (hbox); have cv := Q_ (gw_ (w := w) hg (pb1_ HB.1 q.1)); have B := cv; have aE := Q_ (nb_ hg a); have aN := Q_ aE.1.symm; clear t u F y J a HB; rename_i t u F y J a HB; clear hb hbox hg; obtain ⟨I, G, cL⟩ := Kd.R_slice y.1; subst cL; have dM := aN.1; have ee := aE.1; have dz := bc2_ b.1; obtain ⟨br, bf, cM⟩ := Kd.V_slice J.1; subst cM))
 (try simp only [Act.put, s1_, s2_, s3_])
 have H := HS_.1
 clear HS_
 obtain ⟨⟨U, W, aQ, bh⟩, dl, H⟩ := bs_ H
 (try dsimp only at H)
 have HS_ := Q_ H
 clear H
 have dN := aE.1
 have ef := aN.1
 have dA := bc4_ a.1
 go_upto_region 7 with (first | ((with_reducible refine gate_callee (f := 6) rfl ?_); refine gl_ (some 23) Try.func6 #[.agg #[.slice aX au.length a3, .slice aY av.length a4, .slice aZ aw.length a5, .int .i64 az]] ?_; (with_reducible refine (laws_toEndpoint.calls k _ _ au _ _ av _ _ aw az U W aQ bh _ ?side1 bB.1 ?side3 bC.1 ?side5 bD.1 dl.1).mono ?_); (case side1 => exact Kd.C_below bE.1 (pb2_ HB.1 q.1 B.1)); (case side3 => exact Kd.C_below bF.1 (pb2_ HB.1 q.1 B.1)); (case side5 => exact Kd.C_below bG.1 (pb2_ HB.1 q.1 B.1)); rintro e fj ⟨eO, eP, eQ, rfl, ak, ay, bg, hb⟩; refine ⟨_, rfl, ?_⟩; obtain ⟨tN2, hN2⟩ := bN_ hb; have _ := Q_ (R_toldN_ hN2 (R_toldN_ hN2 (R_oldN_ hN2 (pr_ (rf2_ t.1 b.1)) hb) (Kd.R_base ak)) (Kd.R_base ay)); have _ := Q_ (R_toldN_ hN2 (R_toldN_ hN2 (R_oldN_ hN2 (pr_ (rf2_ u.1 b.1)) hb) (Kd.R_base ak)) (Kd.R_base ay)); have _ := Q_ (S_toldN_ hN2 (S_toldN_ hN2 (S_toldN_ hN2 (S_oldN_ hN2 (ps_ (sf2_ F.1 b.1)) hb) (Kd.R_base ak)) (Kd.R_base ay)) (Kd.S_base bg)); have _ := Q_ (R_toldN_ hN2 (R_toldN_ hN2 (R_oldN_ hN2 (pr_ (rf2_ y.1 b.1)) hb) (Kd.R_base ak)) (Kd.R_base ay)); have _ := Q_ (V_toldN_ hN2 (V_toldN_ hN2 (V_toldN_ hN2 (V_oldN_ hN2 (by (with_reducible repeat (first | apply Kd.V_alloc | apply Kd.V_drewN | apply Kd.V_drew)); exact (Kd.V_mono (Kd.V_far (p := ⟨Y, 1, none⟩) (Kd.V_far (p := ⟨Y, 0, none⟩) (Kd.V_mono J.1 (fun k_ hk => (⟨hk, hk.2⟩ : _ ∧ k_ ≠ Y))) (fun _ hk => hk.2) (.slice I A.length G)) (fun _ hk => hk.2) (.slice br aP.length bf)) (fun _ h_ => h_.1))) hb) (Kd.R_base ak)) (Kd.R_base ay)) (Kd.S_base bg)); have L := Q_ (Kd.R_lower (Kd.R_new' (Kd.R_new' (Kd.R_new' (R_geN_ hN2 ak) (Kd.R_lt (pr_ (rf2_ t.1 b.1)))) (Kd.R_lt (pr_ (rf2_ u.1 b.1)))) (Kd.R_lt (pr_ (rf2_ y.1 b.1)))) (below_size (pb2_ HB.1 q.1 B.1))); have M := Q_ (Kd.R_lower (Kd.R_new' (Kd.R_new' (Kd.R_new' (R_geN_ hN2 ay) (Kd.R_lt (pr_ (rf2_ t.1 b.1)))) (Kd.R_lt (pr_ (rf2_ u.1 b.1)))) (Kd.R_lt (pr_ (rf2_ y.1 b.1)))) (below_size (pb2_ HB.1 q.1 B.1))); have X := Q_ (Kd.S_lower (Kd.S_new' (Kd.S_new' (Kd.S_new' (Kd.S_new' (S_geN_ hN2 bg) (Kd.R_lt (pr_ (rf2_ t.1 b.1)))) (Kd.R_lt (pr_ (rf2_ u.1 b.1)))) (Kd.S_lt (ps_ (sf2_ F.1 b.1)))) (Kd.R_lt (pr_ (rf2_ y.1 b.1)))) (below_size (pb2_ HB.1 q.1 B.1))); have _ := Q_ (blk_below (g := Q) (o := .cells #[.slice aX au.length a3, .slice aY av.length a4, .slice aZ aw.length a5, .int .i64 az] 25 (0, 0)) (pp_ a.1) hb); have _ := Q_ (blk_below (g := Y) (o := .cells #[.slice I A.length G, .slice br aP.length bf] 29 (0, 0)) (pp_ b.1) hb); have _ := Q_ (below_step (pb2_ HB.1 q.1 B.1) hb); clear t u F y J a b HB; rename_i t u F y J a b HB; (try clear hb ak ay bg)) | ((with_reducible refine gate_dst (N := 7) rfl ?_); refine bx_ 7 #[.slice none 0 0, .slice none 0 0, .slice none 0 0, .int .i64 0] 33 ?_; intro al hg fk hbox hb; have _ := Q_ (Kd.R_below (pr_ t.1) hb); have _ := Q_ (Kd.R_below (pr_ u.1) hb); have _ := Q_ (Kd.S_below (ps_ F.1) hb); have _ := Q_ (Kd.R_below (pr_ y.1) hb); have _ := Q_ (Kd.V_below (Kd.V_elderB (by (with_reducible repeat (first | apply Kd.V_alloc | apply Kd.V_drewN | apply Kd.V_drew)); exact J.1) al (Nat.le_of_eq hg.symm)) hb); have _ := Q_ (Kd.R_below (pr_ L.1) hb); have _ := Q_ (Kd.R_below (pr_ M.1) hb); have _ := Q_ (Kd.S_below (ps_ X.1) hb); have _ := Q_ (bb_ a.1 hb); have _ := Q_ (bb_ b.1 hb); have _ := Q_ (below_step (pb2_ HB.1 q.1 B.1) hb); have l := Q_ (hbox); have cw := Q_ (gw_ (w := w) hg (pb2_ HB.1 q.1 B.1)); have aA := cw; have a7 := Q_ (nb_ hg a); have bp := Q_ a7.1.symm; have aO := Q_ (nb_ hg b); have a0 := Q_ aO.1.symm; clear t u F y J L M X a b HB; rename_i t u F y J L M X a b HB; clear hb hbox hg; obtain ⟨ai, ag, cN⟩ := Kd.R_slice L.1; subst cN; have dO := bp.1; have eg := a7.1; have dP := a0.1; have eh := aO.1; have dB := bc4_ l.1; obtain ⟨aj, ah, cO⟩ := Kd.R_slice M.1; subst cO; obtain ⟨bb, a6, cP⟩ := Kd.S_slice X.1; subst cP))
 (try simp only [Act.put, s1_, s2_, s3_])
 have H := HS_.1
 clear HS_
 obtain ⟨⟨x, ax⟩, dm, H⟩ := bs_ H
 (try dsimp only at H)
 have HS_ := Q_ H
 clear H
 have dQ := bp.1
 have ei := a7.1
 have dR := a0.1
 have ej := aO.1
 have dC := bc4_ l.1
 go_upto_region 8 with (first | ((with_reducible refine gate_callee (f := 7) rfl ?_); refine gl_ (some 26) Try.func7 #[.agg #[.slice ai U.length ag, .slice aj W.length ah, .slice bb aQ.length a6, .int .i64 bh], .int .i64 a1] ?_; (with_reducible refine (impl_HelloOf.calls k _ _ U _ _ W _ _ aQ bh a1 x ax _ ?side1 ?side2 ?side3 ?side4 ?side5 ?side6 dm.1).mono ?_); (case side1 => refine (Kd.R_reads' (e := 3) (base := w.heap.size) (ok := fun k_ => ((((some k_ ≠ (.slice aj W.length ah : Value).ownBlock ∧ tN2 ≤ k_) ∧ some k_ ≠ (.slice ac Z.length ae : Value).ownBlock) ∧ some k_ ≠ (.slice ad aa.length af : Value).ownBlock) ∧ some k_ ≠ (.slice I A.length G : Value).ownBlock)) (n := U.length) (c := ag) ?_).2.2; exact (pr_ (rf4_ L.1 l.1))); (case side2 => exact (Kd.R_reads' L.1).2.1); (case side3 => refine (Kd.R_reads' (e := 3) (base := w.heap.size) (ok := fun k_ => ((((some k_ ≠ (.slice ai U.length ag : Value).ownBlock ∧ tN2 ≤ k_) ∧ some k_ ≠ (.slice ac Z.length ae : Value).ownBlock) ∧ some k_ ≠ (.slice ad aa.length af : Value).ownBlock) ∧ some k_ ≠ (.slice I A.length G : Value).ownBlock)) (n := W.length) (c := ah) ?_).2.2; exact (pr_ (rf4_ M.1 l.1))); (case side4 => exact (Kd.R_reads' M.1).2.1); (case side5 => refine (Kd.S_reads' (e := 59) (base := w.heap.size) (ok := fun k_ => ((((((some k_ ≠ (.slice ai U.length ag : Value).ownBlock ∧ some k_ ≠ (.slice aj W.length ah : Value).ownBlock) ∧ tN2 ≤ k_) ∧ some k_ ≠ (.slice ac Z.length ae : Value).ownBlock) ∧ some k_ ≠ (.slice ad aa.length af : Value).ownBlock) ∧ some k_ ≠ (.slice aI aD.length aL : Value).ownBlock) ∧ some k_ ≠ (.slice I A.length G : Value).ownBlock)) (n := aQ.length) (c := a6) ?_).2.2; exact (ps_ (sf4_ X.1 l.1))); (case side6 => exact (Kd.S_reads' X.1).2.1); rintro e fl ⟨eR, eS, rfl, ak, ay, hb⟩; refine ⟨_, rfl, ?_⟩; obtain ⟨tN3, hN3⟩ := bN_ hb; have _ := Q_ (R_toldN_ hN3 (R_oldN_ hN3 (pr_ (rf4_ t.1 l.1)) hb) (Kd.R_base ak)); have _ := Q_ (R_toldN_ hN3 (R_oldN_ hN3 (pr_ (rf4_ u.1 l.1)) hb) (Kd.R_base ak)); have _ := Q_ (S_toldN_ hN3 (S_oldN_ hN3 (ps_ (sf4_ F.1 l.1)) hb) (Kd.R_base ak)); have _ := Q_ (R_toldN_ hN3 (R_oldN_ hN3 (pr_ (rf4_ y.1 l.1)) hb) (Kd.R_base ak)); have _ := Q_ (V_toldN_ hN3 (V_toldN_ hN3 (V_oldN_ hN3 (by (with_reducible repeat (first | apply Kd.V_alloc | apply Kd.V_drewN | apply Kd.V_drew)); exact (Kd.V_mono (Kd.V_far (p := ⟨al, 3, none⟩) (Kd.V_far (p := ⟨al, 2, none⟩) (Kd.V_far (p := ⟨al, 1, none⟩) (Kd.V_far (p := ⟨al, 0, none⟩) (Kd.V_mono J.1 (fun k_ hk => (⟨hk, hk.2⟩ : _ ∧ k_ ≠ al))) (fun _ hk => hk.2) (.slice ai U.length ag)) (fun _ hk => hk.2) (.slice aj W.length ah)) (fun _ hk => hk.2) (.slice bb aQ.length a6)) (fun _ hk => hk.2) (.int .i64 bh)) (fun _ h_ => h_.1))) hb) (Kd.R_base ak)) (Kd.S_base ay)); have _ := Q_ (R_toldN_ hN3 (R_oldN_ hN3 (pr_ (rf4_ L.1 l.1)) hb) (Kd.R_base ak)); have _ := Q_ (R_toldN_ hN3 (R_oldN_ hN3 (pr_ (rf4_ M.1 l.1)) hb) (Kd.R_base ak)); have _ := Q_ (S_toldN_ hN3 (S_oldN_ hN3 (ps_ (sf4_ X.1 l.1)) hb) (Kd.R_base ak)); have P := Q_ (Kd.R_lower (Kd.R_new' (Kd.R_new' (Kd.R_new' (Kd.R_new' (Kd.R_new' (R_geN_ hN3 ak) (Kd.R_lt (pr_ (rf4_ t.1 l.1)))) (Kd.R_lt (pr_ (rf4_ u.1 l.1)))) (Kd.R_lt (pr_ (rf4_ y.1 l.1)))) (Kd.R_lt (pr_ (rf4_ L.1 l.1)))) (Kd.R_lt (pr_ (rf4_ M.1 l.1)))) (below_size (pb3_ HB.1 q.1 B.1 aA.1))); have ab := Q_ (Kd.S_lower (Kd.S_new' (Kd.S_new' (Kd.S_new' (Kd.S_new' (Kd.S_new' (S_geN_ hN3 ay) (Kd.R_lt (pr_ (rf4_ t.1 l.1)))) (Kd.R_lt (pr_ (rf4_ u.1 l.1)))) (Kd.R_lt (pr_ (rf4_ y.1 l.1)))) (Kd.R_lt (pr_ (rf4_ L.1 l.1)))) (Kd.R_lt (pr_ (rf4_ M.1 l.1)))) (below_size (pb3_ HB.1 q.1 B.1 aA.1))); have _ := Q_ (blk_below (g := Q) (o := .cells #[.slice aX au.length a3, .slice aY av.length a4, .slice aZ aw.length a5, .int .i64 az] 25 (0, 0)) (pp_ a.1) hb); have _ := Q_ (blk_below (g := Y) (o := .cells #[.slice I A.length G, .slice br aP.length bf] 29 (0, 0)) (pp_ b.1) hb); have _ := Q_ (blk_below (g := al) (o := .cells #[.slice ai U.length ag, .slice aj W.length ah, .slice bb aQ.length a6, .int .i64 bh] 33 (0, 0)) (pp_ l.1) hb); have _ := Q_ (below_step (pb3_ HB.1 q.1 B.1 aA.1) hb); clear t u F y J L M X a b l HB; rename_i t u F y J L M X a b l HB; (try clear hb ak ay)) | ((with_reducible refine gate_dst (N := 8) rfl ?_); refine bx_ 8 #[.slice none 0 0, .slice none 0 0] 29 ?_; intro T hg fm hbox hb; have _ := Q_ (Kd.R_below (pr_ t.1) hb); have _ := Q_ (Kd.R_below (pr_ u.1) hb); have _ := Q_ (Kd.S_below (ps_ F.1) hb); have _ := Q_ (Kd.R_below (pr_ y.1) hb); have _ := Q_ (Kd.V_below (Kd.V_elderB (by (with_reducible repeat (first | apply Kd.V_alloc | apply Kd.V_drewN | apply Kd.V_drew)); exact J.1) T (Nat.le_of_eq hg.symm)) hb); have _ := Q_ (Kd.R_below (pr_ L.1) hb); have _ := Q_ (Kd.R_below (pr_ M.1) hb); have _ := Q_ (Kd.S_below (ps_ X.1) hb); have _ := Q_ (Kd.R_below (pr_ P.1) hb); have _ := Q_ (Kd.S_below (ps_ ab.1) hb); have _ := Q_ (bb_ a.1 hb); have _ := Q_ (bb_ b.1 hb); have _ := Q_ (bb_ l.1 hb); have _ := Q_ (below_step (pb3_ HB.1 q.1 B.1 aA.1) hb); have j := Q_ (hbox); have cx := Q_ (gw_ (w := w) hg (pb3_ HB.1 q.1 B.1 aA.1)); have O := cx; have aB := Q_ (nb_ hg a); have aF := Q_ aB.1.symm; have aC := Q_ (nb_ hg b); have aG := Q_ aC.1.symm; have a2 := Q_ (nb_ hg l); have a8 := Q_ a2.1.symm; clear t u F y J L M X P ab a b l HB; rename_i t u F y J L M X P ab a b l HB; clear hb hbox hg; obtain ⟨E, D, cQ⟩ := Kd.R_slice P.1; subst cQ; have dS := aF.1; have ek := aB.1; have dT := aG.1; have el := aC.1; have dU := a8.1; have em := a2.1; have dD := bc2_ j.1; obtain ⟨aJ, aH, cR⟩ := Kd.S_slice ab.1; subst cR))
 (try simp only [Act.put, s1_, s2_, s3_])
 have H := HS_.1
 clear HS_
 obtain ⟨b2, dn, H⟩ := bs_ H
 (try dsimp only at H)
 have HS_ := Q_ H
 clear H
 have dV := aF.1
 have en := aB.1
 have dW := aG.1
 have eo := aC.1
 have dX := a8.1
 have ep := a2.1
 have dE := bc2_ j.1
 have dY := aN.1
 have eq := aE.1
 have dZ := aO.1
 have er := a0.1
 have dF := bc2_ b.1
 go_upto_if 30 with (first | ((with_reducible refine gate_callee (f := 8) rfl ?_); refine gl_ (some 29) Try.func8 #[.agg #[.slice E x.length D, .slice aJ ax.length aH], .agg #[.slice I A.length G, .slice br aP.length bf]] ?_; (with_reducible refine (laws_eqHello.calls k _ _ x _ _ ax _ _ A _ _ aP b2 _ ?side1 ?side2 ?side3 ?side4 ?side5 ?side6 ?side7 ?side8 dn.1).mono ?_); (case side1 => refine (Kd.R_reads' (e := 3) (base := w.heap.size) (ok := fun k_ => ((((((True ∧ tN3 ≤ k_) ∧ some k_ ≠ (.slice ac Z.length ae : Value).ownBlock) ∧ some k_ ≠ (.slice ad aa.length af : Value).ownBlock) ∧ some k_ ≠ (.slice I A.length G : Value).ownBlock) ∧ some k_ ≠ (.slice ai U.length ag : Value).ownBlock) ∧ some k_ ≠ (.slice aj W.length ah : Value).ownBlock)) (n := x.length) (c := D) ?_).2.2; exact (pr_ (rf2_ P.1 j.1))); (case side2 => exact (Kd.R_reads' P.1).2.1); (case side3 => refine (Kd.S_reads' (e := 44) (base := w.heap.size) (ok := fun k_ => ((((((some k_ ≠ (.slice E x.length D : Value).ownBlock ∧ tN3 ≤ k_) ∧ some k_ ≠ (.slice ac Z.length ae : Value).ownBlock) ∧ some k_ ≠ (.slice ad aa.length af : Value).ownBlock) ∧ some k_ ≠ (.slice I A.length G : Value).ownBlock) ∧ some k_ ≠ (.slice ai U.length ag : Value).ownBlock) ∧ some k_ ≠ (.slice aj W.length ah : Value).ownBlock)) (n := ax.length) (c := aH) ?_).2.2; exact (ps_ (sf2_ ab.1 j.1))); (case side4 => exact (Kd.S_reads' ab.1).2.1); (case side5 => refine (Kd.R_reads' (e := 3) (base := w.heap.size) (ok := fun k_ => (((((((True ∧ some k_ ≠ (.slice ac Z.length ae : Value).ownBlock) ∧ some k_ ≠ (.slice ad aa.length af : Value).ownBlock) ∧ some k_ ≠ (.slice ai U.length ag : Value).ownBlock) ∧ some k_ ≠ (.slice aj W.length ah : Value).ownBlock) ∧ k_ < tN2) ∧ some k_ ≠ (.slice E x.length D : Value).ownBlock) ∧ k_ < tN3)) (n := A.length) (c := G) ?_).2.2; exact (pr_ (rf2_ y.1 j.1))); (case side6 => exact (Kd.R_reads' y.1).2.1); (case side7 => refine (Kd.V_reads' (e := 44) (base := w.heap.size) (ok := fun k_ => (((((((((((some k_ ≠ (.slice I A.length G : Value).ownBlock ∧ (some k_ ≠ (.slice ac Z.length ae : Value).ownBlock ∧ (some k_ ≠ (.slice ad aa.length af : Value).ownBlock ∧ (some k_ ≠ (.slice aI aD.length aL : Value).ownBlock ∧ k_ ≠ Q)))) ∧ k_ ≠ Y) ∧ some k_ ≠ (.slice ai U.length ag : Value).ownBlock) ∧ some k_ ≠ (.slice aj W.length ah : Value).ownBlock) ∧ some k_ ≠ (.slice bb aQ.length a6 : Value).ownBlock) ∧ k_ < tN2) ∧ k_ ≠ al) ∧ some k_ ≠ (.slice E x.length D : Value).ownBlock) ∧ some k_ ≠ (.slice aJ ax.length aH : Value).ownBlock) ∧ k_ < tN3) ∧ k_ ≠ T)) (n := aP.length) (c := bf) ?_).2.2; exact (by (with_reducible repeat (first | apply Kd.V_alloc | apply Kd.V_drewN | apply Kd.V_drew)); exact (Kd.V_mono (Kd.V_far (p := ⟨T, 1, none⟩) (Kd.V_far (p := ⟨T, 0, none⟩) (Kd.V_mono J.1 (fun k_ hk => (⟨hk, hk.2⟩ : _ ∧ k_ ≠ T))) (fun _ hk => hk.2) (.slice E x.length D)) (fun _ hk => hk.2) (.slice aJ ax.length aH)) (fun _ h_ => h_.1)))); (case side8 => exact (Kd.V_reads' J.1).2.1); rintro e eH ⟨rfl, hb⟩; refine ⟨_, rfl, ?_⟩; have _ := Q_ (Kd.R_below (pr_ (rf2_ t.1 j.1)) hb); have _ := Q_ (Kd.R_below (pr_ (rf2_ u.1 j.1)) hb); have _ := Q_ (Kd.S_below (ps_ (sf2_ F.1 j.1)) hb); have _ := Q_ (Kd.R_below (pr_ (rf2_ y.1 j.1)) hb); have _ := Q_ (Kd.V_below (by (with_reducible repeat (first | apply Kd.V_alloc | apply Kd.V_drewN | apply Kd.V_drew)); exact (Kd.V_mono (Kd.V_far (p := ⟨T, 1, none⟩) (Kd.V_far (p := ⟨T, 0, none⟩) (Kd.V_mono J.1 (fun k_ hk => (⟨hk, hk.2⟩ : _ ∧ k_ ≠ T))) (fun _ hk => hk.2) (.slice E x.length D)) (fun _ hk => hk.2) (.slice aJ ax.length aH)) (fun _ h_ => h_.1))) hb); have _ := Q_ (Kd.R_below (pr_ (rf2_ L.1 j.1)) hb); have _ := Q_ (Kd.R_below (pr_ (rf2_ M.1 j.1)) hb); have _ := Q_ (Kd.S_below (ps_ (sf2_ X.1 j.1)) hb); have _ := Q_ (Kd.R_below (pr_ (rf2_ P.1 j.1)) hb); have _ := Q_ (Kd.S_below (ps_ (sf2_ ab.1 j.1)) hb); have _ := Q_ (blk_below (g := Q) (o := .cells #[.slice aX au.length a3, .slice aY av.length a4, .slice aZ aw.length a5, .int .i64 az] 25 (0, 0)) (pp_ a.1) hb); have _ := Q_ (blk_below (g := Y) (o := .cells #[.slice I A.length G, .slice br aP.length bf] 29 (0, 0)) (pp_ b.1) hb); have _ := Q_ (blk_below (g := al) (o := .cells #[.slice ai U.length ag, .slice aj W.length ah, .slice bb aQ.length a6, .int .i64 bh] 33 (0, 0)) (pp_ l.1) hb); have _ := Q_ (blk_below (g := T) (o := .cells #[.slice E x.length D, .slice aJ ax.length aH] 29 (0, 0)) (pp_ j.1) hb); have _ := Q_ (below_step (pb4_ HB.1 q.1 B.1 aA.1 O.1) hb); clear t u F y J L M X P ab a b l j HB; rename_i t u F y J L M X P ab a b l j HB; (try clear hb)))
 (try simp only [Act.put, s1_, s2_, s3_])
 have H := HS_.1
 clear HS_
 by_cases cn : b2 = true
 rotate_left
 ·replace cn := bf_ cn
  subst cn
  rw [if_neg ff_] at H
  obtain rfl := Option.some.inj H
  go_wp2
  go_ret
  exact ⟨er_, pb4_ HB.1 q.1 B.1 aA.1 O.1⟩
 subst cn
 rw [if_pos rfl] at H
 obtain ⟨⟨am, an, aM, cj⟩, dp, H⟩ := bs_ H
 (try dsimp only at H)
 obtain ⟨b3, dq, H⟩ := bs_ H
 (try dsimp only at H)
 have HS_ := Q_ H
 clear H
 try go_wp2
 have _ := Q_ (Kd.R_drew t.1)
 have _ := Q_ (Kd.R_drew u.1)
 have _ := Q_ (Kd.S_drew F.1)
 have _ := Q_ (Kd.R_drew y.1)
 have _ := Q_ (Kd.V_drew J.1)
 have _ := Q_ (Kd.R_drew L.1)
 have _ := Q_ (Kd.R_drew M.1)
 have _ := Q_ (Kd.S_drew X.1)
 have _ := Q_ (Kd.R_drew P.1)
 have _ := Q_ (Kd.S_drew ab.1)
 have _ := Q_ (blk_drew a.1)
 have _ := Q_ (blk_drew b.1)
 have _ := Q_ (blk_drew l.1)
 have _ := Q_ (blk_drew j.1)
 have _ := Q_ (below_drew1 HB.1)
 clear t u F y J L M X P ab a b l j HB
 rename_i t u F y J L M X P ab a b l j HB
 refine start_ (n := 5) (S := fun w' => w'.cell? ⟨al, 0, none⟩ = some (.slice ai U.length ag) ∧ w'.cell? ⟨al, 1, none⟩ = some (.slice aj W.length ah) ∧ w'.cell? ⟨al, 2, none⟩ = some (.slice bb aQ.length a6) ∧ w'.cell? ⟨al, 3, none⟩ = some (.int .i64 bh) ∧ w'.cell? ⟨Q, 0, none⟩ = some (.slice aX au.length a3) ∧ w'.cell? ⟨Q, 1, none⟩ = some (.slice aY av.length a4) ∧ w'.cell? ⟨Q, 2, none⟩ = some (.slice aZ aw.length a5) ∧ w'.cell? ⟨Q, 3, none⟩ = some (.int .i64 az)) (ds := []) (tf_ 0 5) (by kernel_rfl) rfl rfl ⟨(blk_cell l.1 0).trans rfl, (blk_cell l.1 1).trans rfl, (blk_cell l.1 2).trans rfl, (blk_cell l.1 3).trans rfl, (blk_cell a.1 0).trans rfl, (blk_cell a.1 1).trans rfl, (blk_cell a.1 2).trans rfl, (blk_cell a.1 3).trans rfl⟩ (fun hHeld => ?_)
 generalize eH.drew = fn at t u F y J L M X P ab a b l j HB hHeld ⊢
 refine take_ (i := 0) (N := some 31) (v := ?_) (a' := ?_) #[true, false, false, false, false] rfl rfl (by kernel_rfl) (fun _ _ _ h => h) (Or.inl ⟨by rfl, ?_⟩) hHeld ?_ ?_
 rotate_left
 ·rintro w' ⟨s0, s1, s2, s3, s4, s5, s6, s7⟩
  go_simp
  (try (simp only [Instr.field]; simp only [underlying, hu25, hu29, hu33]; go_simp; simp only [asAgg]; go_simp))
  with_reducible rfl
 rotate_left
 ·simp only [Act.put, List.setIfInBounds_toArray, List.set_cons_zero, List.set_cons_succ, i64_w, i32_w]
  rfl
 refine take_ (i := 1) (N := some 32) (v := ?_) (a' := ?_) #[true, true, false, false, false] rfl rfl (by kernel_rfl) (fun _ _ _ h => h) (Or.inl ⟨by rfl, ?_⟩) hHeld ?_ ?_
 rotate_left
 ·rintro w' ⟨s0, s1, s2, s3, s4, s5, s6, s7⟩
  go_simp
  (try (simp only [Instr.field]; simp only [underlying, hu25, hu29, hu33]; go_simp; simp only [asAgg]; go_simp))
  with_reducible rfl
 rotate_left
 ·simp only [Act.put, List.setIfInBounds_toArray, List.set_cons_zero, List.set_cons_succ, i64_w, i32_w]
  rfl
 refine one_ (i := 2) (N := some 33) #[true, true, true, false, false] rfl rfl (by kernel_rfl) (by decide) (fun K hK => ?_)
 refine goes_ Try.func6 (by kernel_rfl) rfl #[.agg #[.slice aX au.length a3, .slice aY av.length a4, .slice aZ aw.length a5, .int .i64 az]] (by rfl) rfl rfl mp_ ?_
 with_reducible refine (laws_toEndpoint.calls k _ _ au _ _ av _ _ aw az am an aM cj _ (cb_ bE HB) bB.1 (cb_ bF HB) bC.1 (cb_ bG HB) bD.1 dp.1).mono ?_
 rintro e fo ⟨eT, eU, eV, rfl, ak, ay, bg, hb⟩
 refine ⟨_, rfl, ?_⟩
 obtain ⟨tN4, hN4⟩ := bN_ hb
 have _ := Q_ (R_toldN_ hN4 (R_toldN_ hN4 (R_oldN_ hN4 (pr_ t.1) hb) (Kd.R_base ak)) (Kd.R_base ay))
 have _ := Q_ (R_toldN_ hN4 (R_toldN_ hN4 (R_oldN_ hN4 (pr_ u.1) hb) (Kd.R_base ak)) (Kd.R_base ay))
 have _ := Q_ (S_toldN_ hN4 (S_toldN_ hN4 (S_toldN_ hN4 (S_oldN_ hN4 (ps_ F.1) hb) (Kd.R_base ak)) (Kd.R_base ay)) (Kd.S_base bg))
 have _ := Q_ (R_toldN_ hN4 (R_toldN_ hN4 (R_oldN_ hN4 (pr_ y.1) hb) (Kd.R_base ak)) (Kd.R_base ay))
 have _ := Q_ (V_toldN_ hN4 (V_toldN_ hN4 (V_toldN_ hN4 (V_oldN_ hN4 (by (with_reducible repeat (first | apply Kd.V_alloc | apply Kd.V_drewN | apply Kd.V_drew)); exact J.1) hb) (Kd.R_base ak)) (Kd.R_base ay)) (Kd.S_base bg))
 have _ := Q_ (R_toldN_ hN4 (R_toldN_ hN4 (R_oldN_ hN4 (pr_ L.1) hb) (Kd.R_base ak)) (Kd.R_base ay))
 have _ := Q_ (R_toldN_ hN4 (R_toldN_ hN4 (R_oldN_ hN4 (pr_ M.1) hb) (Kd.R_base ak)) (Kd.R_base ay))
 have _ := Q_ (S_toldN_ hN4 (S_toldN_ hN4 (S_toldN_ hN4 (S_oldN_ hN4 (ps_ X.1) hb) (Kd.R_base ak)) (Kd.R_base ay)) (Kd.S_base bg))
 have _ := Q_ (R_toldN_ hN4 (R_toldN_ hN4 (R_oldN_ hN4 (pr_ P.1) hb) (Kd.R_base ak)) (Kd.R_base ay))
 have _ := Q_ (S_toldN_ hN4 (S_toldN_ hN4 (S_oldN_ hN4 (ps_ ab.1) hb) (Kd.R_base ak)) (Kd.R_base ay))
 have _ := Q_ (Kd.R_lower (Kd.R_new' (Kd.R_new' (Kd.R_new' (Kd.R_new' (Kd.R_new' (Kd.R_new' (R_geN_ hN4 ak) (Kd.R_lt (pr_ t.1))) (Kd.R_lt (pr_ u.1))) (Kd.R_lt (pr_ y.1))) (Kd.R_lt (pr_ L.1))) (Kd.R_lt (pr_ M.1))) (Kd.R_lt (pr_ P.1))) (below_size (pb4_ HB.1 q.1 B.1 aA.1 O.1)))
 have _ := Q_ (Kd.R_lower (Kd.R_new' (Kd.R_new' (Kd.R_new' (Kd.R_new' (Kd.R_new' (Kd.R_new' (R_geN_ hN4 ay) (Kd.R_lt (pr_ t.1))) (Kd.R_lt (pr_ u.1))) (Kd.R_lt (pr_ y.1))) (Kd.R_lt (pr_ L.1))) (Kd.R_lt (pr_ M.1))) (Kd.R_lt (pr_ P.1))) (below_size (pb4_ HB.1 q.1 B.1 aA.1 O.1)))
 have _ := Q_ (Kd.S_lower (Kd.S_new' (Kd.S_new' (Kd.S_new' (Kd.S_new' (Kd.S_new' (Kd.S_new' (Kd.S_new' (Kd.S_new' (S_geN_ hN4 bg) (Kd.R_lt (pr_ t.1))) (Kd.R_lt (pr_ u.1))) (Kd.S_lt (ps_ F.1))) (Kd.R_lt (pr_ y.1))) (Kd.R_lt (pr_ L.1))) (Kd.R_lt (pr_ M.1))) (Kd.S_lt (ps_ X.1))) (Kd.R_lt (pr_ P.1))) (below_size (pb4_ HB.1 q.1 B.1 aA.1 O.1)))
 have _ := Q_ (bb_ a.1 hb)
 have _ := Q_ (bb_ b.1 hb)
 have _ := Q_ (bb_ l.1 hb)
 have _ := Q_ (bb_ j.1 hb)
 have _ := Q_ (below_step (pb4_ HB.1 q.1 B.1 aA.1 O.1) hb)
 clear t u F y J L M X P ab a b l j HB
 rename_i t u F y J L M X P ab aR aS aT a b l j HB
 (try clear hb ak ay bg)
 obtain ⟨ao, aq, cq⟩ := Kd.R_slice aR.1
 (first | subst cq | (injection cq with f1_ f2_ f3_; have f4_ := f1_.symm; have f5_ := f3_.symm; clear f1_ f2_ f3_; subst f4_; subst f5_))
 obtain ⟨ap, ar, cr⟩ := Kd.R_slice aS.1
 (first | subst cr | (injection cr with f1_ f2_ f3_; have f4_ := f1_.symm; have f5_ := f3_.symm; clear f1_ f2_ f3_; subst f4_; subst f5_))
 obtain ⟨aV, aW, cs⟩ := Kd.S_slice aT.1
 (first | subst cs | (injection cs with f1_ f2_ f3_; have f4_ := f1_.symm; have f5_ := f3_.symm; clear f1_ f2_ f3_; subst f4_; subst f5_))
 refine hK.out _ _ ⟨(blk_cell l.1 0).trans rfl, (blk_cell l.1 1).trans rfl, (blk_cell l.1 2).trans rfl, (blk_cell l.1 3).trans rfl, (blk_cell a.1 0).trans rfl, (blk_cell a.1 1).trans rfl, (blk_cell a.1 2).trans rfl, (blk_cell a.1 3).trans rfl⟩ (fun hHeld => ?_)
 clear hK K
 refine no_ (some 33) ?_
 refine one_ (i := 3) (N := some 34) #[true, true, true, true, false] rfl rfl (by kernel_rfl) (by decide) (fun K hK => ?_)
 refine goes_ Try.func9 (by kernel_rfl) rfl #[.agg #[.slice ai U.length ag, .slice aj W.length ah, .slice bb aQ.length a6, .int .i64 bh], .agg #[.slice ao am.length aq, .slice ap an.length ar, .slice aV aM.length aW, .int .i64 cj]] (by rfl) rfl rfl mp_ ?_
 with_reducible refine (laws_eqEndpoint.calls k _ _ U _ _ W _ _ aQ bh _ _ am _ _ an _ _ aM cj b3 _ ?side1 ?side2 ?side3 ?side4 ?side5 ?side6 ?side7 ?side8 ?side9 ?side10 ?side11 ?side12 dq.1).mono ?_
 (case side1 => exact pc_ ((Kd.R_reads' L.1).2.2))
 (case side2 => exact (Kd.R_reads' L.1).2.1)
 (case side3 => exact pc_ ((Kd.R_reads' M.1).2.2))
 (case side4 => exact (Kd.R_reads' M.1).2.1)
 (case side5 => exact pc_ ((Kd.S_reads' X.1).2.2))
 (case side6 => exact (Kd.S_reads' X.1).2.1)
 (case side7 => exact pc_ ((Kd.R_reads' aR.1).2.2))
 (case side8 => exact (Kd.R_reads' aR.1).2.1)
 (case side9 => exact pc_ ((Kd.R_reads' aS.1).2.2))
 (case side10 => exact (Kd.R_reads' aS.1).2.1)
 (case side11 => exact pc_ ((Kd.S_reads' aT.1).2.2))
 (case side12 => exact (Kd.S_reads' aT.1).2.1)
 rintro e fp ⟨rfl, hb⟩
 refine ⟨_, rfl, ?_⟩
 have _ := Q_ (Kd.R_below (pr_ t.1) hb)
 have _ := Q_ (Kd.R_below (pr_ u.1) hb)
 have _ := Q_ (Kd.S_below (ps_ F.1) hb)
 have _ := Q_ (Kd.R_below (pr_ y.1) hb)
 have _ := Q_ (Kd.V_below (by (with_reducible repeat (first | apply Kd.V_alloc | apply Kd.V_drewN | apply Kd.V_drew)); exact J.1) hb)
 have _ := Q_ (Kd.R_below (pr_ L.1) hb)
 have _ := Q_ (Kd.R_below (pr_ M.1) hb)
 have _ := Q_ (Kd.S_below (ps_ X.1) hb)
 have _ := Q_ (Kd.R_below (pr_ P.1) hb)
 have _ := Q_ (Kd.S_below (ps_ ab.1) hb)
 have _ := Q_ (Kd.R_below (pr_ aR.1) hb)
 have _ := Q_ (Kd.R_below (pr_ aS.1) hb)
 have _ := Q_ (Kd.S_below (ps_ aT.1) hb)
 have _ := Q_ (bb_ a.1 hb)
 have _ := Q_ (bb_ b.1 hb)
 have _ := Q_ (bb_ l.1 hb)
 have _ := Q_ (bb_ j.1 hb)
 have _ := Q_ (below_step (pb4_ HB.1 q.1 B.1 aA.1 O.1) hb)
 clear t u F y J L M X P ab aR aS aT a b l j HB
 rename_i t u F y J L M X P ab aR aS aT a b l j HB
 (try clear hb)
 refine hK.out _ _ ⟨(blk_cell l.1 0).trans rfl, (blk_cell l.1 1).trans rfl, (blk_cell l.1 2).trans rfl, (blk_cell l.1 3).trans rfl, (blk_cell a.1 0).trans rfl, (blk_cell a.1 1).trans rfl, (blk_cell a.1 2).trans rfl, (blk_cell a.1 3).trans rfl⟩ (fun hHeld => ?_)
 clear hK K
 refine no_ (some 34) ?_
 refine pure_ (i := 4) (N := some 35) (v := ?_) (a' := ?_) #[true, true, true, true, true] rfl rfl (by kernel_rfl) (fun _ _ _ h => h) (Or.inl ⟨by rfl, ?_⟩) ?_ ?_
 rotate_left
 ·intro w'
  go_simp
  (try (simp only [Instr.field]; simp only [underlying, hu25, hu29, hu33]; go_simp; simp only [asAgg]; go_simp))
  with_reducible rfl
 rotate_left
 ·simp only [Act.put, List.setIfInBounds_toArray, List.set_cons_zero, List.set_cons_succ, i64_w, i32_w]
  rfl
 refine done_ (by kernel_rfl) ?_
 go_upto_if 35 with (fail)
 have H := HS_.1
 clear HS_
 by_cases co : b3 = true
 rotate_left
 ·replace co := bf_ co
  subst co
  rw [if_neg ff_] at H
  obtain rfl := Option.some.inj H
  go_wp2
  go_ret
  exact ⟨er_, pb4_ HB.1 q.1 B.1 aA.1 O.1⟩
 subst co
 rw [if_pos rfl] at H
 obtain ⟨b4, dr, H⟩ := bs_ H
 (try dsimp only at H)
 have cc := Q_ H
 clear H
 have d0 := bp.1
 have es := a7.1
 have d1 := a0.1
 have et := aO.1
 have d2 := a2.1
 have eu := a8.1
 have dG := bc4_ l.1
 go_upto_region 14 with (first | ((with_reducible refine gate_callee (f := 10) rfl ?_); refine gl_ (some 38) Try.func10 #[.agg #[.slice ai U.length ag, .slice aj W.length ah, .slice bb aQ.length a6, .int .i64 bh], .int .i64 1] ?_; (with_reducible refine (laws_markEndpoint.calls (fun k_ => some k_ = (.slice ai U.length ag : Value).ownBlock) (.slice ai U.length ag) U (fun k_ => some k_ = (.slice aj W.length ah : Value).ownBlock) (.slice aj W.length ah) W (fun k_ => ((((((((((((((((some k_ ≠ (.slice ai U.length ag : Value).ownBlock ∧ some k_ ≠ (.slice aj W.length ah : Value).ownBlock) ∧ tN2 ≤ k_) ∧ some k_ ≠ (.slice ac Z.length ae : Value).ownBlock) ∧ some k_ ≠ (.slice ad aa.length af : Value).ownBlock) ∧ some k_ ≠ (.slice aI aD.length aL : Value).ownBlock) ∧ some k_ ≠ (.slice I A.length G : Value).ownBlock) ∧ some k_ ≠ (.slice E x.length D : Value).ownBlock) ∧ k_ < tN3) ∧ some k_ ≠ (.slice ao am.length aq : Value).ownBlock) ∧ some k_ ≠ (.slice ap an.length ar : Value).ownBlock) ∧ some k_ ≠ (.slice aV aM.length aW : Value).ownBlock) ∧ k_ < tN4) ∧ k_ ≠ Q) ∧ k_ ≠ Y) ∧ k_ ≠ al) ∧ k_ ≠ T)) (.slice bb aQ.length a6) aQ bh 1 b4 w _ ?side1 ?side2 ?side3 ?side4 ?side5 ?side6 dr.1).mono ?_); (case side1 => exact qb4_ HB.1 q.1 B.1 aA.1 O.1); (case side2 => exact Kd.R_tight rfl L.1); (case side3 => exact fun k_ e_ => (L.1.1 k_ e_.symm).1.1.1.1.1.1.1.1.1); (case side4 => exact Kd.R_tight rfl M.1); (case side5 => exact fun k_ e_ => (M.1.1 k_ e_.symm).1.1.1.1.1.1.1.1.1); (case side6 => exact (Kd.S_types (Kd.S_types (Kd.S_types (Kd.S_types X.1 a.1 (by decide)) b.1 (by decide)) l.1 (by decide)) j.1 (by decide))); rintro e fq ⟨rfl, hb, hkp⟩; refine ⟨_, rfl, ?_⟩; have _ := Q_ (blk_kept (pk_ a.1) hkp (fun hs_ => Or.elim hs_ (fun e_ => (fun e_ => (Kd.R_ne L.1 a.1 (by decide)) e_) e_) (fun e_ => Or.elim e_ (fun e_ => (fun e_ => (Kd.R_ne M.1 a.1 (by decide)) e_) e_) (fun e_ => (fun e_ => (e_.1.1.1.2) rfl) e_)))); have _ := Q_ (Kd.R_mono (ok' := fun k_ => some k_ ≠ (.slice ad aa.length af : Value).ownBlock ∧ some k_ ≠ (.slice I A.length G : Value).ownBlock ∧ some k_ ≠ (.slice E x.length D : Value).ownBlock ∧ some k_ ≠ (.slice ao am.length aq : Value).ownBlock ∧ some k_ ≠ (.slice ap an.length ar : Value).ownBlock ∧ tN1 ≤ k_ ∧ k_ < tN2 ∧ k_ < tN3 ∧ k_ < tN4) (Kd.R_keptB ((Kd.R_mono (ok' := fun k_ => (((((((((((some k_ ≠ (.slice ad aa.length af : Value).ownBlock ∧ tN1 ≤ k_) ∧ some k_ ≠ (.slice I A.length G : Value).ownBlock) ∧ some k_ ≠ (.slice ai U.length ag : Value).ownBlock) ∧ some k_ ≠ (.slice aj W.length ah : Value).ownBlock) ∧ k_ < tN2) ∧ some k_ ≠ (.slice E x.length D : Value).ownBlock) ∧ k_ < tN3) ∧ some k_ ≠ (.slice ao am.length aq : Value).ownBlock) ∧ some k_ ≠ (.slice ap an.length ar : Value).ownBlock) ∧ k_ < tN4)) ∧ ¬ (((((((((((((((((some k_ ≠ (.slice ai U.length ag : Value).ownBlock ∧ some k_ ≠ (.slice aj W.length ah : Value).ownBlock) ∧ tN2 ≤ k_) ∧ some k_ ≠ (.slice ac Z.length ae : Value).ownBlock) ∧ some k_ ≠ (.slice ad aa.length af : Value).ownBlock) ∧ some k_ ≠ (.slice aI aD.length aL : Value).ownBlock) ∧ some k_ ≠ (.slice I A.length G : Value).ownBlock) ∧ some k_ ≠ (.slice E x.length D : Value).ownBlock) ∧ k_ < tN3) ∧ some k_ ≠ (.slice ao am.length aq : Value).ownBlock) ∧ some k_ ≠ (.slice ap an.length ar : Value).ownBlock) ∧ some k_ ≠ (.slice aV aM.length aW : Value).ownBlock) ∧ k_ < tN4) ∧ k_ ≠ Q) ∧ k_ ≠ Y) ∧ k_ ≠ al) ∧ k_ ≠ T))) (Kd.R_tight2 rfl t.1) (fun k_ hk => ⟨hk.2, fun e_ => (e_.1.1.1.1.1.1.1.1.1.1.1.1.1.2) hk.1⟩))) hkp (fun k_ hk_ hs_ => Or.elim hs_ (fun e_ => (hk_.1.1.1.1.1.1.1.1.2) e_) (fun e_ => Or.elim e_ (fun e_ => (hk_.1.1.1.1.1.1.1.2) e_) (fun e_ => (hk_.2) e_)))) (fun k_ hk_ => ⟨hk_.1.1.1.1.1.1.1.1.1.1.1.1, hk_.1.1.1.1.1.1.1.1.1.1.2, hk_.1.1.1.1.1.1.2, hk_.1.1.1.1.2, hk_.1.1.1.2, hk_.1.1.1.1.1.1.1.1.1.1.1.2, hk_.1.1.1.1.1.1.1.2, hk_.1.1.1.1.1.2, hk_.1.1.2⟩)); have _ := Q_ (Kd.R_mono (ok' := fun k_ => some k_ ≠ (.slice ac Z.length ae : Value).ownBlock ∧ some k_ ≠ (.slice I A.length G : Value).ownBlock ∧ some k_ ≠ (.slice E x.length D : Value).ownBlock ∧ some k_ ≠ (.slice ao am.length aq : Value).ownBlock ∧ some k_ ≠ (.slice ap an.length ar : Value).ownBlock ∧ tN1 ≤ k_ ∧ k_ < tN2 ∧ k_ < tN3 ∧ k_ < tN4) (Kd.R_keptB ((Kd.R_mono (ok' := fun k_ => (((((((((((some k_ ≠ (.slice ac Z.length ae : Value).ownBlock ∧ tN1 ≤ k_) ∧ some k_ ≠ (.slice I A.length G : Value).ownBlock) ∧ some k_ ≠ (.slice ai U.length ag : Value).ownBlock) ∧ some k_ ≠ (.slice aj W.length ah : Value).ownBlock) ∧ k_ < tN2) ∧ some k_ ≠ (.slice E x.length D : Value).ownBlock) ∧ k_ < tN3) ∧ some k_ ≠ (.slice ao am.length aq : Value).ownBlock) ∧ some k_ ≠ (.slice ap an.length ar : Value).ownBlock) ∧ k_ < tN4)) ∧ ¬ (((((((((((((((((some k_ ≠ (.slice ai U.length ag : Value).ownBlock ∧ some k_ ≠ (.slice aj W.length ah : Value).ownBlock) ∧ tN2 ≤ k_) ∧ some k_ ≠ (.slice ac Z.length ae : Value).ownBlock) ∧ some k_ ≠ (.slice ad aa.length af : Value).ownBlock) ∧ some k_ ≠ (.slice aI aD.length aL : Value).ownBlock) ∧ some k_ ≠ (.slice I A.length G : Value).ownBlock) ∧ some k_ ≠ (.slice E x.length D : Value).ownBlock) ∧ k_ < tN3) ∧ some k_ ≠ (.slice ao am.length aq : Value).ownBlock) ∧ some k_ ≠ (.slice ap an.length ar : Value).ownBlock) ∧ some k_ ≠ (.slice aV aM.length aW : Value).ownBlock) ∧ k_ < tN4) ∧ k_ ≠ Q) ∧ k_ ≠ Y) ∧ k_ ≠ al) ∧ k_ ≠ T))) (Kd.R_tight2 rfl u.1) (fun k_ hk => ⟨hk.2, fun e_ => (e_.1.1.1.1.1.1.1.1.1.1.1.1.2) hk.1⟩))) hkp (fun k_ hk_ hs_ => Or.elim hs_ (fun e_ => (hk_.1.1.1.1.1.1.1.1.2) e_) (fun e_ => Or.elim e_ (fun e_ => (hk_.1.1.1.1.1.1.1.2) e_) (fun e_ => (hk_.2) e_)))) (fun k_ hk_ => ⟨hk_.1.1.1.1.1.1.1.1.1.1.1.1, hk_.1.1.1.1.1.1.1.1.1.1.2, hk_.1.1.1.1.1.1.2, hk_.1.1.1.1.2, hk_.1.1.1.2, hk_.1.1.1.1.1.1.1.1.1.1.1.2, hk_.1.1.1.1.1.1.1.2, hk_.1.1.1.1.1.2, hk_.1.1.2⟩)); have _ := Q_ (Kd.S_mono (ok' := fun k_ => some k_ ≠ (.slice ac Z.length ae : Value).ownBlock ∧ some k_ ≠ (.slice ad aa.length af : Value).ownBlock ∧ some k_ ≠ (.slice I A.length G : Value).ownBlock ∧ some k_ ≠ (.slice E x.length D : Value).ownBlock ∧ some k_ ≠ (.slice ao am.length aq : Value).ownBlock ∧ some k_ ≠ (.slice ap an.length ar : Value).ownBlock ∧ some k_ ≠ (.slice aV aM.length aW : Value).ownBlock ∧ tN1 ≤ k_ ∧ k_ < tN2 ∧ k_ < tN3 ∧ k_ < tN4) (Kd.S_keptB ((Kd.S_mono (ok' := fun k_ => ((((((((((((((some k_ ≠ (.slice ac Z.length ae : Value).ownBlock ∧ some k_ ≠ (.slice ad aa.length af : Value).ownBlock) ∧ tN1 ≤ k_) ∧ some k_ ≠ (.slice I A.length G : Value).ownBlock) ∧ some k_ ≠ (.slice ai U.length ag : Value).ownBlock) ∧ some k_ ≠ (.slice aj W.length ah : Value).ownBlock) ∧ some k_ ≠ (.slice bb aQ.length a6 : Value).ownBlock) ∧ k_ < tN2) ∧ some k_ ≠ (.slice E x.length D : Value).ownBlock) ∧ k_ < tN3) ∧ some k_ ≠ (.slice ao am.length aq : Value).ownBlock) ∧ some k_ ≠ (.slice ap an.length ar : Value).ownBlock) ∧ some k_ ≠ (.slice aV aM.length aW : Value).ownBlock) ∧ k_ < tN4)) ∧ ¬ (((((((((((((((((some k_ ≠ (.slice ai U.length ag : Value).ownBlock ∧ some k_ ≠ (.slice aj W.length ah : Value).ownBlock) ∧ tN2 ≤ k_) ∧ some k_ ≠ (.slice ac Z.length ae : Value).ownBlock) ∧ some k_ ≠ (.slice ad aa.length af : Value).ownBlock) ∧ some k_ ≠ (.slice aI aD.length aL : Value).ownBlock) ∧ some k_ ≠ (.slice I A.length G : Value).ownBlock) ∧ some k_ ≠ (.slice E x.length D : Value).ownBlock) ∧ k_ < tN3) ∧ some k_ ≠ (.slice ao am.length aq : Value).ownBlock) ∧ some k_ ≠ (.slice ap an.length ar : Value).ownBlock) ∧ some k_ ≠ (.slice aV aM.length aW : Value).ownBlock) ∧ k_ < tN4) ∧ k_ ≠ Q) ∧ k_ ≠ Y) ∧ k_ ≠ al) ∧ k_ ≠ T))) F.1 (fun k_ hk => ⟨hk, fun e_ => Nat.not_lt.2 (e_.1.1.1.1.1.1.1.1.1.1.1.1.1.1.2) (hk.1.1.1.1.1.1.2)⟩))) hkp (fun k_ hk_ hs_ => Or.elim hs_ (fun e_ => (hk_.1.1.1.1.1.1.1.1.1.1.2) e_) (fun e_ => Or.elim e_ (fun e_ => (hk_.1.1.1.1.1.1.1.1.1.2) e_) (fun e_ => (hk_.2) e_)))) (fun k_ hk_ => ⟨hk_.1.1.1.1.1.1.1.1.1.1.1.1.1.1.1, hk_.1.1.1.1.1.1.1.1.1.1.1.1.1.1.2, hk_.1.1.1.1.1.1.1.1.1.1.1.1.2, hk_.1.1.1.1.1.1.1.2, hk_.1.1.1.1.1.2, hk_.1.1.1.1.2, hk_.1.1.1.2, hk_.1.1.1.1.1.1.1.1.1.1.1.1.1.2, hk_.1.1.1.1.1.1.1.1.2, hk_.1.1.1.1.1.1.2, hk_.1.1.2⟩)); have _ := Q_ (Kd.R_mono (ok' := fun k_ => some k_ ≠ (.slice ac Z.length ae : Value).ownBlock ∧ some k_ ≠ (.slice ad aa.length af : Value).ownBlock ∧ some k_ ≠ (.slice E x.length D : Value).ownBlock ∧ some k_ ≠ (.slice ao am.length aq : Value).ownBlock ∧ some k_ ≠ (.slice ap an.length ar : Value).ownBlock ∧ k_ < tN2 ∧ k_ < tN3 ∧ k_ < tN4) (Kd.R_keptB ((Kd.R_mono (ok' := fun k_ => (((((((((((True ∧ some k_ ≠ (.slice ac Z.length ae : Value).ownBlock) ∧ some k_ ≠ (.slice ad aa.length af : Value).ownBlock) ∧ some k_ ≠ (.slice ai U.length ag : Value).ownBlock) ∧ some k_ ≠ (.slice aj W.length ah : Value).ownBlock) ∧ k_ < tN2) ∧ some k_ ≠ (.slice E x.length D : Value).ownBlock) ∧ k_ < tN3) ∧ some k_ ≠ (.slice ao am.length aq : Value).ownBlock) ∧ some k_ ≠ (.slice ap an.length ar : Value).ownBlock) ∧ k_ < tN4)) ∧ ¬ (((((((((((((((((some k_ ≠ (.slice ai U.length ag : Value).ownBlock ∧ some k_ ≠ (.slice aj W.length ah : Value).ownBlock) ∧ tN2 ≤ k_) ∧ some k_ ≠ (.slice ac Z.length ae : Value).ownBlock) ∧ some k_ ≠ (.slice ad aa.length af : Value).ownBlock) ∧ some k_ ≠ (.slice aI aD.length aL : Value).ownBlock) ∧ some k_ ≠ (.slice I A.length G : Value).ownBlock) ∧ some k_ ≠ (.slice E x.length D : Value).ownBlock) ∧ k_ < tN3) ∧ some k_ ≠ (.slice ao am.length aq : Value).ownBlock) ∧ some k_ ≠ (.slice ap an.length ar : Value).ownBlock) ∧ some k_ ≠ (.slice aV aM.length aW : Value).ownBlock) ∧ k_ < tN4) ∧ k_ ≠ Q) ∧ k_ ≠ Y) ∧ k_ ≠ al) ∧ k_ ≠ T))) (Kd.R_tight2 rfl y.1) (fun k_ hk => ⟨hk.2, fun e_ => (e_.1.1.1.1.1.1.1.1.1.1.2) hk.1⟩))) hkp (fun k_ hk_ hs_ => Or.elim hs_ (fun e_ => (hk_.1.1.1.1.1.1.1.1.2) e_) (fun e_ => Or.elim e_ (fun e_ => (hk_.1.1.1.1.1.1.1.2) e_) (fun e_ => (hk_.2) e_)))) (fun k_ hk_ => ⟨hk_.1.1.1.1.1.1.1.1.1.1.1.2, hk_.1.1.1.1.1.1.1.1.1.1.2, hk_.1.1.1.1.1.1.2, hk_.1.1.1.1.2, hk_.1.1.1.2, hk_.1.1.1.1.1.1.1.2, hk_.1.1.1.1.1.2, hk_.1.1.2⟩)); have _ := Q_ (Kd.V_mono (ok' := fun k_ => some k_ ≠ (.slice ac Z.length ae : Value).ownBlock ∧ some k_ ≠ (.slice ad aa.length af : Value).ownBlock ∧ some k_ ≠ (.slice aI aD.length aL : Value).ownBlock ∧ some k_ ≠ (.slice I A.length G : Value).ownBlock ∧ some k_ ≠ (.slice E x.length D : Value).ownBlock ∧ some k_ ≠ (.slice aJ ax.length aH : Value).ownBlock ∧ some k_ ≠ (.slice ao am.length aq : Value).ownBlock ∧ some k_ ≠ (.slice ap an.length ar : Value).ownBlock ∧ some k_ ≠ (.slice aV aM.length aW : Value).ownBlock ∧ k_ ≠ Q ∧ k_ ≠ Y ∧ k_ ≠ al ∧ k_ ≠ T ∧ k_ < tN2 ∧ k_ < tN3 ∧ k_ < tN4) (Kd.V_keptB ((Kd.V_mono (ok' := fun k_ => ((((((((((((((((some k_ ≠ (.slice I A.length G : Value).ownBlock ∧ (some k_ ≠ (.slice ac Z.length ae : Value).ownBlock ∧ (some k_ ≠ (.slice ad aa.length af : Value).ownBlock ∧ (some k_ ≠ (.slice aI aD.length aL : Value).ownBlock ∧ k_ ≠ Q)))) ∧ k_ ≠ Y) ∧ some k_ ≠ (.slice ai U.length ag : Value).ownBlock) ∧ some k_ ≠ (.slice aj W.length ah : Value).ownBlock) ∧ some k_ ≠ (.slice bb aQ.length a6 : Value).ownBlock) ∧ k_ < tN2) ∧ k_ ≠ al) ∧ some k_ ≠ (.slice E x.length D : Value).ownBlock) ∧ some k_ ≠ (.slice aJ ax.length aH : Value).ownBlock) ∧ k_ < tN3) ∧ k_ ≠ T) ∧ some k_ ≠ (.slice ao am.length aq : Value).ownBlock) ∧ some k_ ≠ (.slice ap an.length ar : Value).ownBlock) ∧ some k_ ≠ (.slice aV aM.length aW : Value).ownBlock) ∧ k_ < tN4)) ∧ ¬ (((((((((((((((((some k_ ≠ (.slice ai U.length ag : Value).ownBlock ∧ some k_ ≠ (.slice aj W.length ah : Value).ownBlock) ∧ tN2 ≤ k_) ∧ some k_ ≠ (.slice ac Z.length ae : Value).ownBlock) ∧ some k_ ≠ (.slice ad aa.length af : Value).ownBlock) ∧ some k_ ≠ (.slice aI aD.length aL : Value).ownBlock) ∧ some k_ ≠ (.slice I A.length G : Value).ownBlock) ∧ some k_ ≠ (.slice E x.length D : Value).ownBlock) ∧ k_ < tN3) ∧ some k_ ≠ (.slice ao am.length aq : Value).ownBlock) ∧ some k_ ≠ (.slice ap an.length ar : Value).ownBlock) ∧ some k_ ≠ (.slice aV aM.length aW : Value).ownBlock) ∧ k_ < tN4) ∧ k_ ≠ Q) ∧ k_ ≠ Y) ∧ k_ ≠ al) ∧ k_ ≠ T))) J.1 (fun k_ hk => ⟨hk, fun e_ => Nat.not_lt.2 (e_.1.1.1.1.1.1.1.1.1.1.1.1.1.1.2) (hk.1.1.1.1.1.1.1.1.1.2)⟩))) hkp (fun k_ hk_ hs_ => Or.elim hs_ (fun e_ => (hk_.1.1.1.1.1.1.1.1.1.1.1.1.1.2) e_) (fun e_ => Or.elim e_ (fun e_ => (hk_.1.1.1.1.1.1.1.1.1.1.1.1.2) e_) (fun e_ => (hk_.2) e_)))) (fun k_ hk_ => ⟨hk_.1.1.1.1.1.1.1.1.1.1.1.1.1.1.1.1.2.1, hk_.1.1.1.1.1.1.1.1.1.1.1.1.1.1.1.1.2.2.1, hk_.1.1.1.1.1.1.1.1.1.1.1.1.1.1.1.1.2.2.2.1, hk_.1.1.1.1.1.1.1.1.1.1.1.1.1.1.1.1.1, hk_.1.1.1.1.1.1.1.1.1.2, hk_.1.1.1.1.1.1.1.1.2, hk_.1.1.1.1.1.2, hk_.1.1.1.1.2, hk_.1.1.1.2, hk_.1.1.1.1.1.1.1.1.1.1.1.1.1.1.1.1.2.2.2.2, hk_.1.1.1.1.1.1.1.1.1.1.1.1.1.1.1.2, hk_.1.1.1.1.1.1.1.1.1.1.2, hk_.1.1.1.1.1.1.2, hk_.1.1.1.1.1.1.1.1.1.1.1.2, hk_.1.1.1.1.1.1.1.2, hk_.1.1.2⟩)); have _ := Q_ (blk_kept (pk_ b.1) hkp (fun hs_ => Or.elim hs_ (fun e_ => (fun e_ => (Kd.R_ne L.1 b.1 (by decide)) e_) e_) (fun e_ => Or.elim e_ (fun e_ => (fun e_ => (Kd.R_ne M.1 b.1 (by decide)) e_) e_) (fun e_ => (fun e_ => (e_.1.1.2) rfl) e_)))); have _ := Q_ (blk_kept (pk_ l.1) hkp (fun hs_ => Or.elim hs_ (fun e_ => (fun e_ => (Kd.R_ne L.1 l.1 (by decide)) e_) e_) (fun e_ => Or.elim e_ (fun e_ => (fun e_ => (Kd.R_ne M.1 l.1 (by decide)) e_) e_) (fun e_ => (fun e_ => (e_.1.2) rfl) e_)))); have _ := Q_ (Kd.R_mono (ok' := fun k_ => some k_ ≠ (.slice ac Z.length ae : Value).ownBlock ∧ some k_ ≠ (.slice ad aa.length af : Value).ownBlock ∧ some k_ ≠ (.slice I A.length G : Value).ownBlock ∧ some k_ ≠ (.slice ao am.length aq : Value).ownBlock ∧ some k_ ≠ (.slice ap an.length ar : Value).ownBlock ∧ tN3 ≤ k_ ∧ k_ < tN4) (Kd.R_keptB ((Kd.R_mono (ok' := fun k_ => ((((((((((True ∧ tN3 ≤ k_) ∧ some k_ ≠ (.slice ac Z.length ae : Value).ownBlock) ∧ some k_ ≠ (.slice ad aa.length af : Value).ownBlock) ∧ some k_ ≠ (.slice I A.length G : Value).ownBlock) ∧ some k_ ≠ (.slice ai U.length ag : Value).ownBlock) ∧ some k_ ≠ (.slice aj W.length ah : Value).ownBlock) ∧ some k_ ≠ (.slice ao am.length aq : Value).ownBlock) ∧ some k_ ≠ (.slice ap an.length ar : Value).ownBlock) ∧ k_ < tN4)) ∧ ¬ (((((((((((((((((some k_ ≠ (.slice ai U.length ag : Value).ownBlock ∧ some k_ ≠ (.slice aj W.length ah : Value).ownBlock) ∧ tN2 ≤ k_) ∧ some k_ ≠ (.slice ac Z.length ae : Value).ownBlock) ∧ some k_ ≠ (.slice ad aa.length af : Value).ownBlock) ∧ some k_ ≠ (.slice aI aD.length aL : Value).ownBlock) ∧ some k_ ≠ (.slice I A.length G : Value).ownBlock) ∧ some k_ ≠ (.slice E x.length D : Value).ownBlock) ∧ k_ < tN3) ∧ some k_ ≠ (.slice ao am.length aq : Value).ownBlock) ∧ some k_ ≠ (.slice ap an.length ar : Value).ownBlock) ∧ some k_ ≠ (.slice aV aM.length aW : Value).ownBlock) ∧ k_ < tN4) ∧ k_ ≠ Q) ∧ k_ ≠ Y) ∧ k_ ≠ al) ∧ k_ ≠ T))) (Kd.R_tight2 rfl P.1) (fun k_ hk => ⟨hk.2, fun e_ => (e_.1.1.1.1.1.1.1.1.1.2) hk.1⟩))) hkp (fun k_ hk_ hs_ => Or.elim hs_ (fun e_ => (hk_.1.1.1.1.1.2) e_) (fun e_ => Or.elim e_ (fun e_ => (hk_.1.1.1.1.2) e_) (fun e_ => (hk_.2) e_)))) (fun k_ hk_ => ⟨hk_.1.1.1.1.1.1.1.1.1.2, hk_.1.1.1.1.1.1.1.1.2, hk_.1.1.1.1.1.1.1.2, hk_.1.1.1.1.2, hk_.1.1.1.2, hk_.1.1.1.1.1.1.1.1.1.1.2, hk_.1.1.2⟩)); have _ := Q_ (Kd.S_mono (ok' := fun k_ => some k_ ≠ (.slice ac Z.length ae : Value).ownBlock ∧ some k_ ≠ (.slice ad aa.length af : Value).ownBlock ∧ some k_ ≠ (.slice I A.length G : Value).ownBlock ∧ some k_ ≠ (.slice E x.length D : Value).ownBlock ∧ some k_ ≠ (.slice ao am.length aq : Value).ownBlock ∧ some k_ ≠ (.slice ap an.length ar : Value).ownBlock ∧ tN3 ≤ k_ ∧ k_ < tN4) (Kd.S_keptB ((Kd.S_mono (ok' := fun k_ => ((((((((((some k_ ≠ (.slice E x.length D : Value).ownBlock ∧ tN3 ≤ k_) ∧ some k_ ≠ (.slice ac Z.length ae : Value).ownBlock) ∧ some k_ ≠ (.slice ad aa.length af : Value).ownBlock) ∧ some k_ ≠ (.slice I A.length G : Value).ownBlock) ∧ some k_ ≠ (.slice ai U.length ag : Value).ownBlock) ∧ some k_ ≠ (.slice aj W.length ah : Value).ownBlock) ∧ some k_ ≠ (.slice ao am.length aq : Value).ownBlock) ∧ some k_ ≠ (.slice ap an.length ar : Value).ownBlock) ∧ k_ < tN4)) ∧ ¬ (((((((((((((((((some k_ ≠ (.slice ai U.length ag : Value).ownBlock ∧ some k_ ≠ (.slice aj W.length ah : Value).ownBlock) ∧ tN2 ≤ k_) ∧ some k_ ≠ (.slice ac Z.length ae : Value).ownBlock) ∧ some k_ ≠ (.slice ad aa.length af : Value).ownBlock) ∧ some k_ ≠ (.slice aI aD.length aL : Value).ownBlock) ∧ some k_ ≠ (.slice I A.length G : Value).ownBlock) ∧ some k_ ≠ (.slice E x.length D : Value).ownBlock) ∧ k_ < tN3) ∧ some k_ ≠ (.slice ao am.length aq : Value).ownBlock) ∧ some k_ ≠ (.slice ap an.length ar : Value).ownBlock) ∧ some k_ ≠ (.slice aV aM.length aW : Value).ownBlock) ∧ k_ < tN4) ∧ k_ ≠ Q) ∧ k_ ≠ Y) ∧ k_ ≠ al) ∧ k_ ≠ T))) ab.1 (fun k_ hk => ⟨hk, fun e_ => Nat.not_lt.2 (hk.1.1.1.1.1.1.1.1.2) (e_.1.1.1.1.1.1.1.1.2)⟩))) hkp (fun k_ hk_ hs_ => Or.elim hs_ (fun e_ => (hk_.1.1.1.1.1.2) e_) (fun e_ => Or.elim e_ (fun e_ => (hk_.1.1.1.1.2) e_) (fun e_ => (hk_.2) e_)))) (fun k_ hk_ => ⟨hk_.1.1.1.1.1.1.1.1.1.2, hk_.1.1.1.1.1.1.1.1.2, hk_.1.1.1.1.1.1.1.2, hk_.1.1.1.1.1.1.1.1.1.1.1, hk_.1.1.1.1.2, hk_.1.1.1.2, hk_.1.1.1.1.1.1.1.1.1.1.2, hk_.1.1.2⟩)); have _ := Q_ (blk_kept (pk_ j.1) hkp (fun hs_ => Or.elim hs_ (fun e_ => (fun e_ => (Kd.R_ne L.1 j.1 (by decide)) e_) e_) (fun e_ => Or.elim e_ (fun e_ => (fun e_ => (Kd.R_ne M.1 j.1 (by decide)) e_) e_) (fun e_ => (fun e_ => (e_.2) rfl) e_)))); have _ := Q_ (Kd.R_mono (ok' := fun k_ => some k_ ≠ (.slice ac Z.length ae : Value).ownBlock ∧ some k_ ≠ (.slice ad aa.length af : Value).ownBlock ∧ some k_ ≠ (.slice I A.length G : Value).ownBlock ∧ some k_ ≠ (.slice E x.length D : Value).ownBlock ∧ some k_ ≠ (.slice ap an.length ar : Value).ownBlock ∧ tN4 ≤ k_) (Kd.R_keptB ((Kd.R_mono (ok' := fun k_ => ((((((((some k_ ≠ (.slice ap an.length ar : Value).ownBlock ∧ tN4 ≤ k_) ∧ some k_ ≠ (.slice ac Z.length ae : Value).ownBlock) ∧ some k_ ≠ (.slice ad aa.length af : Value).ownBlock) ∧ some k_ ≠ (.slice I A.length G : Value).ownBlock) ∧ some k_ ≠ (.slice ai U.length ag : Value).ownBlock) ∧ some k_ ≠ (.slice aj W.length ah : Value).ownBlock) ∧ some k_ ≠ (.slice E x.length D : Value).ownBlock)) ∧ ¬ (((((((((((((((((some k_ ≠ (.slice ai U.length ag : Value).ownBlock ∧ some k_ ≠ (.slice aj W.length ah : Value).ownBlock) ∧ tN2 ≤ k_) ∧ some k_ ≠ (.slice ac Z.length ae : Value).ownBlock) ∧ some k_ ≠ (.slice ad aa.length af : Value).ownBlock) ∧ some k_ ≠ (.slice aI aD.length aL : Value).ownBlock) ∧ some k_ ≠ (.slice I A.length G : Value).ownBlock) ∧ some k_ ≠ (.slice E x.length D : Value).ownBlock) ∧ k_ < tN3) ∧ some k_ ≠ (.slice ao am.length aq : Value).ownBlock) ∧ some k_ ≠ (.slice ap an.length ar : Value).ownBlock) ∧ some k_ ≠ (.slice aV aM.length aW : Value).ownBlock) ∧ k_ < tN4) ∧ k_ ≠ Q) ∧ k_ ≠ Y) ∧ k_ ≠ al) ∧ k_ ≠ T))) (Kd.R_tight2 rfl aR.1) (fun k_ hk => ⟨hk.2, fun e_ => (e_.1.1.1.1.1.1.1.2) hk.1⟩))) hkp (fun k_ hk_ hs_ => Or.elim hs_ (fun e_ => (hk_.1.1.1.2) e_) (fun e_ => Or.elim e_ (fun e_ => (hk_.1.1.2) e_) (fun e_ => (hk_.2) e_)))) (fun k_ hk_ => ⟨hk_.1.1.1.1.1.1.1.2, hk_.1.1.1.1.1.1.2, hk_.1.1.1.1.1.2, hk_.1.1.2, hk_.1.1.1.1.1.1.1.1.1, hk_.1.1.1.1.1.1.1.1.2⟩)); have _ := Q_ (Kd.R_mono (ok' := fun k_ => some k_ ≠ (.slice ac Z.length ae : Value).ownBlock ∧ some k_ ≠ (.slice ad aa.length af : Value).ownBlock ∧ some k_ ≠ (.slice I A.length G : Value).ownBlock ∧ some k_ ≠ (.slice E x.length D : Value).ownBlock ∧ some k_ ≠ (.slice ao am.length aq : Value).ownBlock ∧ tN4 ≤ k_) (Kd.R_keptB ((Kd.R_mono (ok' := fun k_ => ((((((((some k_ ≠ (.slice ao am.length aq : Value).ownBlock ∧ tN4 ≤ k_) ∧ some k_ ≠ (.slice ac Z.length ae : Value).ownBlock) ∧ some k_ ≠ (.slice ad aa.length af : Value).ownBlock) ∧ some k_ ≠ (.slice I A.length G : Value).ownBlock) ∧ some k_ ≠ (.slice ai U.length ag : Value).ownBlock) ∧ some k_ ≠ (.slice aj W.length ah : Value).ownBlock) ∧ some k_ ≠ (.slice E x.length D : Value).ownBlock)) ∧ ¬ (((((((((((((((((some k_ ≠ (.slice ai U.length ag : Value).ownBlock ∧ some k_ ≠ (.slice aj W.length ah : Value).ownBlock) ∧ tN2 ≤ k_) ∧ some k_ ≠ (.slice ac Z.length ae : Value).ownBlock) ∧ some k_ ≠ (.slice ad aa.length af : Value).ownBlock) ∧ some k_ ≠ (.slice aI aD.length aL : Value).ownBlock) ∧ some k_ ≠ (.slice I A.length G : Value).ownBlock) ∧ some k_ ≠ (.slice E x.length D : Value).ownBlock) ∧ k_ < tN3) ∧ some k_ ≠ (.slice ao am.length aq : Value).ownBlock) ∧ some k_ ≠ (.slice ap an.length ar : Value).ownBlock) ∧ some k_ ≠ (.slice aV aM.length aW : Value).ownBlock) ∧ k_ < tN4) ∧ k_ ≠ Q) ∧ k_ ≠ Y) ∧ k_ ≠ al) ∧ k_ ≠ T))) (Kd.R_tight2 rfl aS.1) (fun k_ hk => ⟨hk.2, fun e_ => (e_.1.1.1.1.1.1.2) hk.1⟩))) hkp (fun k_ hk_ hs_ => Or.elim hs_ (fun e_ => (hk_.1.1.1.2) e_) (fun e_ => Or.elim e_ (fun e_ => (hk_.1.1.2) e_) (fun e_ => (hk_.2) e_)))) (fun k_ hk_ => ⟨hk_.1.1.1.1.1.1.1.2, hk_.1.1.1.1.1.1.2, hk_.1.1.1.1.1.2, hk_.1.1.2, hk_.1.1.1.1.1.1.1.1.1, hk_.1.1.1.1.1.1.1.1.2⟩)); have _ := Q_ (Kd.S_mono (ok' := fun k_ => some k_ ≠ (.slice ac Z.length ae : Value).ownBlock ∧ some k_ ≠ (.slice ad aa.length af : Value).ownBlock ∧ some k_ ≠ (.slice aI aD.length aL : Value).ownBlock ∧ some k_ ≠ (.slice I A.length G : Value).ownBlock ∧ some k_ ≠ (.slice E x.length D : Value).ownBlock ∧ some k_ ≠ (.slice ao am.length aq : Value).ownBlock ∧ some k_ ≠ (.slice ap an.length ar : Value).ownBlock ∧ tN4 ≤ k_) (Kd.S_keptB ((Kd.S_mono (ok' := fun k_ => (((((((((((some k_ ≠ (.slice ao am.length aq : Value).ownBlock ∧ some k_ ≠ (.slice ap an.length ar : Value).ownBlock) ∧ tN4 ≤ k_) ∧ some k_ ≠ (.slice ac Z.length ae : Value).ownBlock) ∧ some k_ ≠ (.slice ad aa.length af : Value).ownBlock) ∧ some k_ ≠ (.slice aI aD.length aL : Value).ownBlock) ∧ some k_ ≠ (.slice I A.length G : Value).ownBlock) ∧ some k_ ≠ (.slice ai U.length ag : Value).ownBlock) ∧ some k_ ≠ (.slice aj W.length ah : Value).ownBlock) ∧ some k_ ≠ (.slice bb aQ.length a6 : Value).ownBlock) ∧ some k_ ≠ (.slice E x.length D : Value).ownBlock)) ∧ ¬ (((((((((((((((((some k_ ≠ (.slice ai U.length ag : Value).ownBlock ∧ some k_ ≠ (.slice aj W.length ah : Value).ownBlock) ∧ tN2 ≤ k_) ∧ some k_ ≠ (.slice ac Z.length ae : Value).ownBlock) ∧ some k_ ≠ (.slice ad aa.length af : Value).ownBlock) ∧ some k_ ≠ (.slice aI aD.length aL : Value).ownBlock) ∧ some k_ ≠ (.slice I A.length G : Value).ownBlock) ∧ some k_ ≠ (.slice E x.length D : Value).ownBlock) ∧ k_ < tN3) ∧ some k_ ≠ (.slice ao am.length aq : Value).ownBlock) ∧ some k_ ≠ (.slice ap an.length ar : Value).ownBlock) ∧ some k_ ≠ (.slice aV aM.length aW : Value).ownBlock) ∧ k_ < tN4) ∧ k_ ≠ Q) ∧ k_ ≠ Y) ∧ k_ ≠ al) ∧ k_ ≠ T))) aT.1 (fun k_ hk => ⟨hk, fun e_ => Nat.not_lt.2 (hk.1.1.1.1.1.1.1.1.2) (e_.1.1.1.1.2)⟩))) hkp (fun k_ hk_ hs_ => Or.elim hs_ (fun e_ => (hk_.1.1.1.1.2) e_) (fun e_ => Or.elim e_ (fun e_ => (hk_.1.1.1.2) e_) (fun e_ => (hk_.2) e_)))) (fun k_ hk_ => ⟨hk_.1.1.1.1.1.1.1.1.1.2, hk_.1.1.1.1.1.1.1.1.2, hk_.1.1.1.1.1.1.1.2, hk_.1.1.1.1.1.1.2, hk_.1.1.2, hk_.1.1.1.1.1.1.1.1.1.1.1.1, hk_.1.1.1.1.1.1.1.1.1.1.1.2, hk_.1.1.1.1.1.1.1.1.1.1.2⟩)); have _ := Q_ (hb); clear a t u F y J b l P ab j aR aS aT HB L M X; rename_i a t u F y J b l P ab j aR aS aT HB; (try clear hb hkp)))
 (try simp only [Act.put, s1_, s2_, s3_])
 go_cut [46] (fun eG wc => ∃ (kq : Nat) (bz : Bool), eG = .bool bz ∧ Aside0 (laws_FnExactHelloOf.j0 kq a1 bz au av aw az A aP x ax = some r) ∧ Aside0 (kq ≤ k) ∧ Aside0 (Kd.R (Kd.int .i64) 3 wc w.heap.size (fun k_ => some k_ ≠ ((.slice E x.length D) : Value).ownBlock ∧ k_ < tN2 ∧ k_ < tN3 ∧ k_ < tN4) (.slice I A.length G) A) ∧ Aside0 (Kd.V k44 44 wc w.heap.size (fun k_ => some k_ ≠ ((.slice I A.length G) : Value).ownBlock ∧ some k_ ≠ ((.slice E x.length D) : Value).ownBlock ∧ some k_ ≠ ((.slice aJ ax.length aH) : Value).ownBlock ∧ k_ ≠ Q ∧ k_ ≠ Y ∧ k_ ≠ T ∧ k_ < tN2 ∧ k_ < tN3 ∧ k_ < tN4) (.slice br aP.length bf) aP) ∧ Aside0 (Kd.R (Kd.int .i64) 3 wc w.heap.size (fun k_ => some k_ ≠ ((.slice I A.length G) : Value).ownBlock ∧ tN3 ≤ k_ ∧ k_ < tN4) (.slice E x.length D) x) ∧ Aside0 (Kd.S k44 44 wc w.heap.size (fun k_ => some k_ ≠ ((.slice I A.length G) : Value).ownBlock ∧ some k_ ≠ ((.slice E x.length D) : Value).ownBlock ∧ tN3 ≤ k_ ∧ k_ < tN4) (.slice aJ ax.length aH) ax) ∧ Aside0 (wc.heap[Q]? = some (.cells #[(.slice aX au.length a3), (.slice aY av.length a4), (.slice aZ aw.length a5), .int .i64 az] 25 (0, 0))) ∧ Aside0 (wc.heap[Y]? = some (.cells #[(.slice I A.length G), (.slice br aP.length bf)] 29 (0, 0))) ∧ Aside0 (wc.heap[T]? = some (.cells #[(.slice E x.length D), (.slice aJ ax.length aH)] 29 (0, 0))) ∧ Aside0 (Below w.heap.size w wc))
 case first =>
  have H := cc.1
  clear cc
  by_cases b8 : b4 < 0
  ·rw [if_pos b8] at H
   have bK := decide_eq_true b8
   clear b8
   (first | rw [bK] | (simp only [i64_w, i32_w]; rw [bK]) | skip)
   have H' := Q_ H
   clear H
   go_wp2
   go_meet
   case rel => exact ⟨_, (true), el_, H', ⟨by first | omega | exact Nat.le_refl _⟩, ⟨by (with_reducible repeat (first | apply Kd.R_alloc | apply Kd.R_drewN | apply Kd.R_drew)); exact Kd.R_mono y.1 (fun _ hk => ⟨hk.2.2.1, ⟨hk.2.2.2.2.2.1, ⟨hk.2.2.2.2.2.2.1, hk.2.2.2.2.2.2.2⟩⟩⟩)⟩, ⟨by (with_reducible repeat (first | apply Kd.V_alloc | apply Kd.V_drewN | apply Kd.V_drew)); exact Kd.V_mono J.1 (fun _ hk => ⟨hk.2.2.2.1, ⟨hk.2.2.2.2.1, ⟨hk.2.2.2.2.2.1, ⟨hk.2.2.2.2.2.2.2.2.2.1, ⟨hk.2.2.2.2.2.2.2.2.2.2.1, ⟨hk.2.2.2.2.2.2.2.2.2.2.2.2.1, ⟨hk.2.2.2.2.2.2.2.2.2.2.2.2.2.1, ⟨hk.2.2.2.2.2.2.2.2.2.2.2.2.2.2.1, hk.2.2.2.2.2.2.2.2.2.2.2.2.2.2.2⟩⟩⟩⟩⟩⟩⟩⟩)⟩, ⟨by (with_reducible repeat (first | apply Kd.R_alloc | apply Kd.R_drewN | apply Kd.R_drew)); exact Kd.R_mono P.1 (fun _ hk => ⟨hk.2.2.1, ⟨hk.2.2.2.2.2.1, hk.2.2.2.2.2.2⟩⟩)⟩, ⟨by (with_reducible repeat (first | apply Kd.S_alloc | apply Kd.S_drewN | apply Kd.S_drew)); exact Kd.S_mono ab.1 (fun _ hk => ⟨hk.2.2.1, ⟨hk.2.2.2.1, ⟨hk.2.2.2.2.2.2.1, hk.2.2.2.2.2.2.2⟩⟩⟩)⟩, ⟨pk_ a.1⟩, ⟨pk_ b.1⟩, ⟨pk_ j.1⟩, ⟨pb4_ HB.1 q.1 B.1 aA.1 O.1⟩⟩
  rw [if_neg b8] at H
  have bK := decide_eq_false b8
  clear b8
  (first | rw [bK] | (simp only [i64_w, i32_w]; rw [bK]) | skip)
  obtain ⟨b5, dt, H⟩ := bs_ H
  (try dsimp only at H)
  have H' := Q_ H
  clear H
  have d3 := aF.1
  have ev := aB.1
  have d4 := aG.1
  have ew := aC.1
  have d5 := a8.1
  have ex := a2.1
  have dH := bc2_ j.1
  have d6 := aN.1
  have ey := aE.1
  have d7 := aO.1
  have ez := a0.1
  have dI := bc2_ b.1
  go_wp2_with (first | (go_at_call 8; (with_reducible refine (laws_eqHello.calls k _ _ x _ _ ax _ _ A _ _ aP b5 _ ?side1 ?side2 ?side3 ?side4 ?side5 ?side6 ?side7 ?side8 dt.1).mono ?_); (case side1 => exact pc_ ((Kd.R_reads' P.1).2.2)); (case side2 => exact (Kd.R_reads' P.1).2.1); (case side3 => exact pc_ ((Kd.S_reads' ab.1).2.2)); (case side4 => exact (Kd.S_reads' ab.1).2.1); (case side5 => exact pc_ ((Kd.R_reads' y.1).2.2)); (case side6 => exact (Kd.R_reads' y.1).2.1); (case side7 => exact pc_ ((Kd.V_reads' J.1).2.2)); (case side8 => exact (Kd.V_reads' J.1).2.1); rintro e fr ⟨rfl, hb⟩; have _ := Q_ (Kd.R_below (pr_ t.1) hb); have _ := Q_ (Kd.R_below (pr_ u.1) hb); have _ := Q_ (Kd.S_below (ps_ F.1) hb); have _ := Q_ (Kd.R_below (pr_ y.1) hb); have _ := Q_ (Kd.V_below (by (with_reducible repeat (first | apply Kd.V_alloc | apply Kd.V_drewN | apply Kd.V_drew)); exact J.1) hb); have _ := Q_ (Kd.R_below (pr_ P.1) hb); have _ := Q_ (Kd.S_below (ps_ ab.1) hb); have _ := Q_ (Kd.R_below (pr_ aR.1) hb); have _ := Q_ (Kd.R_below (pr_ aS.1) hb); have _ := Q_ (Kd.S_below (ps_ aT.1) hb); have _ := Q_ (bb_ a.1 hb); have _ := Q_ (bb_ b.1 hb); have _ := Q_ (bb_ l.1 hb); have _ := Q_ (bb_ j.1 hb); have _ := Q_ (below_step (pb4_ HB.1 q.1 B.1 aA.1 O.1) hb); clear t u F y J P ab aR aS aT a b l j HB; rename_i t u F y J P ab aR aS aT a b l j HB; (try clear hb)))
  go_meet
  case rel => exact ⟨_, (!b5), el_, H', ⟨by first | omega | exact Nat.le_refl _⟩, ⟨by (with_reducible repeat (first | apply Kd.R_alloc | apply Kd.R_drewN | apply Kd.R_drew)); exact Kd.R_mono y.1 (fun _ hk => ⟨hk.2.2.1, ⟨hk.2.2.2.2.2.1, ⟨hk.2.2.2.2.2.2.1, hk.2.2.2.2.2.2.2⟩⟩⟩)⟩, ⟨by (with_reducible repeat (first | apply Kd.V_alloc | apply Kd.V_drewN | apply Kd.V_drew)); exact Kd.V_mono J.1 (fun _ hk => ⟨hk.2.2.2.1, ⟨hk.2.2.2.2.1, ⟨hk.2.2.2.2.2.1, ⟨hk.2.2.2.2.2.2.2.2.2.1, ⟨hk.2.2.2.2.2.2.2.2.2.2.1, ⟨hk.2.2.2.2.2.2.2.2.2.2.2.2.1, ⟨hk.2.2.2.2.2.2.2.2.2.2.2.2.2.1, ⟨hk.2.2.2.2.2.2.2.2.2.2.2.2.2.2.1, hk.2.2.2.2.2.2.2.2.2.2.2.2.2.2.2⟩⟩⟩⟩⟩⟩⟩⟩)⟩, ⟨by (with_reducible repeat (first | apply Kd.R_alloc | apply Kd.R_drewN | apply Kd.R_drew)); exact Kd.R_mono P.1 (fun _ hk => ⟨hk.2.2.1, ⟨hk.2.2.2.2.2.1, hk.2.2.2.2.2.2⟩⟩)⟩, ⟨by (with_reducible repeat (first | apply Kd.S_alloc | apply Kd.S_drewN | apply Kd.S_drew)); exact Kd.S_mono ab.1 (fun _ hk => ⟨hk.2.2.1, ⟨hk.2.2.2.1, ⟨hk.2.2.2.2.2.2.1, hk.2.2.2.2.2.2.2⟩⟩⟩)⟩, ⟨pk_ a.1⟩, ⟨pk_ b.1⟩, ⟨pk_ j.1⟩, ⟨pb4_ HB.1 q.1 B.1 aA.1 O.1⟩⟩
 clear cc
 obtain ⟨kq, bz, rfl, HA, eI, s, z, d, m, a, b, j, HB⟩ := hcut
 rcases kq with _ | kj63
 ·exact absurd HA.1 (by simp [laws_FnExactHelloOf.j0])
 have H := HA.1
 clear HA
 simp only [laws_FnExactHelloOf.j0] at H
 by_cases cp : bz = true
 ·subst cp
  rw [if_pos rfl] at H
  obtain rfl := Option.some.inj H
  go_wp2
  go_ret
  exact ⟨er_, pb3_ HB.1 q.1 B.1 O.1⟩
 replace cp := bf_ cp
 subst cp
 rw [if_neg ff_] at H
 obtain ⟨⟨bi, bt, bu⟩, du, H⟩ := bs_ H
 (try dsimp only at H)
 have HS_ := Q_ H
 clear H
 have d8 := aF.1
 have eA := aB.1
 have d9 := aG.1
 have eB := aC.1
 have dJ := bc2_ j.1
 go_upto_region 19 with (first | ((with_reducible refine gate_callee (f := 11) rfl ?_); refine gl_ (some 49) Try.func11 #[.agg #[.slice E x.length D, .slice aJ ax.length aH], .int .i64 1] ?_; (with_reducible refine (laws_markHello.calls kj63 (fun k_ => some k_ = (.slice E x.length D : Value).ownBlock) (.slice E x.length D) x (fun k_ => ((((some k_ ≠ (.slice I A.length G : Value).ownBlock ∧ (some k_ ≠ (.slice E x.length D : Value).ownBlock ∧ (tN3 ≤ k_ ∧ k_ < tN4))) ∧ k_ ≠ Q) ∧ k_ ≠ Y) ∧ k_ ≠ T)) (.slice aJ ax.length aH) ax 1 bi bt bu w _ ?side1 ?side2 ?side3 ?side4 du.1).mono ?_); (case side1 => exact qb3_ HB.1 q.1 B.1 O.1); (case side2 => exact Kd.R_tight rfl d.1); (case side3 => exact (Kd.S_types (Kd.S_types (Kd.S_types m.1 a.1 (by decide)) b.1 (by decide)) j.1 (by decide))); (case side4 => exact fun k_ e_ e2_ => (e_.1.1.1.2.1) e2_); rintro e fs ⟨rfl, hy0, hy1, hb, hkp⟩; refine ⟨_, rfl, ?_⟩; have _ := Q_ (Kd.R_mono (ok' := fun k_ => some k_ ≠ (.slice E x.length D : Value).ownBlock ∧ k_ < tN2 ∧ k_ < tN3 ∧ k_ < tN4) (Kd.R_keptB ((Kd.R_mono (ok' := fun k_ => ((some k_ ≠ (.slice E x.length D : Value).ownBlock ∧ (k_ < tN2 ∧ (k_ < tN3 ∧ k_ < tN4)))) ∧ ¬ (((((some k_ ≠ (.slice I A.length G : Value).ownBlock ∧ (some k_ ≠ (.slice E x.length D : Value).ownBlock ∧ (tN3 ≤ k_ ∧ k_ < tN4))) ∧ k_ ≠ Q) ∧ k_ ≠ Y) ∧ k_ ≠ T))) (Kd.R_tight2 rfl s.1) (fun k_ hk => ⟨hk.2, fun e_ => (e_.1.1.1.1) hk.1⟩))) hkp (fun k_ hk_ hs_ => Or.elim hs_ (fun e_ => (hk_.1.1) e_) (fun e_ => (hk_.2) e_))) (fun k_ hk_ => ⟨hk_.1.1.1, hk_.1.1.2.1, hk_.1.1.2.2.1, hk_.1.1.2.2.2⟩)); have _ := Q_ (Kd.V_mono (ok' := fun k_ => some k_ ≠ (.slice I A.length G : Value).ownBlock ∧ some k_ ≠ (.slice E x.length D : Value).ownBlock ∧ some k_ ≠ (.slice aJ ax.length aH : Value).ownBlock ∧ k_ ≠ Q ∧ k_ ≠ Y ∧ k_ ≠ T ∧ k_ < tN2 ∧ k_ < tN3 ∧ k_ < tN4) (Kd.V_keptB ((Kd.V_mono (ok' := fun k_ => ((some k_ ≠ (.slice I A.length G : Value).ownBlock ∧ (some k_ ≠ (.slice E x.length D : Value).ownBlock ∧ (some k_ ≠ (.slice aJ ax.length aH : Value).ownBlock ∧ (k_ ≠ Q ∧ (k_ ≠ Y ∧ (k_ ≠ T ∧ (k_ < tN2 ∧ (k_ < tN3 ∧ k_ < tN4))))))))) ∧ ¬ (((((some k_ ≠ (.slice I A.length G : Value).ownBlock ∧ (some k_ ≠ (.slice E x.length D : Value).ownBlock ∧ (tN3 ≤ k_ ∧ k_ < tN4))) ∧ k_ ≠ Q) ∧ k_ ≠ Y) ∧ k_ ≠ T))) z.1 (fun k_ hk => ⟨hk, fun e_ => Nat.not_lt.2 (e_.1.1.1.2.2.1) (hk.2.2.2.2.2.2.2.1)⟩))) hkp (fun k_ hk_ hs_ => Or.elim hs_ (fun e_ => (hk_.1.2.1) e_) (fun e_ => (hk_.2) e_))) (fun k_ hk_ => ⟨hk_.1.1.1, hk_.1.1.2.1, hk_.1.1.2.2.1, hk_.1.1.2.2.2.1, hk_.1.1.2.2.2.2.1, hk_.1.1.2.2.2.2.2.1, hk_.1.1.2.2.2.2.2.2.1, hk_.1.1.2.2.2.2.2.2.2.1, hk_.1.1.2.2.2.2.2.2.2.2⟩)); have _ := Q_ (Kd.R_reok rfl hy0 (fun k_ e_ => d.1.1 k_ e_)); have _ := Q_ (hy1); have _ := Q_ (blk_kept (pk_ a.1) hkp (fun hs_ => Or.elim hs_ (fun e_ => (fun e_ => (Kd.R_ne d.1 a.1 (by decide)) e_) e_) (fun e_ => (fun e_ => (e_.1.1.2) rfl) e_))); have _ := Q_ (blk_kept (pk_ b.1) hkp (fun hs_ => Or.elim hs_ (fun e_ => (fun e_ => (Kd.R_ne d.1 b.1 (by decide)) e_) e_) (fun e_ => (fun e_ => (e_.1.2) rfl) e_))); have _ := Q_ (blk_kept (pk_ j.1) hkp (fun hs_ => Or.elim hs_ (fun e_ => (fun e_ => (Kd.R_ne d.1 j.1 (by decide)) e_) e_) (fun e_ => (fun e_ => (e_.2) rfl) e_))); have _ := Q_ (hb); clear s z d m a b j HB; rename_i s z d m a b j HB; (try clear hb hkp hy0 hy1)))
 (try simp only [Act.put, s1_, s2_, s3_])
 have H := HS_.1
 clear HS_
 obtain ⟨bM, dv, H⟩ := bs_ H
 (try dsimp only at H)
 have HS_ := Q_ H
 clear H
 have ea := aF.1
 have eC := aB.1
 have eb := aG.1
 have eD := aC.1
 have dK := bc2_ j.1
 go_upto_if 54 with (first | ((with_reducible refine gate_callee (f := 12) rfl ?_); refine goesL_ (some 52) rfl rfl Try.func12 (by kernel_rfl) rfl #[.agg #[.slice E bt.length D, .slice aJ bu.length aH], .int .i64 1] rfl (by (try simp only [List.map_toArray, List.map_cons, List.map_nil]); first | done | (rw [show bt.length = x.length from (Kd.R_reads' d.1).1.symm, show bu.length = ax.length from (Kd.S_reads' m.1).1.symm] <;> rfl) | rfl | (simp only [List.length_drop, List.length_take]; rfl)) ?_; (with_reducible refine (laws_heldHello.calls kj63 _ _ bt _ _ bu 1 bM _ ?side1 ?side2 ?side3 ?side4 dv.1).mono ?_); (case side1 => exact pc_ ((Kd.R_reads' d.1).2.2)); (case side2 => rw [show bt.length = x.length from (Kd.R_reads' d.1).1.symm]; exact (Kd.R_reads' d.1).2.1); (case side3 => exact pc_ ((Kd.S_reads' m.1).2.2)); (case side4 => rw [show bu.length = ax.length from (Kd.S_reads' m.1).1.symm]; exact (Kd.S_reads' m.1).2.1); rintro e ft ⟨rfl, hb⟩; refine ⟨_, rfl, ?_⟩; have _ := Q_ (Kd.R_below (pr_ s.1) hb); have _ := Q_ (Kd.V_below (by (with_reducible repeat (first | apply Kd.V_alloc | apply Kd.V_drewN | apply Kd.V_drew)); exact z.1) hb); have _ := Q_ (Kd.R_below (pr_ d.1) hb); have _ := Q_ (Kd.S_below (ps_ m.1) hb); have _ := Q_ (bb_ a.1 hb); have _ := Q_ (bb_ b.1 hb); have _ := Q_ (bb_ j.1 hb); have _ := Q_ (below_step (pb3_ HB.1 q.1 B.1 O.1) hb); clear s z d m a b j HB; rename_i s z d m a b j HB; (try clear hb)))
 (try simp only [Act.put, s1_, s2_, s3_])
 have H := HS_.1
 clear HS_
 by_cases b9 : bM < 0
 ·rw [if_pos b9] at H
  have bL := decide_eq_true b9
  clear b9
  (first | rw [bL] | (simp only [i64_w, i32_w]; rw [bL]) | skip)
  obtain rfl := Option.some.inj H
  go_wp2
  go_ret
  exact ⟨er_, pb3_ HB.1 q.1 B.1 O.1⟩
 rw [if_neg b9] at H
 have bL := decide_eq_false b9
 clear b9
 (first | rw [bL] | (simp only [i64_w, i32_w]; rw [bL]) | skip)
 by_cases bY : bM = bi
 rotate_left
 ·rw [if_neg bY] at H
  have cz : (bM == bi) = false := beq_eq_false_iff_ne.mpr bY
  have cA : (bM != bi) = true := bne_iff_ne.mpr bY
  obtain rfl := Option.some.inj H
  go_wp2
  go_ret
  exact ⟨er_, pb3_ HB.1 q.1 B.1 O.1⟩
 rw [if_pos bY] at H
 have cz : (bM == bi) = true := beq_iff_eq.mpr bY
 have cA : (bM != bi) = false := bne_eq_false_iff_eq.mpr bY
 clear bY
 obtain ⟨⟨bV, bW, b6, ck⟩, dw, H⟩ := bs_ H
 (try dsimp only at H)
 obtain ⟨⟨bj, bx⟩, dx, H⟩ := bs_ H
 (try dsimp only at H)
 have HS_ := Q_ H
 clear H
 have ec := aE.1
 have eE := aN.1
 have ed := aB.1
 have eF := aF.1
 have dL := bc4_ a.1
 go_upto_region 25 with (first | ((with_reducible refine gate_callee (f := 6) rfl ?_); refine gl_ (some 59) Try.func6 #[.agg #[.slice aX au.length a3, .slice aY av.length a4, .slice aZ aw.length a5, .int .i64 az]] ?_; (with_reducible refine (laws_toEndpoint.calls kj63 _ _ au _ _ av _ _ aw az bV bW b6 ck _ (cb_ bE HB) bB.1 (cb_ bF HB) bC.1 (cb_ bG HB) bD.1 dw.1).mono ?_); rintro e fu ⟨eW, eX, eY, rfl, ak, ay, bg, hb⟩; refine ⟨_, rfl, ?_⟩; obtain ⟨tN5, hN5⟩ := bN_ hb; have _ := Q_ (R_toldN_ hN5 (R_toldN_ hN5 (R_oldN_ hN5 (pr_ s.1) hb) (Kd.R_base ak)) (Kd.R_base ay)); have _ := Q_ (V_toldN_ hN5 (V_toldN_ hN5 (V_toldN_ hN5 (V_oldN_ hN5 (by (with_reducible repeat (first | apply Kd.V_alloc | apply Kd.V_drewN | apply Kd.V_drew)); exact z.1) hb) (Kd.R_base ak)) (Kd.R_base ay)) (Kd.S_base bg)); have _ := Q_ (R_toldN_ hN5 (R_toldN_ hN5 (R_oldN_ hN5 (pr_ d.1) hb) (Kd.R_base ak)) (Kd.R_base ay)); have _ := Q_ (S_toldN_ hN5 (S_toldN_ hN5 (S_oldN_ hN5 (ps_ m.1) hb) (Kd.R_base ak)) (Kd.R_base ay)); have bP := Q_ (Kd.R_lower (Kd.R_new' (Kd.R_new' (R_geN_ hN5 ak) (Kd.R_lt (pr_ s.1))) (Kd.R_lt (pr_ d.1))) (below_size (pb3_ HB.1 q.1 B.1 O.1))); have bQ := Q_ (Kd.R_lower (Kd.R_new' (Kd.R_new' (R_geN_ hN5 ay) (Kd.R_lt (pr_ s.1))) (Kd.R_lt (pr_ d.1))) (below_size (pb3_ HB.1 q.1 B.1 O.1))); have bR := Q_ (Kd.S_lower (Kd.S_new' (Kd.S_new' (S_geN_ hN5 bg) (Kd.R_lt (pr_ s.1))) (Kd.R_lt (pr_ d.1))) (below_size (pb3_ HB.1 q.1 B.1 O.1))); have _ := Q_ (bb_ a.1 hb); have _ := Q_ (bb_ b.1 hb); have _ := Q_ (bb_ j.1 hb); have _ := Q_ (below_step (pb3_ HB.1 q.1 B.1 O.1) hb); clear s z d m a b j HB; rename_i s z d m a b j HB; (try clear hb ak ay bg); obtain ⟨cb, ce, cS⟩ := Kd.R_slice bP.1; subst cS; obtain ⟨bX, bZ, cB⟩ := Kd.R_slice bQ.1; subst cB; obtain ⟨ca, cd, cC⟩ := Kd.S_slice bR.1; subst cC) | ((with_reducible refine gate_callee (f := 7) rfl ?_); refine gl_ (some 61) Try.func7 #[.agg #[.slice cb bV.length ce, .slice bX bW.length bZ, .slice ca b6.length cd, .int .i64 ck], .int .i64 a1] ?_; (with_reducible refine (impl_HelloOf.calls kj63 _ _ bV _ _ bW _ _ b6 ck a1 bj bx _ ?side1 ?side2 ?side3 ?side4 ?side5 ?side6 dx.1).mono ?_); (case side1 => exact pc_ ((Kd.R_reads' bP.1).2.2)); (case side2 => exact (Kd.R_reads' bP.1).2.1); (case side3 => exact pc_ ((Kd.R_reads' bQ.1).2.2)); (case side4 => exact (Kd.R_reads' bQ.1).2.1); (case side5 => exact pc_ ((Kd.S_reads' bR.1).2.2)); (case side6 => exact (Kd.S_reads' bR.1).2.1); rintro e e1 ⟨eZ, e0, rfl, ak, ay, hb⟩; refine ⟨_, rfl, ?_⟩; obtain ⟨tN6, hN6⟩ := bN_ hb; have _ := Q_ (R_toldN_ hN6 (R_oldN_ hN6 (pr_ s.1) hb) (Kd.R_base ak)); have _ := Q_ (V_toldN_ hN6 (V_toldN_ hN6 (V_oldN_ hN6 (by (with_reducible repeat (first | apply Kd.V_alloc | apply Kd.V_drewN | apply Kd.V_drew)); exact z.1) hb) (Kd.R_base ak)) (Kd.S_base ay)); have _ := Q_ (R_toldN_ hN6 (R_oldN_ hN6 (pr_ d.1) hb) (Kd.R_base ak)); have _ := Q_ (S_toldN_ hN6 (S_toldN_ hN6 (S_oldN_ hN6 (ps_ m.1) hb) (Kd.R_base ak)) (Kd.S_base ay)); have bl := Q_ (Kd.R_lower (Kd.R_new' (Kd.R_new' (R_geN_ hN6 ak) (Kd.R_lt (pr_ s.1))) (Kd.R_lt (pr_ d.1))) (below_size (pb3_ HB.1 q.1 B.1 O.1))); have bm := Q_ (Kd.S_lower (Kd.S_new' (Kd.S_new' (Kd.S_new' (S_geN_ hN6 ay) (Kd.R_lt (pr_ s.1))) (Kd.R_lt (pr_ d.1))) (Kd.S_lt (ps_ m.1))) (below_size (pb3_ HB.1 q.1 B.1 O.1))); have _ := Q_ (bb_ a.1 hb); have _ := Q_ (bb_ b.1 hb); have _ := Q_ (bb_ j.1 hb); have _ := Q_ (below_step (pb3_ HB.1 q.1 B.1 O.1) hb); clear s z d m a b j HB bP bQ bR; rename_i s z d m a b j HB; (try clear hb ak ay)) | ((with_reducible refine gate_dst (N := 12) rfl ?_); refine bx_ 12 #[.slice none 0 0, .slice none 0 0] 29 ?_; intro ba hg e2 hbox hb; have _ := Q_ (Kd.R_below (pr_ s.1) hb); have _ := Q_ (Kd.V_below (Kd.V_elderB (by (with_reducible repeat (first | apply Kd.V_alloc | apply Kd.V_drewN | apply Kd.V_drew)); exact z.1) ba (Nat.le_of_eq hg.symm)) hb); have _ := Q_ (Kd.R_below (pr_ d.1) hb); have _ := Q_ (Kd.S_below (ps_ m.1) hb); have _ := Q_ (Kd.R_below (pr_ bl.1) hb); have _ := Q_ (Kd.S_below (ps_ bm.1) hb); have _ := Q_ (bb_ a.1 hb); have _ := Q_ (bb_ b.1 hb); have _ := Q_ (bb_ j.1 hb); have _ := Q_ (below_step (pb3_ HB.1 q.1 B.1 O.1) hb); have aK := Q_ (hbox); have cy := Q_ (gw_ (w := w) hg (pb3_ HB.1 q.1 B.1 O.1)); have bv := cy; have bn := Q_ (nb_ hg a); have bH := Q_ bn.1.symm; have bo := Q_ (nb_ hg b); have bI := Q_ bo.1.symm; have a9 := Q_ (nb_ hg j); have bq := Q_ a9.1.symm; clear s z d m bl bm a b j HB; rename_i s z d m bl bm a b j HB; clear hb hbox hg; obtain ⟨bk, be, cD⟩ := Kd.R_slice bl.1; subst cD; have cY := bH.1; have da := bn.1; have cZ := bI.1; have db := bo.1; have c0 := bq.1; have dc := a9.1; have cU := bc2_ aK.1; obtain ⟨bA, bw, cE⟩ := Kd.S_slice bm.1; subst cE))
 (try simp only [Act.put, s1_, s2_, s3_])
 have H := HS_.1
 clear HS_
 obtain ⟨ct, cG, H⟩ := bs_ H
 (try dsimp only at H)
 have HS_ := Q_ H
 clear H
 have c1 := bH.1
 have dd := bn.1
 have c2 := bI.1
 have de := bo.1
 have c3 := bq.1
 have df := a9.1
 have cV := bc2_ aK.1
 have c4 := aN.1
 have dg := aE.1
 have c5 := aC.1
 have dh := aG.1
 have cW := bc2_ b.1
 go_upto_if 65 with (first | ((with_reducible refine gate_callee (f := 8) rfl ?_); refine gl_ (some 64) Try.func8 #[.agg #[.slice bk bj.length be, .slice bA bx.length bw], .agg #[.slice I A.length G, .slice br aP.length bf]] ?_; (with_reducible refine (laws_eqHello.calls kj63 _ _ bj _ _ bx _ _ A _ _ aP ct _ ?side1 ?side2 ?side3 ?side4 ?side5 ?side6 ?side7 ?side8 cG.1).mono ?_); (case side1 => refine (Kd.R_reads' (e := 3) (base := w.heap.size) (ok := fun k_ => (((True ∧ tN6 ≤ k_) ∧ some k_ ≠ (.slice I A.length G : Value).ownBlock) ∧ some k_ ≠ (.slice E x.length D : Value).ownBlock)) (n := bj.length) (c := be) ?_).2.2; exact (pr_ (rf2_ bl.1 aK.1))); (case side2 => exact (Kd.R_reads' bl.1).2.1); (case side3 => refine (Kd.S_reads' (e := 44) (base := w.heap.size) (ok := fun k_ => ((((some k_ ≠ (.slice bk bj.length be : Value).ownBlock ∧ tN6 ≤ k_) ∧ some k_ ≠ (.slice I A.length G : Value).ownBlock) ∧ some k_ ≠ (.slice E x.length D : Value).ownBlock) ∧ some k_ ≠ (.slice aJ ax.length aH : Value).ownBlock)) (n := bx.length) (c := bw) ?_).2.2; exact (ps_ (sf2_ bm.1 aK.1))); (case side4 => exact (Kd.S_reads' bm.1).2.1); (case side5 => refine (Kd.R_reads' (e := 3) (base := w.heap.size) (ok := fun k_ => ((((((some k_ ≠ (.slice E x.length D : Value).ownBlock ∧ (k_ < tN2 ∧ (k_ < tN3 ∧ k_ < tN4))) ∧ some k_ ≠ (.slice cb bV.length ce : Value).ownBlock) ∧ some k_ ≠ (.slice bX bW.length bZ : Value).ownBlock) ∧ k_ < tN5) ∧ some k_ ≠ (.slice bk bj.length be : Value).ownBlock) ∧ k_ < tN6)) (n := A.length) (c := G) ?_).2.2; exact (pr_ (rf2_ s.1 aK.1))); (case side6 => exact (Kd.R_reads' s.1).2.1); (case side7 => refine (Kd.V_reads' (e := 44) (base := w.heap.size) (ok := fun k_ => (((((((((some k_ ≠ (.slice I A.length G : Value).ownBlock ∧ (some k_ ≠ (.slice E x.length D : Value).ownBlock ∧ (some k_ ≠ (.slice aJ ax.length aH : Value).ownBlock ∧ (k_ ≠ Q ∧ (k_ ≠ Y ∧ (k_ ≠ T ∧ (k_ < tN2 ∧ (k_ < tN3 ∧ k_ < tN4)))))))) ∧ some k_ ≠ (.slice cb bV.length ce : Value).ownBlock) ∧ some k_ ≠ (.slice bX bW.length bZ : Value).ownBlock) ∧ some k_ ≠ (.slice ca b6.length cd : Value).ownBlock) ∧ k_ < tN5) ∧ some k_ ≠ (.slice bk bj.length be : Value).ownBlock) ∧ some k_ ≠ (.slice bA bx.length bw : Value).ownBlock) ∧ k_ < tN6) ∧ k_ ≠ ba)) (n := aP.length) (c := bf) ?_).2.2; exact (by (with_reducible repeat (first | apply Kd.V_alloc | apply Kd.V_drewN | apply Kd.V_drew)); exact (Kd.V_mono (Kd.V_far (p := ⟨ba, 1, none⟩) (Kd.V_far (p := ⟨ba, 0, none⟩) (Kd.V_mono z.1 (fun k_ hk => (⟨hk, hk.2⟩ : _ ∧ k_ ≠ ba))) (fun _ hk => hk.2) (.slice bk bj.length be)) (fun _ hk => hk.2) (.slice bA bx.length bw)) (fun _ h_ => h_.1)))); (case side8 => exact (Kd.V_reads' z.1).2.1); rintro e e3 ⟨rfl, hb⟩; refine ⟨_, rfl, ?_⟩; have _ := Q_ (Kd.R_below (pr_ (rf2_ s.1 aK.1)) hb); have _ := Q_ (Kd.V_below (by (with_reducible repeat (first | apply Kd.V_alloc | apply Kd.V_drewN | apply Kd.V_drew)); exact (Kd.V_mono (Kd.V_far (p := ⟨ba, 1, none⟩) (Kd.V_far (p := ⟨ba, 0, none⟩) (Kd.V_mono z.1 (fun k_ hk => (⟨hk, hk.2⟩ : _ ∧ k_ ≠ ba))) (fun _ hk => hk.2) (.slice bk bj.length be)) (fun _ hk => hk.2) (.slice bA bx.length bw)) (fun _ h_ => h_.1))) hb); have _ := Q_ (Kd.R_below (pr_ (rf2_ d.1 aK.1)) hb); have _ := Q_ (Kd.S_below (ps_ (sf2_ m.1 aK.1)) hb); have _ := Q_ (blk_below (g := Q) (o := .cells #[.slice aX au.length a3, .slice aY av.length a4, .slice aZ aw.length a5, .int .i64 az] 25 (0, 0)) (pp_ a.1) hb); have _ := Q_ (blk_below (g := Y) (o := .cells #[.slice I A.length G, .slice br aP.length bf] 29 (0, 0)) (pp_ b.1) hb); have _ := Q_ (blk_below (g := T) (o := .cells #[.slice E x.length D, .slice aJ ax.length aH] 29 (0, 0)) (pp_ j.1) hb); have _ := Q_ (blk_below (g := ba) (o := .cells #[.slice bk bj.length be, .slice bA bx.length bw] 29 (0, 0)) (pp_ aK.1) hb); have _ := Q_ (below_step (pb4_ HB.1 q.1 B.1 O.1 bv.1) hb); clear s z d m a b j aK HB bl bm; rename_i s z d m a b j aK HB; (try clear hb)))
 (try simp only [Act.put, s1_, s2_, s3_])
 have H := HS_.1
 clear HS_
 by_cases b0 : ct = true
 rotate_left
 ·replace b0 := bf_ b0
  subst b0
  rw [if_neg ff_] at H
  obtain rfl := Option.some.inj H
  go_wp2
  go_ret
  exact ⟨er_, pb4_ HB.1 q.1 B.1 O.1 bv.1⟩
 subst b0
 rw [if_pos rfl] at H
 obtain ⟨bN, cH, H⟩ := bs_ H
 (try dsimp only at H)
 have HS_ := Q_ H
 clear H
 have c6 := aF.1
 have di := aB.1
 have c8 := aG.1
 have dj := aC.1
 have c9 := a9.1
 have dk := bq.1
 have cX := bc2_ j.1
 go_upto_if 70 with (first | ((with_reducible refine gate_callee (f := 12) rfl ?_); refine goesL_ (some 68) rfl rfl Try.func12 (by kernel_rfl) rfl #[.agg #[.slice E bt.length D, .slice aJ bu.length aH], .int .i64 1] rfl (by (try simp only [List.map_toArray, List.map_cons, List.map_nil]); first | done | (rw [show bt.length = x.length from (Kd.R_reads' d.1).1.symm, show bu.length = ax.length from (Kd.S_reads' m.1).1.symm] <;> rfl) | rfl | (simp only [List.length_drop, List.length_take]; rfl)) ?_; (with_reducible refine (laws_heldHello.calls kj63 _ _ bt _ _ bu 1 bN _ ?side1 ?side2 ?side3 ?side4 cH.1).mono ?_); (case side1 => exact pc_ ((Kd.R_reads' d.1).2.2)); (case side2 => rw [show bt.length = x.length from (Kd.R_reads' d.1).1.symm]; exact (Kd.R_reads' d.1).2.1); (case side3 => exact pc_ ((Kd.S_reads' m.1).2.2)); (case side4 => rw [show bu.length = ax.length from (Kd.S_reads' m.1).1.symm]; exact (Kd.S_reads' m.1).2.1); rintro e e4 ⟨rfl, hb⟩; refine ⟨_, rfl, ?_⟩; have _ := Q_ (Kd.R_below (pr_ s.1) hb); have _ := Q_ (Kd.V_below (by (with_reducible repeat (first | apply Kd.V_alloc | apply Kd.V_drewN | apply Kd.V_drew)); exact z.1) hb); have _ := Q_ (Kd.R_below (pr_ d.1) hb); have _ := Q_ (Kd.S_below (ps_ m.1) hb); have _ := Q_ (bb_ a.1 hb); have _ := Q_ (bb_ b.1 hb); have _ := Q_ (bb_ j.1 hb); have _ := Q_ (bb_ aK.1 hb); have _ := Q_ (below_step (pb4_ HB.1 q.1 B.1 O.1 bv.1) hb); clear s z d m a b j aK HB; rename_i s z d m a b j aK HB; (try clear hb)))
 (try simp only [Act.put, s1_, s2_, s3_])
 have H := HS_.1
 clear HS_
 by_cases bO : bN < 0
 ·rw [if_pos bO] at H
  have bs := decide_eq_true bO
  clear bO
  (first | rw [bs] | (simp only [i64_w, i32_w]; rw [bs]) | skip)
  obtain rfl := Option.some.inj H
  go_wp2
  go_ret
  exact ⟨er_, pb4_ HB.1 q.1 B.1 O.1 bv.1⟩
 rw [if_neg bO] at H
 have bs := decide_eq_false bO
 clear bO
 (first | rw [bs] | (simp only [i64_w, i32_w]; rw [bs]) | skip)
 by_cases bJ : bN = bi
 rotate_left
 ·rw [if_neg bJ] at H
  have cl : (bN == bi) = false := beq_eq_false_iff_ne.mpr bJ
  have cm : (bN != bi) = true := bne_iff_ne.mpr bJ
  obtain rfl := Option.some.inj H
  go_wp2
  go_ret
  exact ⟨er_, pb4_ HB.1 q.1 B.1 O.1 bv.1⟩
 rw [if_pos bJ] at H
 have cl : (bN == bi) = true := beq_iff_eq.mpr bJ
 have cm : (bN != bi) = false := bne_eq_false_iff_eq.mpr bJ
 clear bJ
 obtain rfl := Option.some.inj H
 go_wp2
 go_ret
 exact ⟨er_, pb4_ HB.1 q.1 B.1 O.1 bv.1⟩

/-- THE ONE PURE STATEMENT of laws_FnExactHelloOf: yours. -/
def laws_FnExactHelloOf.Pure : Prop := ∀ (a : S25) (b : Int), Q25 a → (Lit.int .i64 b).wf = true → ∃ k, laws_FnExactHelloOf.f k a.f0 a.f1 a.f2 a.f3 b = some true

end Go.Proofs.Ytibmehnippjakaa.Print
