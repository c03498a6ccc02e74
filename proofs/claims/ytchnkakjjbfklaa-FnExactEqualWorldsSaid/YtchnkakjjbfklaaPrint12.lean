-- Written by a program of this session (printx.py) out of the translation; Lean checks it.
import Derived.Test.YtchnkakjjbfklaaPrint0
import Derived.Test.YtchnkakjjbfklaaPrint9
import Derived.Test.YtchnkakjjbfklaaPrint10
import Derived.Test.YtchnkakjjbfklaaPrint11
namespace Go.Proofs.Ytchnkakjjbfklaa.Print
open Go.RowKit Go.Proofs.YtchnkakjjbfklaaW.PrintWords Go.Proofs.YtchnkakjjbfklaaW.PrintLast Go.Proofs.YtchnkakjjbfklaaW.PrintMore Go.Proofs.Ytchnkakjjbfklaa.Short
attribute [local go_sem] max2_int min2_int max_two min_two max_three min_three max_four min_four   -- for this text's walks alone
set_option linter.unusedVariables false
set_option maxHeartbeats 8000000
set_option maxRecDepth 100000
set_option linter.unusedSimpArgs false

/-! ### laws_eqWorld: function 9 -/
def laws_eqWorld.f (k : Nat) (y : List Int) (z : List Int) (m : Int) (A : List (S50)) (n : Int) (B : List Int) (o : Int) (p : Bool) (q : Int) (r : Int) (h : List (S55)) (i : List (S57)) (a : Int) (b : Int) (c : Int) (C : List Int) (D : List Int) (s : Int) (E : List (S50)) (t : Int) (F : List Int) (u : Int) (v : Bool) (w : Int) (x : Int) (j : List (S55)) (l : List (S57)) (d : Int) (e : Int) (g : Int) : Option (Bool) := (laws_eqIntS.f k y C).bind fun G => (if G = true then ((laws_eqIntS.f k z D).bind fun H => (if H = true then (if m = s then ((laws_eqEndpointS.f k A E).bind fun I => (if I = true then ((laws_eqRollout.f k n B o p t F u v).bind fun J => (if J = true then (if q = w then (if r = x then ((laws_eqDialedS.f k h j).bind fun K => (if K = true then ((laws_eqLoggedS.f k i l).bind fun L => (if L = true then (if a = d then (if b = e then (if c = g then (some true) else (some false)) else (some false)) else (some false)) else (some false))) else (some false))) else (some false)) else (some false)) else (some false))) else (some false))) else (some false)) else (some false))) else (some false))
theorem laws_eqWorld.mono : ∀ w x y z A B C D E F a b c d e g h i j l m n o p q r s t u v k, LeO (laws_eqWorld.f k w x y z A B C D E F a b c d e g h i j l m n o p q r s t u v) (laws_eqWorld.f (k + 1) w x y z A B C D E F a b c d e g h i j l m n o p q r s t u v) := by
 intro w x y z A B C D E F a b c d e g h i j l m n o p q r s t u v k
 unfold laws_eqWorld.f
 exact mo5_ laws_eqDialedS.mono laws_eqEndpointS.mono laws_eqIntS.mono laws_eqLoggedS.mono laws_eqRollout.mono
theorem laws_eqWorld.calls (k : Nat) (an : Option Addr) (ax : Nat) (D : List Int) (ao : Option Addr) (ay : Nat) (E : List Int) (v : Int) (ap : Option Addr) (az : Nat) (F : List (S50)) (T : Int) (aq : Option Addr) (aA : Nat) (G : List Int) (U : Int) (V : Bool) (x : Int) (y : Int) (Z : Option Addr) (ad : Nat) (q : List (S55)) (aa : Option Addr) (ae : Nat) (s : List (S57)) (j : Int) (l : Int) (m : Int) (ar : Option Addr) (aB : Nat) (I : List Int) (au : Option Addr) (aC : Nat) (J : List Int) (z : Int) (av : Option Addr) (aD : Nat) (K : List (S50)) (W : Int) (aw : Option Addr) (aE : Nat) (L : List Int) (X : Int) (Y : Bool) (A : Int) (B : Int) (ab : Option Addr) (af : Nat) (t : List (S55)) (ac : Option Addr) (ag : Nat) (u : List (S57)) (n : Int) (o : Int) (p : Int) (r : Bool) (w : World) (hr0_0 : Kd.C (Kd.int .i64) w an D.length D) (aP : D.length ≤ ax) (hr0_1 : Kd.C (Kd.int .i64) w ao E.length E) (aQ : E.length ≤ ay) (hr0_3 : Kd.C k50 w ap F.length F) (aR : F.length ≤ az) (hr0_5 : Kd.C (Kd.int .i64) w aq G.length G) (aS : G.length ≤ aA) (hr0_10 : Kd.C k55 w Z q.length q) (aF : q.length ≤ ad) (hr0_11 : Kd.C k57 w aa s.length s) (aG : s.length ≤ ae) (hr1_0 : Kd.C (Kd.int .i64) w ar I.length I) (aT : I.length ≤ aB) (hr1_1 : Kd.C (Kd.int .i64) w au J.length J) (aU : J.length ≤ aC) (hr1_3 : Kd.C k50 w av K.length K) (aV : K.length ≤ aD) (hr1_5 : Kd.C (Kd.int .i64) w aw L.length L) (aW : L.length ≤ aE) (hr1_10 : Kd.C k55 w ab t.length t) (aH : t.length ≤ af) (hr1_11 : Kd.C k57 w ac u.length u) (aI : u.length ≤ ag) (h : laws_eqWorld.f k D E v F T G U V x y q s j l m I J z K W L X Y A B t u n o p = some r) :
  Calls Try.prog 9 #[.agg #[.slice an D.length ax, .slice ao E.length ay, .int .i64 v, .slice ap F.length az, .int .i64 T, .slice aq G.length aA, .int .i64 U, .bool V, .int .i64 x, .int .i64 y, .slice Z q.length ad, .slice aa s.length ae, .int .i64 j, .int .i64 l, .int .i64 m], .agg #[.slice ar I.length aB, .slice au J.length aC, .int .i64 z, .slice av K.length aD, .int .i64 W, .slice aw L.length aE, .int .i64 X, .bool Y, .int .i64 A, .int .i64 B, .slice ab t.length af, .slice ac u.length ag, .int .i64 n, .int .i64 o, .int .i64 p]] w fun e w' => e = .returned (.bool r) ∧ Below w.heap.size w w' := by
 have hu37 := Try.underlying37
 have hu33 := Try.underlying33
 have bk := Q_ hr0_0
 have bc := Q_ aP
 clear hr0_0 aP
 have bl := Q_ hr0_1
 have bd := Q_ aQ
 clear hr0_1 aQ
 have bm := Q_ hr0_3
 have be := Q_ aR
 clear hr0_3 aR
 have bn := Q_ hr0_5
 have bf := Q_ aS
 clear hr0_5 aS
 have a1 := Q_ hr0_10
 have aX := Q_ aF
 clear hr0_10 aF
 have a2 := Q_ hr0_11
 have aY := Q_ aG
 clear hr0_11 aG
 have bo := Q_ hr1_0
 have bg := Q_ aT
 clear hr1_0 aT
 have bp := Q_ hr1_1
 have bh := Q_ aU
 clear hr1_1 aU
 have bq := Q_ hr1_3
 have bi := Q_ aV
 clear hr1_3 aV
 have br := Q_ hr1_5
 have bj := Q_ aW
 clear hr1_5 aW
 have a3 := Q_ hr1_10
 have aZ := Q_ aH
 clear hr1_10 aH
 have a4 := Q_ hr1_11
 have a0 := Q_ aI
 clear hr1_11 aI
 have HB := Q_ (Below.refl w.heap.size w)
 have H : ((laws_eqIntS.f k D I).bind fun aJ => (if aJ = true then ((laws_eqIntS.f k E J).bind fun aK => (if aK = true then (if v = z then ((laws_eqEndpointS.f k F K).bind fun aL => (if aL = true then ((laws_eqRollout.f k T G U V W L X Y).bind fun aM => (if aM = true then (if x = A then (if y = B then ((laws_eqDialedS.f k q t).bind fun aN => (if aN = true then ((laws_eqLoggedS.f k s u).bind fun aO => (if aO = true then (if j = n then (if l = o then (if m = p then (some true) else (some false)) else (some false)) else (some false)) else (some false))) else (some false))) else (some false)) else (some false)) else (some false))) else (some false))) else (some false)) else (some false))) else (some false))) = some r := h
 clear h
 have HS_ := Q_ H
 clear H
 go_enter Try.func9, Try.ntmps9
 go_upto_region 1 with (first | ((with_reducible refine gate_dst (N := 2) rfl ?_); refine bx_ 2 #[.slice an D.length ax, .slice ao E.length ay, .int .i64 v, .slice ap F.length az, .int .i64 T, .slice aq G.length aA, .int .i64 U, .bool V, .int .i64 x, .int .i64 y, .slice Z q.length ad, .slice aa s.length ae, .int .i64 j, .int .i64 l, .int .i64 m] 37 ?_; intro bF hg w3 hbox hb; have _ := Q_ (below_step (pb_ HB.1) hb); have a := Q_ (hbox); have ba := Q_ (gw_ (w := w) hg (pb_ HB.1)); have g := ba; clear HB; rename_i HB; clear hb hbox hg) | ((with_reducible refine gate_dst (N := 3) rfl ?_); refine bx_ 3 #[.slice ar I.length aB, .slice au J.length aC, .int .i64 z, .slice av K.length aD, .int .i64 W, .slice aw L.length aE, .int .i64 X, .bool Y, .int .i64 A, .int .i64 B, .slice ab t.length af, .slice ac u.length ag, .int .i64 n, .int .i64 o, .int .i64 p] 37 ?_; intro bG hg w4 hbox hb; have _ := Q_ (bb_ a.1 hb); have _ := Q_ (below_step (pb1_ HB.1 g.1) hb); have d := Q_ (hbox); have bb := Q_ (gw_ (w := w) hg (pb1_ HB.1 g.1)); have i := bb; have b := Q_ (nb_ hg a); have c := Q_ b.1.symm; clear a HB; rename_i a HB; clear hb hbox hg))
 (try simp only [Act.put, s1_, s2_, s3_])
 have H := HS_.1
 clear HS_
 obtain ⟨aJ, A5, H⟩ := bs_ H
 (try dsimp only at H)
 have HS_ := Q_ H
 clear H
 have cv := b.1
 have cw := c.1
 have ct := bc15_ a.1
 have cu := bc15_ d.1
 go_upto_if 10 with (first | ((with_reducible refine gate_callee (f := 34) rfl ?_); refine gl_ (some 9) Try.func34 #[.slice an D.length ax, .slice ar I.length aB] ?_; (with_reducible refine (laws_eqIntS.calls k _ _ D _ _ I aJ _ (cb_ bk HB) bc.1 (cb_ bo HB) bg.1 A5.1).mono ?_); rintro e w' ⟨rfl, ⟨nd, rfl⟩⟩; refine ⟨_, rfl, ?_⟩))
 (try simp only [Act.put, s1_, s2_, s3_])
 have H := HS_.1
 clear HS_
 by_cases c9 : aJ = true
 rotate_left
 ·replace c9 := bf_ c9
  subst c9
  rw [if_neg ff_] at H
  obtain rfl := Option.some.inj H
  go_wp2
  go_ret
  exact ⟨er_, pb2_ HB.1 g.1 i.1⟩
 subst c9
 rw [if_pos rfl] at H
 obtain ⟨aK, bA, H⟩ := bs_ H
 (try dsimp only at H)
 have HS_ := Q_ H
 clear H
 have b5 := b.1
 have ch := c.1
 have bH := bc15_ a.1
 have bI := bc15_ d.1
 go_upto_if 16 with (first | ((with_reducible refine gate_callee (f := 34) rfl ?_); refine gl_ (some 15) Try.func34 #[.slice ao E.length ay, .slice au J.length aC] ?_; (with_reducible refine (laws_eqIntS.calls k _ _ E _ _ J aK _ ?side1 bd.1 ?side3 bh.1 bA.1).mono ?_); (case side1 => exact pc_ (Kd.C_below bl.1 (pb2_ HB.1 g.1 i.1))); (case side3 => exact pc_ (Kd.C_below bp.1 (pb2_ HB.1 g.1 i.1))); rintro e w' ⟨rfl, ⟨nd, rfl⟩⟩; refine ⟨_, rfl, ?_⟩))
 (try simp only [Act.put, s1_, s2_, s3_])
 have H := HS_.1
 clear HS_
 by_cases a5 : aK = true
 rotate_left
 ·replace a5 := bf_ a5
  subst a5
  rw [if_neg ff_] at H
  obtain rfl := Option.some.inj H
  go_wp2
  go_ret
  exact ⟨er_, pb2_ HB.1 g.1 i.1⟩
 subst a5
 rw [if_pos rfl] at H
 by_cases ah : v = z
 rotate_left
 ·rw [if_neg ah] at H
  have M : (v == z) = false := beq_eq_false_iff_ne.mpr ah
  have O : (v != z) = true := bne_iff_ne.mpr ah
  (first | rw [M] | (simp only [i64_w, i32_w]; rw [M]) | rw [O] | (have c_ := O; rw [bne] at c_; rw [c_]; clear c_) | skip)
  obtain rfl := Option.some.inj H
  have b6 := b.1
  have ci := c.1
  have bJ := bc15_ a.1
  have bK := bc15_ d.1
  go_wp2
  go_ret
  exact ⟨er_, pb2_ HB.1 g.1 i.1⟩
 rw [if_pos ah] at H
 have M : (v == z) = true := beq_iff_eq.mpr ah
 have O : (v != z) = false := bne_eq_false_iff_eq.mpr ah
 clear ah
 (first | rw [M] | (simp only [i64_w, i32_w]; rw [M]) | rw [O] | (have c_ := O; rw [bne] at c_; rw [c_]; clear c_) | skip)
 obtain ⟨aL, bB, H⟩ := bs_ H
 (try dsimp only at H)
 have HS_ := Q_ H
 clear H
 have b7 := b.1
 have cj := c.1
 have bL := bc15_ a.1
 have bM := bc15_ d.1
 go_upto_if 27 with (first | ((with_reducible refine gate_callee (f := 35) rfl ?_); refine gl_ (some 26) Try.func35 #[.slice ap F.length az, .slice av K.length aD] ?_; (with_reducible refine (laws_eqEndpointS.calls k _ _ F _ _ K aL _ ?side1 be.1 ?side3 bi.1 bB.1).mono ?_); (case side1 => exact pc_ (Kd.C_below bm.1 (pb2_ HB.1 g.1 i.1))); (case side3 => exact pc_ (Kd.C_below bq.1 (pb2_ HB.1 g.1 i.1))); rintro e cy ⟨rfl, hb⟩; refine ⟨_, rfl, ?_⟩; have _ := Q_ (bb_ a.1 hb); have _ := Q_ (bb_ d.1 hb); have _ := Q_ (below_step (pb2_ HB.1 g.1 i.1) hb); clear a d HB; rename_i a d HB; (try clear hb)))
 (try simp only [Act.put, s1_, s2_, s3_])
 have H := HS_.1
 clear HS_
 by_cases a6 : aL = true
 rotate_left
 ·replace a6 := bf_ a6
  subst a6
  rw [if_neg ff_] at H
  obtain rfl := Option.some.inj H
  go_wp2
  go_ret
  exact ⟨er_, pb2_ HB.1 g.1 i.1⟩
 subst a6
 rw [if_pos rfl] at H
 obtain ⟨aM, bC, H⟩ := bs_ H
 (try dsimp only at H)
 have HS_ := Q_ H
 clear H
 have b8 := b.1
 have ck := c.1
 have bN := bc15_ a.1
 have bO := bc15_ d.1
 go_upto_if 33 with (first | ((with_reducible refine gate_callee (f := 36) rfl ?_); refine gl_ (some 32) Try.func36 #[.agg #[.int .i64 T, .slice aq G.length aA, .int .i64 U, .bool V], .agg #[.int .i64 W, .slice aw L.length aE, .int .i64 X, .bool Y]] ?_; (with_reducible refine (laws_eqRollout.calls k T _ _ G U V W _ _ L X Y aM _ (cb_ bn HB) bf.1 (cb_ br HB) bj.1 bC.1).mono ?_); rintro e cz ⟨rfl, hb⟩; refine ⟨_, rfl, ?_⟩; have _ := Q_ (bb_ a.1 hb); have _ := Q_ (bb_ d.1 hb); have _ := Q_ (below_step (pb2_ HB.1 g.1 i.1) hb); clear a d HB; rename_i a d HB; (try clear hb)))
 (try simp only [Act.put, s1_, s2_, s3_])
 have H := HS_.1
 clear HS_
 by_cases a7 : aM = true
 rotate_left
 ·replace a7 := bf_ a7
  subst a7
  rw [if_neg ff_] at H
  obtain rfl := Option.some.inj H
  go_wp2
  go_ret
  exact ⟨er_, pb2_ HB.1 g.1 i.1⟩
 subst a7
 rw [if_pos rfl] at H
 by_cases ai : x = A
 rotate_left
 ·rw [if_neg ai] at H
  have P : (x == A) = false := beq_eq_false_iff_ne.mpr ai
  have Q : (x != A) = true := bne_iff_ne.mpr ai
  (first | rw [P] | (simp only [i64_w, i32_w]; rw [P]) | rw [Q] | (have c_ := Q; rw [bne] at c_; rw [c_]; clear c_) | skip)
  obtain rfl := Option.some.inj H
  have b9 := b.1
  have cl := c.1
  have bP := bc15_ a.1
  have bQ := bc15_ d.1
  go_wp2
  go_ret
  exact ⟨er_, pb2_ HB.1 g.1 i.1⟩
 rw [if_pos ai] at H
 have P : (x == A) = true := beq_iff_eq.mpr ai
 have Q : (x != A) = false := bne_eq_false_iff_eq.mpr ai
 clear ai
 (first | rw [P] | (simp only [i64_w, i32_w]; rw [P]) | rw [Q] | (have c_ := Q; rw [bne] at c_; rw [c_]; clear c_) | skip)
 by_cases aj : y = B
 rotate_left
 ·rw [if_neg aj] at H
  have bs : (y == B) = false := beq_eq_false_iff_ne.mpr aj
  have bt : (y != B) = true := bne_iff_ne.mpr aj
  obtain rfl := Option.some.inj H
  have ca := b.1
  have cm := c.1
  have bR := bc15_ a.1
  have bS := bc15_ d.1
  go_wp2
  go_ret
  exact ⟨er_, pb2_ HB.1 g.1 i.1⟩
 rw [if_pos aj] at H
 have bs : (y == B) = true := beq_iff_eq.mpr aj
 have bt : (y != B) = false := bne_eq_false_iff_eq.mpr aj
 clear aj
 obtain ⟨aN, bD, H⟩ := bs_ H
 (try dsimp only at H)
 have HS_ := Q_ H
 clear H
 have cb := b.1
 have cn := c.1
 have bT := bc15_ a.1
 have bU := bc15_ d.1
 go_upto_if 49 with (first | ((with_reducible refine gate_callee (f := 37) rfl ?_); refine gl_ (some 48) Try.func37 #[.slice Z q.length ad, .slice ab t.length af] ?_; (with_reducible refine (laws_eqDialedS.calls k _ _ q _ _ t aN _ (cb_ a1 HB) aX.1 (cb_ a3 HB) aZ.1 bD.1).mono ?_); rintro e cA ⟨rfl, hb⟩; refine ⟨_, rfl, ?_⟩; have _ := Q_ (bb_ a.1 hb); have _ := Q_ (bb_ d.1 hb); have _ := Q_ (below_step (pb2_ HB.1 g.1 i.1) hb); clear a d HB; rename_i a d HB; (try clear hb)))
 (try simp only [Act.put, s1_, s2_, s3_])
 have H := HS_.1
 clear HS_
 by_cases a8 : aN = true
 rotate_left
 ·replace a8 := bf_ a8
  subst a8
  rw [if_neg ff_] at H
  obtain rfl := Option.some.inj H
  go_wp2
  go_ret
  exact ⟨er_, pb2_ HB.1 g.1 i.1⟩
 subst a8
 rw [if_pos rfl] at H
 obtain ⟨aO, bE, H⟩ := bs_ H
 (try dsimp only at H)
 have HS_ := Q_ H
 clear H
 have cc := b.1
 have co := c.1
 have bV := bc15_ a.1
 have bW := bc15_ d.1
 go_upto_if 55 with (first | ((with_reducible refine gate_callee (f := 38) rfl ?_); refine gl_ (some 54) Try.func38 #[.slice aa s.length ae, .slice ac u.length ag] ?_; (with_reducible refine (laws_eqLoggedS.calls k _ _ s _ _ u aO _ (cb_ a2 HB) aY.1 (cb_ a4 HB) a0.1 bE.1).mono ?_); rintro e cB ⟨rfl, hb⟩; refine ⟨_, rfl, ?_⟩; have _ := Q_ (bb_ a.1 hb); have _ := Q_ (bb_ d.1 hb); have _ := Q_ (below_step (pb2_ HB.1 g.1 i.1) hb); clear a d HB; rename_i a d HB; (try clear hb)))
 (try simp only [Act.put, s1_, s2_, s3_])
 have H := HS_.1
 clear HS_
 by_cases a9 : aO = true
 rotate_left
 ·replace a9 := bf_ a9
  subst a9
  rw [if_neg ff_] at H
  obtain rfl := Option.some.inj H
  go_wp2
  go_ret
  exact ⟨er_, pb2_ HB.1 g.1 i.1⟩
 subst a9
 rw [if_pos rfl] at H
 by_cases ak : j = n
 rotate_left
 ·rw [if_neg ak] at H
  have R : (j == n) = false := beq_eq_false_iff_ne.mpr ak
  have S : (j != n) = true := bne_iff_ne.mpr ak
  (first | rw [R] | (simp only [i64_w, i32_w]; rw [R]) | rw [S] | (have c_ := S; rw [bne] at c_; rw [c_]; clear c_) | skip)
  obtain rfl := Option.some.inj H
  have cd := b.1
  have cp := c.1
  have bX := bc15_ a.1
  have bY := bc15_ d.1
  go_wp2
  go_ret
  exact ⟨er_, pb2_ HB.1 g.1 i.1⟩
 rw [if_pos ak] at H
 have R : (j == n) = true := beq_iff_eq.mpr ak
 have S : (j != n) = false := bne_eq_false_iff_eq.mpr ak
 clear ak
 (first | rw [R] | (simp only [i64_w, i32_w]; rw [R]) | rw [S] | (have c_ := S; rw [bne] at c_; rw [c_]; clear c_) | skip)
 by_cases al : l = o
 rotate_left
 ·rw [if_neg al] at H
  have bu : (l == o) = false := beq_eq_false_iff_ne.mpr al
  have bv : (l != o) = true := bne_iff_ne.mpr al
  obtain rfl := Option.some.inj H
  have ce := b.1
  have cq := c.1
  have bZ := bc15_ a.1
  have b0 := bc15_ d.1
  go_wp2
  go_ret
  exact ⟨er_, pb2_ HB.1 g.1 i.1⟩
 rw [if_pos al] at H
 have bu : (l == o) = true := beq_iff_eq.mpr al
 have bv : (l != o) = false := bne_eq_false_iff_eq.mpr al
 clear al
 by_cases am : m = p
 rotate_left
 ·rw [if_neg am] at H
  have bw : (m == p) = false := beq_eq_false_iff_ne.mpr am
  have bx : (m != p) = true := bne_iff_ne.mpr am
  obtain rfl := Option.some.inj H
  have cf := b.1
  have cr := c.1
  have b1 := bc15_ a.1
  have b2 := bc15_ d.1
  go_wp2
  go_ret
  exact ⟨er_, pb2_ HB.1 g.1 i.1⟩
 rw [if_pos am] at H
 have bw : (m == p) = true := beq_iff_eq.mpr am
 have bx : (m != p) = false := bne_eq_false_iff_eq.mpr am
 clear am
 obtain rfl := Option.some.inj H
 have cg := b.1
 have cs := c.1
 have b3 := bc15_ a.1
 have b4 := bc15_ d.1
 go_wp2
 go_ret
 exact ⟨er_, pb2_ HB.1 g.1 i.1⟩

end Go.Proofs.Ytchnkakjjbfklaa.Print
