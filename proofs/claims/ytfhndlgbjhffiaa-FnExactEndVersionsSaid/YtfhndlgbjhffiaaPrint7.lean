-- Written by a program of this session (printx.py) out of the translation; Lean checks it.
import Derived.Test.YtfhndlgbjhffiaaPrint0
import Derived.Test.YtfhndlgbjhffiaaPrint4
import Derived.Test.YtfhndlgbjhffiaaPrint5
import Derived.Test.YtfhndlgbjhffiaaPrint6
namespace Go.Proofs.Ytfhndlgbjhffiaa.Print
open Go.RowKit Go.Proofs.YtfhndlgbjhffiaaW.PrintWords Go.Proofs.YtfhndlgbjhffiaaW.PrintLast Go.Proofs.YtfhndlgbjhffiaaW.PrintMore Go.Proofs.Ytfhndlgbjhffiaa.Short
attribute [local go_sem] max2_int min2_int max_two min_two max_three min_three max_four min_four   -- for this text's walks alone
set_option linter.unusedVariables false
set_option maxHeartbeats 8000000
set_option maxRecDepth 100000
set_option linter.unusedSimpArgs false

/-! ### laws_eqWorld: function 10 -/
def laws_eqWorld.f (k : Nat) (y : List Int) (z : List Int) (m : Int) (A : List (S56)) (n : Int) (B : List Int) (o : Int) (p : Bool) (q : Int) (r : Int) (h : List (S86)) (i : List (S89)) (a : Int) (b : Int) (c : Int) (C : List Int) (D : List Int) (s : Int) (E : List (S56)) (t : Int) (F : List Int) (u : Int) (v : Bool) (w : Int) (x : Int) (j : List (S86)) (l : List (S89)) (d : Int) (e : Int) (g : Int) : Option (Bool) := (laws_eqIntS.f k y C).bind fun G => (if G = true then ((laws_eqIntS.f k z D).bind fun H => (if H = true then (if m = s then ((laws_eqEndpointS.f k A E).bind fun I => (if I = true then ((laws_eqRollout.f k n B o p t F u v).bind fun J => (if J = true then (if q = w then (if r = x then ((laws_eqDialedS.f k h j).bind fun K => (if K = true then ((laws_eqLoggedS.f k i l).bind fun L => (if L = true then (if a = d then (if b = e then (if c = g then (some true) else (some false)) else (some false)) else (some false)) else (some false))) else (some false))) else (some false)) else (some false)) else (some false))) else (some false))) else (some false)) else (some false))) else (some false))
theorem laws_eqWorld.mono : ∀ w x y z A B C D E F a b c d e g h i j l m n o p q r s t u v k, LeO (laws_eqWorld.f k w x y z A B C D E F a b c d e g h i j l m n o p q r s t u v) (laws_eqWorld.f (k + 1) w x y z A B C D E F a b c d e g h i j l m n o p q r s t u v) := by
 intro w x y z A B C D E F a b c d e g h i j l m n o p q r s t u v k
 unfold laws_eqWorld.f
 exact mo5_ laws_eqDialedS.mono laws_eqEndpointS.mono laws_eqIntS.mono laws_eqLoggedS.mono laws_eqRollout.mono
theorem laws_eqWorld.calls (k : Nat) (an : Option Addr) (ax : Nat) (D : List Int) (ao : Option Addr) (ay : Nat) (E : List Int) (v : Int) (ap : Option Addr) (az : Nat) (F : List (S56)) (T : Int) (aq : Option Addr) (aA : Nat) (G : List Int) (U : Int) (V : Bool) (x : Int) (y : Int) (Z : Option Addr) (ad : Nat) (q : List (S86)) (aa : Option Addr) (ae : Nat) (s : List (S89)) (j : Int) (l : Int) (m : Int) (ar : Option Addr) (aB : Nat) (I : List Int) (au : Option Addr) (aC : Nat) (J : List Int) (z : Int) (av : Option Addr) (aD : Nat) (K : List (S56)) (W : Int) (aw : Option Addr) (aE : Nat) (L : List Int) (X : Int) (Y : Bool) (A : Int) (B : Int) (ab : Option Addr) (af : Nat) (t : List (S86)) (ac : Option Addr) (ag : Nat) (u : List (S89)) (n : Int) (o : Int) (p : Int) (r : Bool) (w : World) (hr0_0 : Kd.C (Kd.int .i64) w an D.length D) (aP : D.length ≤ ax) (hr0_1 : Kd.C (Kd.int .i64) w ao E.length E) (aQ : E.length ≤ ay) (hr0_3 : Kd.C k56 w ap F.length F) (aR : F.length ≤ az) (hr0_5 : Kd.C (Kd.int .i64) w aq G.length G) (aS : G.length ≤ aA) (hr0_10 : Kd.C k86 w Z q.length q) (aF : q.length ≤ ad) (hr0_11 : Kd.C k89 w aa s.length s) (aG : s.length ≤ ae) (hr1_0 : Kd.C (Kd.int .i64) w ar I.length I) (aT : I.length ≤ aB) (hr1_1 : Kd.C (Kd.int .i64) w au J.length J) (aU : J.length ≤ aC) (hr1_3 : Kd.C k56 w av K.length K) (aV : K.length ≤ aD) (hr1_5 : Kd.C (Kd.int .i64) w aw L.length L) (aW : L.length ≤ aE) (hr1_10 : Kd.C k86 w ab t.length t) (aH : t.length ≤ af) (hr1_11 : Kd.C k89 w ac u.length u) (aI : u.length ≤ ag) (h : laws_eqWorld.f k D E v F T G U V x y q s j l m I J z K W L X Y A B t u n o p = some r) :
  Calls Try.prog 10 #[.agg #[.slice an D.length ax, .slice ao E.length ay, .int .i64 v, .slice ap F.length az, .int .i64 T, .slice aq G.length aA, .int .i64 U, .bool V, .int .i64 x, .int .i64 y, .slice Z q.length ad, .slice aa s.length ae, .int .i64 j, .int .i64 l, .int .i64 m], .agg #[.slice ar I.length aB, .slice au J.length aC, .int .i64 z, .slice av K.length aD, .int .i64 W, .slice aw L.length aE, .int .i64 X, .bool Y, .int .i64 A, .int .i64 B, .slice ab t.length af, .slice ac u.length ag, .int .i64 n, .int .i64 o, .int .i64 p]] w fun e w' => e = .returned (.bool r) ∧ Below w.heap.size w w' := by
 have hu37 := Try.underlying37
 have hu33 := Try.underlying33
 have bk := Q_ hr0_0
 have bc := Q_ aP
 clear hr0_0 aP
 have bl := Q_ hr0_1
 have bd := Q_ aQ
 clear hr0_1 aQ
 have bm := Q_ hr0_3
 have be := Q_ aR
 clear hr0_3 aR
 have bn := Q_ hr0_5
 have bf := Q_ aS
 clear hr0_5 aS
 have a1 := Q_ hr0_10
 have aX := Q_ aF
 clear hr0_10 aF
 have a2 := Q_ hr0_11
 have aY := Q_ aG
 clear hr0_11 aG
 have bo := Q_ hr1_0
 have bg := Q_ aT
 clear hr1_0 aT
 have bp := Q_ hr1_1
 have bh := Q_ aU
 clear hr1_1 aU
 have bq := Q_ hr1_3
 have bi := Q_ aV
 clear hr1_3 aV
 have br := Q_ hr1_5
 have bj := Q_ aW
 clear hr1_5 aW
 have a3 := Q_ hr1_10
 have aZ := Q_ aH
 clear hr1_10 aH
 have a4 := Q_ hr1_11
 have a0 := Q_ aI
 clear hr1_11 aI
 have HB := Q_ (Below.refl w.heap.size w)
 have H : ((laws_eqIntS.f k D I).bind fun aJ => (if aJ = true then ((laws_eqIntS.f k E J).bind fun aK => (if aK = true then (if v = z then ((laws_eqEndpointS.f k F K).bind fun aL => (if aL = true then ((laws_eqRollout.f k T G U V W L X Y).bind fun aM => (if aM = true then (if x = A then (if y = B then ((laws_eqDialedS.f k q t).bind fun aN => (if aN = true then ((laws_eqLoggedS.f k s u).bind fun aO => (if aO = true then (if j = n then (if l = o then (if m = p then (some true) else (some false)) else (some false)) else (some false)) else (some false))) else (some false))) else (some false)) else (some false)) else (some false))) else (some false))) else (some false)) else (some false))) else (some false))) = some r := h
 clear h
 have HS_ := Q_ H
 clear H
 go_enter Try.func10, Try.ntmps10
 go_upto_region 1 with (first | ((with_reducible refine gate_dst (N := 2) rfl ?_); refine bx_ 2 #[.slice an D.length ax, .slice ao E.length ay, .int .i64 v, .slice ap F.length az, .int .i64 T, .slice aq G.length aA, .int .i64 U, .bool V, .int .i64 x, .int .i64 y, .slice Z q.length ad, .slice aa s.length ae, .int .i64 j, .int .i64 l, .int .i64 m] 37 ?_; intro bF hg w3 hbox hb; have _ := Q_ (below_step (pb_ HB.1) hb); have a := Q_ (hbox); have ba := Q_ (gw_ (w := w) hg (pb_ HB.1)); have g := ba; clear HB; rename_i HB; clear hb hbox hg) | ((with_reducible refine gate_dst (N := 3) rfl ?_); refine bx_ 3 #[.slice ar I.length aB, .slice au J.length aC, .int .i64 z, .slice av K.length aD, .int .i64 W, .slice aw L.length aE, .int .i64 X, .bool Y, .int .i64 A, .int .i64 B, .slice ab t.length af, .slice ac u.length ag, .int .i64 n, .int .i64 o, .int .i64 p] 37 ?_; intro bG hg w4 hbox hb; have _ := Q_ (bb_ a.1 hb); have _ := Q_ (below_step (pb1_ HB.1 g.1) hb); have d := Q_ (hbox); have bb := Q_ (gw_ (w := w) hg (pb1_ HB.1 g.1)); have i := bb; have b := Q_ (nb_ hg a); have c := Q_ b.1.symm; clear a HB; rename_i a HB; clear hb hbox hg))
 (try simp only [Act.put, s1_, s2_, s3_])
 have H := HS_.1
 clear HS_
 obtain ⟨aJ, A5, H⟩ := bs_ H
 (try dsimp only at H)
 have HS_ := Q_ H
 clear H
 have cv := b.1
 have cw := c.1
 have ct := bc15_ a.1
 have cu := bc15_ d.1
 go_upto_if 10 with (first | ((with_reducible refine gate_callee (f := 9) rfl ?_); refine gl_ (some 9) Try.func9 #[.slice an D.length ax, .slice ar I.length aB] ?_; (with_reducible refine (laws_eqIntS.calls k _ _ D _ _ I aJ _ (cb_ bk HB) bc.1 (cb_ bo HB) bg.1 A5.1).mono ?_); rintro e w' ⟨rfl, ⟨nd, rfl⟩⟩; refine ⟨_, rfl, ?_⟩))
 (try simp only [Act.put, s1_, s2_, s3_])
 have H := HS_.1
 clear HS_
 by_cases c9 : aJ = true
 rotate_left
 ·replace c9 := bf_ c9
  subst c9
  rw [if_neg ff_] at H
  obtain rfl := Option.some.inj H
  go_wp2
  go_ret
  exact ⟨er_, pb2_ HB.1 g.1 i.1⟩
 subst c9
 rw [if_pos rfl] at H
 obtain ⟨aK, bA, H⟩ := bs_ H
 (try dsimp only at H)
 have HS_ := Q_ H
 clear H
 have b5 := b.1
 have ch := c.1
 have bH := bc15_ a.1
 have bI := bc15_ d.1
 go_upto_if 16 with (first | ((with_reducible refine gate_callee (f := 9) rfl ?_); refine gl_ (some 15) Try.func9 #[.slice ao E.length ay, .slice au J.length aC] ?_; (with_reducible refine (laws_eqIntS.calls k _ _ E _ _ J aK _ ?side1 bd.1 ?side3 bh.1 bA.1).mono ?_); (case side1 => exact pc_ (Kd.C_below bl.1 (pb2_ HB.1 g.1 i.1))); (case side3 => exact pc_ (Kd.C_below bp.1 (pb2_ HB.1 g.1 i.1))); rintro e w' ⟨rfl, ⟨nd, rfl⟩⟩; refine ⟨_, rfl, ?_⟩))
 (try simp only [Act.put, s1_, s2_, s3_])
 have H := HS_.1
 clear HS_
 by_cases a5 : aK = true
 rotate_left
 ·replace a5 := bf_ a5
  subst a5
  rw [if_neg ff_] at H
  obtain rfl := Option.some.inj H
  go_wp2
  go_ret
  exact ⟨er_, pb2_ HB.1 g.1 i.1⟩
 subst a5
 rw [if_pos rfl] at H
 by_cases ah : v = z
 rotate_left
 ·rw [if_neg ah] at H
  have M : (v == z) = false := beq_eq_false_iff_ne.mpr ah
  have O : (v != z) = true := bne_iff_ne.mpr ah
  (first | rw [M] | (simp only [i64_w, i32_w]; rw [M]) | rw [O] | (have c_ := O; rw [bne] at c_; rw [c_]; clear c_) | skip)
  obtain rfl := Option.some.inj H
  have b6 := b.1
  have ci := c.1
  have bJ := bc15_ a.1
  have bK := bc15_ d.1
  go_wp2
  go_ret
  exact ⟨er_, pb2_ HB.1 g.1 i.1⟩
 rw [if_pos ah] at H
 have M : (v == z) = true := beq_iff_eq.mpr ah
 have O : (v != z) = false := bne_eq_false_iff_eq.mpr ah
 clear ah
 (first | rw [M] | (simp only [i64_w, i32_w]; rw [M]) | rw [O] | (have c_ := O; rw [bne] at c_; rw [c_]; clear c_) | skip)
 obtain ⟨aL, bB, H⟩ := bs_ H
 (try dsimp only at H)
 have HS_ := Q_ H
 clear H
 have b7 := b.1
 have cj := c.1
 have bL := bc15_ a.1
 have bM := bc15_ d.1
 go_upto_if 27 with (first | ((with_reducible refine gate_callee (f := 31) rfl ?_); refine gl_ (some 26) Try.func31 #[.slice ap F.length az, .slice av K.length aD] ?_; (with_reducible refine (laws_eqEndpointS.calls k _ _ F _ _ K aL _ ?side1 be.1 ?side3 bi.1 bB.1).mono ?_); (case side1 => exact pc_ (Kd.C_below bm.1 (pb2_ HB.1 g.1 i.1))); (case side3 => exact pc_ (Kd.C_below bq.1 (pb2_ HB.1 g.1 i.1))); rintro e cy ⟨rfl, hb⟩; refine ⟨_, rfl, ?_⟩; have _ := Q_ (bb_ a.1 hb); have _ := Q_ (bb_ d.1 hb); have _ := Q_ (below_step (pb2_ HB.1 g.1 i.1) hb); clear a d HB; rename_i a d HB; (try clear hb)))
 (try simp only [Act.put, s1_, s2_, s3_])
 have H := HS_.1
 clear HS_
 by_cases a6 : aL = true
 rotate_left
 ·replace a6 := bf_ a6
  subst a6
  rw [if_neg ff_] at H
  obtain rfl := Option.some.inj H
  go_wp2
  go_ret
  exact ⟨er_, pb2_ HB.1 g.1 i.1⟩
 subst a6
 rw [if_pos rfl] at H
 obtain ⟨aM, bC, H⟩ := bs_ H
 (try dsimp only at H)
 have HS_ := Q_ H
 clear H
 have b8 := b.1
 have ck := c.1
 have bN := bc15_ a.1
 have bO := bc15_ d.1
 go_upto_if 33 with (first | ((with_reducible refine gate_callee (f := 32) rfl ?_); refine gl_ (some 32) Try.func32 #[.agg #[.int .i64 T, .slice aq G.length aA, .int .i64 U, .bool V], .agg #[.int .i64 W, .slice aw L.length aE, .int .i64 X, .bool Y]] ?_; (with_reducible refine (laws_eqRollout.calls k T _ _ G U V W _ _ L X Y aM _ (cb_ bn HB) bf.1 (cb_ br HB) bj.1 bC.1).mono ?_); rintro e cz ⟨rfl, hb⟩; refine ⟨_, rfl, ?_⟩; have _ := Q_ (bb_ a.1 hb); have _ := Q_ (bb_ d.1 hb); have _ := Q_ (below_step (pb2_ HB.1 g.1 i.1) hb); clear a d HB; rename_i a d HB; (try clear hb)))
 (try simp only [Act.put, s1_, s2_, s3_])
 have H := HS_.1
 clear HS_
 by_cases a7 : aM = true
 rotate_left
 ·replace a7 := bf_ a7
  subst a7
  rw [if_neg ff_] at H
  obtain rfl := Option.some.inj H
  go_wp2
  go_ret
  exact ⟨er_, pb2_ HB.1 g.1 i.1⟩
 subst a7
 rw [if_pos rfl] at H
 by_cases ai : x = A
 rotate_left
 ·rw [if_neg ai] at H
  have P : (x == A) = false := beq_eq_false_iff_ne.mpr ai
  have Q : (x != A) = true := bne_iff_ne.mpr ai
  (first | rw [P] | (simp only [i64_w, i32_w]; rw [P]) | rw [Q] | (have c_ := Q; rw [bne] at c_; rw [c_]; clear c_) | skip)
  obtain rfl := Option.some.inj H
  have b9 := b.1
  have cl := c.1
  have bP := bc15_ a.1
  have bQ := bc15_ d.1
  go_wp2
  go_ret
  exact ⟨er_, pb2_ HB.1 g.1 i.1⟩
 rw [if_pos ai] at H
 have P : (x == A) = true := beq_iff_eq.mpr ai
 have Q : (x != A) = false := bne_eq_false_iff_eq.mpr ai
 clear ai
 (first | rw [P] | (simp only [i64_w, i32_w]; rw [P]) | rw [Q] | (have c_ := Q; rw [bne] at c_; rw [c_]; clear c_) | skip)
 by_cases aj : y = B
 rotate_left
 ·rw [if_neg aj] at H
  have bs : (y == B) = false := beq_eq_false_iff_ne.mpr aj
  have bt : (y != B) = true := bne_iff_ne.mpr aj
  obtain rfl := Option.some.inj H
  have ca := b.1
  have cm := c.1
  have bR := bc15_ a.1
  have bS := bc15_ d.1
  go_wp2
  go_ret
  exact ⟨er_, pb2_ HB.1 g.1 i.1⟩
 rw [if_pos aj] at H
 have bs : (y == B) = true := beq_iff_eq.mpr aj
 have bt : (y != B) = false := bne_eq_false_iff_eq.mpr aj
 clear aj
 obtain ⟨aN, bD, H⟩ := bs_ H
 (try dsimp only at H)
 have HS_ := Q_ H
 clear H
 have cb := b.1
 have cn := c.1
 have bT := bc15_ a.1
 have bU := bc15_ d.1
 go_upto_if 49 with (first | ((with_reducible refine gate_callee (f := 33) rfl ?_); refine gl_ (some 48) Try.func33 #[.slice Z q.length ad, .slice ab t.length af] ?_; (with_reducible refine (laws_eqDialedS.calls k _ _ q _ _ t aN _ (cb_ a1 HB) aX.1 (cb_ a3 HB) aZ.1 bD.1).mono ?_); rintro e cA ⟨rfl, hb⟩; refine ⟨_, rfl, ?_⟩; have _ := Q_ (bb_ a.1 hb); have _ := Q_ (bb_ d.1 hb); have _ := Q_ (below_step (pb2_ HB.1 g.1 i.1) hb); clear a d HB; rename_i a d HB; (try clear hb)))
 (try simp only [Act.put, s1_, s2_, s3_])
 have H := HS_.1
 clear HS_
 by_cases a8 : aN = true
 rotate_left
 ·replace a8 := bf_ a8
  subst a8
  rw [if_neg ff_] at H
  obtain rfl := Option.some.inj H
  go_wp2
  go_ret
  exact ⟨er_, pb2_ HB.1 g.1 i.1⟩
 subst a8
 rw [if_pos rfl] at H
 obtain ⟨aO, bE, H⟩ := bs_ H
 (try dsimp only at H)
 have HS_ := Q_ H
 clear H
 have cc := b.1
 have co := c.1
 have bV := bc15_ a.1
 have bW := bc15_ d.1
 go_upto_if 55 with (first | ((with_reducible refine gate_callee (f := 34) rfl ?_); refine gl_ (some 54) Try.func34 #[.slice aa s.length ae, .slice ac u.length ag] ?_; (with_reducible refine (laws_eqLoggedS.calls k _ _ s _ _ u aO _ (cb_ a2 HB) aY.1 (cb_ a4 HB) a0.1 bE.1).mono ?_); rintro e cB ⟨rfl, hb⟩; refine ⟨_, rfl, ?_⟩; have _ := Q_ (bb_ a.1 hb); have _ := Q_ (bb_ d.1 hb); have _ := Q_ (below_step (pb2_ HB.1 g.1 i.1) hb); clear a d HB; rename_i a d HB; (try clear hb)))
 (try simp only [Act.put, s1_, s2_, s3_])
 have H := HS_.1
 clear HS_
 by_cases a9 : aO = true
 rotate_left
 ·replace a9 := bf_ a9
  subst a9
  rw [if_neg ff_] at H
  obtain rfl := Option.some.inj H
  go_wp2
  go_ret
  exact ⟨er_, pb2_ HB.1 g.1 i.1⟩
 subst a9
 rw [if_pos rfl] at H
 by_cases ak : j = n
 rotate_left
 ·rw [if_neg ak] at H
  have R : (j == n) = false := beq_eq_false_iff_ne.mpr ak
  have S : (j != n) = true := bne_iff_ne.mpr ak
  (first | rw [R] | (simp only [i64_w, i32_w]; rw [R]) | rw [S] | (have c_ := S; rw [bne] at c_; rw [c_]; clear c_) | skip)
  obtain rfl := Option.some.inj H
  have cd := b.1
  have cp := c.1
  have bX := bc15_ a.1
  have bY := bc15_ d.1
  go_wp2
  go_ret
  exact ⟨er_, pb2_ HB.1 g.1 i.1⟩
 rw [if_pos ak] at H
 have R : (j == n) = true := beq_iff_eq.mpr ak
 have S : (j != n) = false := bne_eq_false_iff_eq.mpr ak
 clear ak
 (first | rw [R] | (simp only [i64_w, i32_w]; rw [R]) | rw [S] | (have c_ := S; rw [bne] at c_; rw [c_]; clear c_) | skip)
 by_cases al : l = o
 rotate_left
 ·rw [if_neg al] at H
  have bu : (l == o) = false := beq_eq_false_iff_ne.mpr al
  have bv : (l != o) = true := bne_iff_ne.mpr al
  obtain rfl := Option.some.inj H
  have ce := b.1
  have cq := c.1
  have bZ := bc15_ a.1
  have b0 := bc15_ d.1
  go_wp2
  go_ret
  exact ⟨er_, pb2_ HB.1 g.1 i.1⟩
 rw [if_pos al] at H
 have bu : (l == o) = true := beq_iff_eq.mpr al
 have bv : (l != o) = false := bne_eq_false_iff_eq.mpr al
 clear al
 by_cases am : m = p
 rotate_left
 ·rw [if_neg am] at H
  have bw : (m == p) = false := beq_eq_false_iff_ne.mpr am
  have bx : (m != p) = true := bne_iff_ne.mpr am
  obtain rfl := Option.some.inj H
  have cf := b.1
  have cr := c.1
  have b1 := bc15_ a.1
  have b2 := bc15_ d.1
  go_wp2
  go_ret
  exact ⟨er_, pb2_ HB.1 g.1 i.1⟩
 rw [if_pos am] at H
 have bw : (m == p) = true := beq_iff_eq.mpr am
 have bx : (m != p) = false := bne_eq_false_iff_eq.mpr am
 clear am
 obtain rfl := Option.some.inj H
 have cg := b.1
 have cs := c.1
 have b3 := bc15_ a.1
 have b4 := bc15_ d.1
 go_wp2
 go_ret
 exact ⟨er_, pb2_ HB.1 g.1 i.1⟩

/-! ### laws_markIntS: function 12 -/
def laws_markIntS.l0 : Nat → List Int → Int → Int → Option (Int × List Int)
 | 0, _, _, _ => none
 | k + 1, b, c, a => if a < (b.length : Int) then (if 0 ≤ a then (laws_markIntS.l0 k (b.set (a : Int).toNat c) (wrap64 (c + 1)) (wrap64 (a + 1))) else (none)) else (some (c, b))
def laws_markIntS.f (k : Nat) (b : List Int) (a : Int) : Option (Int × List Int) := laws_markIntS.l0 k b a 0
theorem laws_markIntS.mono_l : ∀ k, (∀ a b c, LeO (laws_markIntS.l0 k a b c) (laws_markIntS.l0 (k + 1) a b c))
 | 0 => fun _ _ _ r h => by simp [laws_markIntS.l0] at h
 | k + 1 => by
  have ih0 := laws_markIntS.mono_l k
  ·intro a b c
   unfold laws_markIntS.l0
   exact mo1_ ih0
theorem laws_markIntS.mono : ∀ a b k, LeO (laws_markIntS.f k a b) (laws_markIntS.f (k + 1) a b) := by
 intro a b k
 have ih0 := laws_markIntS.mono_l k
 unfold laws_markIntS.f
 exact mo1_ ih0
theorem laws_markIntS.calls (k : Nat) (P0_ : Nat → Prop) (u9000_ : Value) (r : List Int) (x : Int) (s : Int) (u : List Int) (w0 w : World) (hB : Below w0.heap.size w0 w) (F : Kd.R (Kd.int .i64) 3 w w0.heap.size P0_ u9000_ r) (h : laws_markIntS.f k r x = some (s, u)) :
  Calls Try.prog 12 #[u9000_, .int .i64 x] w fun e w' => e = .returned (.int .i64 s) ∧ Kd.R (Kd.int .i64) 3 w' w0.heap.size (fun k_ => (P0_ k_ ∨ w.heap.size ≤ k_)) u9000_ u ∧ Below w0.heap.size w0 w' ∧ Kept w w' (fun k_ => P0_ k_) := by
 have A := Q_ (show Kd.R (Kd.int .i64) 3 w w0.heap.size (fun k_ => (P0_ k_ ∨ w.heap.size ≤ k_)) u9000_ r from Kd.R_mono F (fun k_ hk => (.inl hk)))
 have HK := Q_ (Kept.refl w (fun k_ => P0_ k_))
 have HW0 := Q_ hB.size
 have HB := Q_ hB
 clear hB
 have H : (laws_markIntS.l0 k r x 0) = some (s, u) := h
 clear h
 have H' := Q_ H
 clear H
 go_enter Try.func12, Try.ntmps12
 go_wp2
 go_loopg [1, 5] k (fun kq U V w' => ∃ (d : List Int) (c : Int) (a : Int), U = .int .i64 c ∧ V = .int .i64 a ∧ Aside0 (laws_markIntS.l0 kq d c a = some (s, u)) ∧ Aside0 (kq ≤ k) ∧ Aside0 (Kd.R (Kd.int .i64) 3 w' w0.heap.size (fun k_ => (P0_ k_ ∨ w.heap.size ≤ k_)) u9000_ d) ∧ Aside0 (Kept w w' (fun k_ => P0_ k_)) ∧ Aside0 (Below w0.heap.size w0 w'))
 case atStart => exact ⟨(r), (x), (0), el_, el_, H', ⟨Nat.le_refl _⟩, ⟨pr_ A.1⟩, ⟨qt0_ HK.1⟩, ⟨pb_ HB.1⟩⟩
 clear H'
 obtain ⟨d, c, a, rfl, rfl, HA, m, b, HK, HB⟩ := hrel
 rcases gk with _ | k1
 ·exact absurd HA.1 (by simp [laws_markIntS.l0])
 have H := HA.1
 clear HA
 simp only [laws_markIntS.l0] at H
 by_cases l : a < (d.length : Int)
 rotate_left
 ·rw [if_neg l] at H
  have n := decide_eq_false l
  clear l
  simp only [Option.some.injEq, Prod.mk.injEq] at H
  obtain ⟨rfl, rfl⟩ := H
  obtain ⟨M, Q, C⟩ := Kd.R_slice b.1
  subst C
  go_wp2
  go_ret
  exact ⟨er_, pr_ b.1, pb_ HB.1, qt0_ HK.1⟩
 rw [if_pos l] at H
 have n := decide_eq_true l
 clear l
 by_cases y : 0 ≤ a
 rotate_left
 ·rw [if_neg y] at H
  exact nn_ H
 rw [if_pos y] at H
 have L := decide_eq_true y
 clear y
 obtain ⟨i, hy345⟩ : ∃ y_ : List Int, y_ = (d.set (a : Int).toNat c) := ⟨_, rfl⟩
 replace H : (laws_markIntS.l0 k1 i (wrap64 (c + 1)) (wrap64 (a + 1))) = some (s, u) := hb_ hy345 H
 have j := Q_ hy345
 clear hy345
 have H' := Q_ H
 clear H
 obtain ⟨N, B, D⟩ := Kd.R_slice b.1
 subst D
 have I : 0 ≤ (a : Int) := dt_
 have J : (a : Int) < ((d.length : Int) : Int) := dt_
 obtain ⟨g, T, o, q, gl6, P, HG6⟩ := Kd.R_form b.1 (by omega)
 (first | cases o | (injection o with ea_ en_ ec_; (first | subst ea_ | (injection ea_ with ea_; subst ea_)); subst ec_; clear en_))
 have z := Q_ q
 have O := Q_ HG6
 clear q gl6 HG6
 have HMgo6 := Q_ (show (P0_ g ∨ w.heap.size ≤ g) from (b.1.1 _ rfl))
 obtain ⟨G, E⟩ := Kd.R_celln 0 b.1 (a : Int) I J
 replace I := eq_true I
 replace J := eq_true J
 have HP8 := Kd.R_putg b.1 (a : Int) c
 go_wp2_with (first | ((with_reducible refine gate_store (t := 3) (p := 15) rfl ?_); refine store_event (t := 3) (p := 15) (v := ?vo_w9) (w1 := (wr.setCell ⟨g, (a : Int).toNat, none⟩ (.int .i64 c))) ?hg ?ho ?hn ?hr ?_; (case ho => rfl); (case hg => rfl); (case hn => rfl); (case hr => first | (go_simp; done) | (go_simp; rfl)); intro K hw; have hg : wr.grownBy K (some g) := (by rw [hw]; exact HP8.2); have hp_ : Kd.R (Kd.int .i64) 3 K w0.heap.size (fun k_ => (P0_ k_ ∨ w.heap.size ≤ k_)) (.slice (some ⟨g, 0, none⟩) d.length B) i := (by rw [hw, j.1]; exact HP8.1); clear HP8; have _ := Q_ (hp_); have _ := Q_ ((by rw [hw]; exact below_set (HB.1) z.1 : Below w0.heap.size w0 K)); have _ := Q_ (Kept.of_grown (S := (fun k_ => P0_ k_)) hg (qt0_ HK.1) (fun k_ e_ => (b.1.1 k_ e_))); clear b HB HK; rename_i b HB HK; clear hg hw hp_))
 go_roundg k1
 case measure => have := m.1; omega
 case rel => exact ⟨(i), (wrap64 (c + 1)), (wrap64 (a + 1)), el_, el_, H', ⟨by have := m.1; omega⟩, ⟨pr_ b.1⟩, ⟨qt0_ HK.1⟩, ⟨pb_ HB.1⟩⟩

/-! ### laws_markIntS: function 12, by shapes -/
theorem laws_markIntS.callsM (P0_ : Nat → Prop) (u9000_ : Value) (d : List Int) (k : Int) (w0 w : World) (hB : Below w0.heap.size w0 w) (o : Kd.R (Kd.int .i64) 3 w w0.heap.size P0_ u9000_ d) :
  Calls Try.prog 12 #[u9000_, .int .i64 k] w fun e w' => e = .returned (.int .i64 (cnt d.length k)) ∧ Below w0.heap.size w0 w' ∧ Kept w w' (fun k_ => P0_ k_) ∧ Marked w w' := by
 have j := Q_ o
 have HK := Q_ (Kept.refl w (fun k_ => P0_ k_))
 have HM := Q_ (Marked.refl w)
 have HB := Q_ hB
 clear hB o
 go_enter Try.func12, Try.ntmps12
 go_wp2
 go_loopg [1, 5] (d.length + 1) (fun kq G H w' => ∃ (c : List Int) (b a : Int) (i_1 : Nat), G = .int .i64 b ∧ H = .int .i64 a ∧ Aside0 (a = (i_1 : Int)) ∧ Aside0 (i_1 + kq = d.length + 1 ∧ i_1 ≤ d.length) ∧ Aside0 (c.length = d.length) ∧ Aside0 (cnt (d.length - i_1) b = cnt d.length k) ∧ Aside0 (Kd.R (Kd.int .i64) 3 w' w0.heap.size P0_ u9000_ c) ∧ Aside0 (Kept w w' (fun k_ => P0_ k_)) ∧ Aside0 (Marked w w') ∧ Aside0 (Below w0.heap.size w0 w'))
 case atStart => exact ⟨d, k, 0, 0, el_, el_, ⟨rfl⟩, ⟨by omega, by omega⟩, ⟨rfl⟩, ⟨rfl⟩, ⟨pr_ j.1⟩, ⟨qm_ HK.1⟩, ⟨qn_ HM.1⟩, ⟨pb_ HB.1⟩⟩
 clear j
 obtain ⟨c, b, a, i_1, rfl, rfl, HI, HN, HS, HV, HO, HK, HM, HB⟩ := hrel
 rcases gk with _ | k1
 ·exact absurd HN.1 (by omega)
 have HL := Q_ (show c.length = d.length from HS.1)
 have HLG := Q_ (R_long HO.1)
 by_cases q : a < (c.length : Int)
 rotate_left
 ·have l := decide_eq_false q
  have e_ : b = cnt d.length k := by
   have h_ := HV.1
   have h1_ := HI.1
   have hlen := HL.1
   rw [show i_1 = d.length by have := HN.1.2; omega] at h_
   simpa [cnt] using h_
  subst e_
  obtain ⟨C, E, y⟩ := Kd.R_slice HO.1
  subst y
  go_wp2
  go_ret
  exact ⟨el_, pb_ HB.1, qm_ HK.1, qn_ HM.1⟩
 have l := decide_eq_true q
 have r : 0 ≤ (a : Int) := by have := HI.1; omega
 have A : (a : Int) < ((c.length : Int) : Int) := q
 have B : decide (0 ≤ a) = true := decide_eq_true r
 have HII := Q_ (show i_1 < d.length from by have := HI.1; have := HL.1; omega)
 have HTI := Q_ (show a.toNat = i_1 from by have := HI.1; omega)
 have HW5 := Q_ (wi_ HI.1 HII.1 (HL.1 ▸ HLG.1))
 obtain ⟨D, x, z⟩ := Kd.R_slice HO.1
 subst z
 obtain ⟨g, F, m, n, gl6, HG6⟩ := Kd.R_form HO.1 (by omega)
 (first | cases m | (injection m with ea_ en_ ec_; (first | subst ea_ | (injection ea_ with ea_; subst ea_)); subst ec_; clear en_))
 have u := Q_ n
 have PG6 := Q_ (HO.1.1 g rfl)
 clear n gl6 HG6 q
 obtain ⟨f, h⟩ := Kd.R_celln 0 HO.1 (a : Int) r A
 replace r := eq_true r
 replace A := eq_true A
 have HP8 := (Kd.R_putg HO.1 (a : Int) b).1
 have i := Marked.set f (v := .int .i64 b) (.inr (.inl ⟨_, _, _, rfl, rfl⟩))
 go_wp2_with (first | ((with_reducible refine gate_store (t := 3) (p := 15) rfl ?_); refine store_event (t := 3) (p := 15) (v := ?vo_w9) (w1 := (wr.setCell ⟨g, (a : Int).toNat, none⟩ (.int .i64 b))) ?hg ?ho ?hn ?hr ?_; (case ho => rfl); (case hg => rfl); (case hn => rfl); (case hr => first | (go_simp; done) | (go_simp; rfl)); intro s hw; have n0_ := Q_ (show Kd.R (Kd.int .i64) 3 s w0.heap.size P0_ (.slice (some ⟨g, 0, none⟩) c.length x) (c.set (a : Int).toNat b) from by rw [hw]; exact HP8); have n1_ := Q_ (show Below w0.heap.size w0 s from by rw [hw]; exact below_set HB.1 u.1); have n2_ := Q_ (show Kept w s (fun k_ => P0_ k_) from by rw [hw]; exact Kept.setCell HK.1 (.inl PG6.1) _); have n3_ := Q_ (show Marked w s from by rw [hw]; exact HM.1.trans i); clear HO HB HK HM HP8 i f h hw; have HO := n0_; have HB := n1_; have HK := n2_; have HM := n3_; clear n0_ n1_ n2_ n3_))
 go_roundg k1
 case measure => omega
 case rel => exact ⟨_, (wrap64 (b + 1)), (wrap64 (a + 1)), i_1 + 1, el_, el_, HW5, ⟨by have := HN.1.1; omega, by have := HII.1; omega⟩, ⟨(List.length_set ..).trans HL.1⟩, ⟨by have h_ := HV.1; rw [show d.length - i_1 = (d.length - (i_1 + 1)) + 1 by have := HII.1; omega] at h_; exact h_⟩, ⟨pr_ HO.1⟩, ⟨qm_ HK.1⟩, ⟨qn_ HM.1⟩, ⟨pb_ HB.1⟩⟩


/-! ### laws_markBoxS: function 49, by shapes -/
def sh102 (x y : S102) : Prop := y.f1.length = x.f1.length ∧ y.f2.length = x.f2.length
theorem sh102_refl (x : S102) : sh102 x x := ⟨rfl, rfl⟩
theorem sh102_trans (x y z : S102) (a : sh102 x y) (b : sh102 y z) : sh102 x z := by
 obtain ⟨c, d⟩ := a
 obtain ⟨b0, b1⟩ := b
 exact ⟨b0.trans c, b1.trans d⟩
theorem sh_k102 : Sh k102 sh102 := Sh.imp (Sh.iso (Sh.pair (Sh.int .i64) (Sh.pair (Sh.slice (Sh.int .i64) 3) (Sh.pair (Sh.slice (Sh.int .i64) 3) Sh.bool))) (fun x : S102 => (x.f0, x.f1, x.f2, x.f3)) (fun p => ⟨p.1, p.2.1, p.2.2.1, p.2.2.2⟩) (fun _ => rfl)) (fun x y h => ⟨h.2.1.1, h.2.2.1.1⟩)
def markE102 (x : S102) (k : Int) : Int := (wrap64 ((cnt x.f2.length (cnt x.f1.length (wrap64 (k + 1)))) + 1))
def markC102 : List S102 → Int → Int
 | [], k => k
 | x :: l, k => markC102 l (markE102 x k)
theorem markE102_like {x y : S102} (h : sh102 x y) (k : Int) : markE102 y k = markE102 x k := by
 obtain ⟨h0, h1⟩ := h
 unfold markE102
 rw [h0, h1]
theorem markC102_like {xs ys : List S102} (h : RowsS sh102 xs ys) (k : Int) : markC102 ys k = markC102 xs k := by
 induction xs generalizing ys k with
 | nil =>
  have := h.1
  rw [List.length_eq_zero_iff.1 this]
 | cons x xs ih =>
  cases ys with
  | nil => have := h.1; simp at this
  | cons y ys =>
   obtain ⟨y', hy, hs⟩ := h.2 0 x rfl
   obtain rfl : y = y' := by simpa using hy
   have ht : RowsS sh102 xs ys := h.drop 1
   simp only [markC102]
   rw [markE102_like hs, ih ht]
theorem laws_markBoxS.callsM (P0_ : Nat → Prop) (u9000_ : Value) (g : List S102) (l : Int) (w0 w : World) (hB : Below w0.heap.size w0 w) (q : Kd.R k102 102 w w0.heap.size P0_ u9000_ g) :
  Calls Try.prog 49 #[u9000_, .int .i64 l] w fun e w' => e = .returned (.int .i64 (markC102 g l)) ∧ Below w0.heap.size w0 w' ∧ Kept w w' (fun k_ => P0_ k_) ∧ Marked w w' := by
 have hu102 := Try.underlying102
 have k := Q_ q
 have HK := Q_ (Kept.refl w (fun k_ => P0_ k_))
 have HM := Q_ (Marked.refl w)
 have HB := Q_ hB
 clear hB q
 go_enter Try.func49, Try.ntmps49
 go_wp2
 go_loopg [1, 5] (g.length + 1) (fun kq F G w' => ∃ (c : List S102) (b a : Int) (i_1 : Nat), F = .int .i64 b ∧ G = .int .i64 a ∧ Aside0 (a = (i_1 : Int)) ∧ Aside0 (i_1 + kq = g.length + 1 ∧ i_1 ≤ g.length) ∧ Aside0 (RowsS sh102 g c) ∧ Aside0 (markC102 (g.drop i_1) b = markC102 g l) ∧ Aside0 (Kd.R k102 102 w' w0.heap.size P0_ u9000_ c) ∧ Aside0 (Kept w w' (fun k_ => P0_ k_)) ∧ Aside0 (Marked w w') ∧ Aside0 (Below w0.heap.size w0 w'))
 case atStart => exact ⟨g, l, 0, 0, el_, el_, ⟨rfl⟩, ⟨by omega, by omega⟩, ⟨RowsS.refl (fun _ => sh102_refl _) g⟩, ⟨rfl⟩, ⟨pr_ k.1⟩, ⟨qm_ HK.1⟩, ⟨qn_ HM.1⟩, ⟨pb_ HB.1⟩⟩
 clear k
 obtain ⟨c, b, a, i_1, rfl, rfl, HI, HN, HS, HV, HO, HK, HM, HB⟩ := hrel
 rcases gk with _ | k1
 ·exact absurd HN.1 (by omega)
 have HL := Q_ (show c.length = g.length from HS.1.1)
 have HLG := Q_ (R_long HO.1)
 by_cases r : a < (c.length : Int)
 rotate_left
 ·have m := decide_eq_false r
  have e_ : b = markC102 g l := by
   have h_ := HV.1
   have h1_ := HI.1
   have hlen := HL.1
   rw [show i_1 = g.length by have := HN.1.2; omega] at h_
   simpa [markC102] using h_
  subst e_
  obtain ⟨A, C, u⟩ := Kd.R_slice HO.1
  subst u
  go_wp2
  go_ret
  exact ⟨el_, pb_ HB.1, qm_ HK.1, qn_ HM.1⟩
 have m := decide_eq_true r
 have s : 0 ≤ (a : Int) := by have := HI.1; omega
 have y : (a : Int) < ((c.length : Int) : Int) := r
 have z : decide (0 ≤ a) = true := decide_eq_true s
 have HII := Q_ (show i_1 < g.length from by have := HI.1; have := HL.1; omega)
 have HTI := Q_ (show a.toNat = i_1 from by have := HI.1; omega)
 have HW5 := Q_ (wi_ HI.1 HII.1 (HL.1 ▸ HLG.1))
 obtain ⟨B, E, x⟩ := Kd.R_slice HO.1
 subst x
 obtain ⟨d, D, n, o, gl6, HG6⟩ := Kd.R_form HO.1 (by omega)
 (first | cases n | (injection n with ea_ en_ ec_; (first | subst ea_ | (injection ea_ with ea_; subst ea_)); subst ec_; clear en_))
 have j := Q_ o
 have PG6 := Q_ (HO.1.1 d rfl)
 clear o gl6 HG6 r
 have HP6 := Q_ s
 have i := Q_ y
 have HE := Q_ (HS.1.at z102 HII.1)
 obtain ⟨E0, hE0⟩ : ∃ e_ : S102, e_ = g.getD i_1 z102 := ⟨_, rfl⟩
 rw [← hE0, ← HTI.1] at HE
 have h := Q_ hE0
 clear hE0
 obtain ⟨ca, hcla, hMa, hcca, hfra⟩ := Kd.R_elem HO.1 z102 a HP6.1 i.1
 obtain ⟨Ea, hEa⟩ : ∃ e_ : S102, e_ = c.getD (a : Int).toNat z102 := ⟨_, rfl⟩
 rw [← hEa] at hMa HE
 clear hEa
 obtain ⟨va_1, va_2, rfl, ga_1, ga_2⟩ := k102_openM hMa
 have hxa : wr.cell? ⟨d, (a : Int).toNat * 4, none⟩ = some (.int .i64 Ea.f0) := hcca 0 _ rfl
 have hfa : wr.frozen? ⟨d, (a : Int).toNat * 4, none⟩ = false := hfra 0
 clear hcla hcca hfra
 clear ga_1 ga_2
 try clear hMa
 replace s := eq_true s
 replace y := eq_true y
 go_wp2_with (first
  | ((with_reducible refine gate_store (t := 3) (p := 16) rfl ?_); refine store_event (t := 3) (p := 16) (v := ?vo_a) (w1 := ?w1_a) ?hg ?ho ?hn ?hr ?_; (case ho => rfl); (case hg => rfl); (case hn => rfl); (case hr => first | (go_simp; done) | (go_simp; rfl)); intro wa_ hw; have hms_ : Marked _ wa_ := (by rw [hw]; exact Marked.set hxa (.inr (.inl ⟨_, _, _, rfl, rfl⟩))); have n1_ := Q_ (show Below w0.heap.size w0 wa_ from by rw [hw]; exact below_set HB.1 j.1); have n2_ := Q_ (show Kept w wa_ (fun k_ => P0_ k_) from by rw [hw]; exact Kept.setCell HK.1 (.inl PG6.1) _); have n3_ := Q_ (HM.1.trans hms_); obtain ⟨Xa, HOa, hra⟩ := R_like sh_k102 hms_ HO.1; have HSa := Q_ (RowsS.trans sh102_trans HS.1 hra); clear HO HS hra HE; have HO := Q_ HOa; have HS := HSa; clear HOa HSa; have HE := Q_ (HS.1.at z102 HII.1); rw [← h.1, ← HTI.1] at HE; clear HB HK HM hms_ hxa hfa hw; have HB := n1_; have HK := n2_; have HM := n3_; clear n1_ n2_ n3_; obtain ⟨cb, hclb, hMb, hccb, hfrb⟩ := Kd.R_elem HO.1 z102 a HP6.1 i.1; obtain ⟨Eb, hEb⟩ : ∃ e_ : S102, e_ = Xa.getD (a : Int).toNat z102 := ⟨_, rfl⟩; rw [← hEb] at hMb HE; clear hEb; obtain ⟨vb_1, vb_2, rfl, gb_1, gb_2⟩ := k102_openM hMb; obtain ⟨Ab, bb, eb⟩ := Kd.R_slice gb_1; subst eb; have hxb : wa_.cell? ⟨d, (a : Int).toNat * 4 + 1, none⟩ = some (.slice Ab Eb.f1.length bb) := hccb 1 _ rfl; have HGb := Q_ (Kd.R_mono gb_1 (fun k_ h_ => h_.1)); clear hclb hccb hfrb; clear gb_1 gb_2; try clear hMb)
  | ((with_reducible refine gate_callee (f := 12) rfl ?_); refine goesL_ (some 25) rfl rfl Try.func12 (by kernel_rfl) rfl #[(.slice Ab Eb.f1.length bb), .int .i64 (wrap64 (b + 1))] rfl mp_ ?_; (with_reducible refine (laws_markIntS.callsM P0_ (.slice Ab Eb.f1.length bb) Eb.f1 (wrap64 (b + 1)) w0 _ ?side1 ?side2).mono ?_); (case side1 => exact pb_ HB.1); (case side2 => exact pr_ HGb.1); rintro e wb_ ⟨he_, hb, hkp, hms0_⟩; rw [HE.1.1] at he_; subst he_; refine ⟨_, rfl, ?_⟩; have hms_ := Marked.trans (qn_ (Marked.refl _)) hms0_; have n1_ := Q_ hb; have n2_ := Q_ (Kept.then_ (S := (fun k_ => P0_ k_)) (qm_ HK.1) hkp (fun k_ hs_ => .inl hs_)); have n3_ := Q_ (Marked.trans (qn_ HM.1) hms0_); obtain ⟨Xb, HOb, hrb⟩ := R_like sh_k102 hms_ HO.1; have HSb := Q_ (RowsS.trans sh102_trans HS.1 hrb); clear HO HS hrb HE; have HO := Q_ HOb; have HS := HSb; clear HOb HSb; have HE := Q_ (HS.1.at z102 HII.1); rw [← h.1, ← HTI.1] at HE; clear HB HK HM hms_ hms0_ hb hkp hxb HGb; have HB := n1_; have HK := n2_; have HM := n3_; clear n1_ n2_ n3_; obtain ⟨cc, hclc, hMc, hccc, hfrc⟩ := Kd.R_elem HO.1 z102 a HP6.1 i.1; obtain ⟨Ec, hEc⟩ : ∃ e_ : S102, e_ = Xb.getD (a : Int).toNat z102 := ⟨_, rfl⟩; rw [← hEc] at hMc HE; clear hEc; obtain ⟨vc_1, vc_2, rfl, gc_1, gc_2⟩ := k102_openM hMc; obtain ⟨Ac, bc, ec⟩ := Kd.R_slice gc_2; subst ec; have hxc : wb_.cell? ⟨d, (a : Int).toNat * 4 + 2, none⟩ = some (.slice Ac Ec.f2.length bc) := hccc 2 _ rfl; have HGc := Q_ (Kd.R_mono gc_2 (fun k_ h_ => h_.1)); clear hclc hccc hfrc; clear gc_1 gc_2; try clear hMc)
  | ((with_reducible refine gate_callee (f := 12) rfl ?_); refine goesL_ (some 32) rfl rfl Try.func12 (by kernel_rfl) rfl #[(.slice Ac Ec.f2.length bc), .int .i64 (cnt E0.f1.length (wrap64 (b + 1)))] rfl mp_ ?_; (with_reducible refine (laws_markIntS.callsM P0_ (.slice Ac Ec.f2.length bc) Ec.f2 (cnt E0.f1.length (wrap64 (b + 1))) w0 _ ?side1 ?side2).mono ?_); (case side1 => exact pb_ HB.1); (case side2 => exact pr_ HGc.1); rintro e wc_ ⟨he_, hb, hkp, hms0_⟩; rw [HE.1.2] at he_; subst he_; refine ⟨_, rfl, ?_⟩; have hms_ := Marked.trans (qn_ (Marked.refl _)) hms0_; have n1_ := Q_ hb; have n2_ := Q_ (Kept.then_ (S := (fun k_ => P0_ k_)) (qm_ HK.1) hkp (fun k_ hs_ => .inl hs_)); have n3_ := Q_ (Marked.trans (qn_ HM.1) hms0_); obtain ⟨Xc, HOc, hrc⟩ := R_like sh_k102 hms_ HO.1; have HSc := Q_ (RowsS.trans sh102_trans HS.1 hrc); clear HO HS hrc HE; have HO := Q_ HOc; have HS := HSc; clear HOc HSc; have HE := Q_ (HS.1.at z102 HII.1); rw [← h.1, ← HTI.1] at HE; clear HB HK HM hms_ hms0_ hb hkp hxc HGc; have HB := n1_; have HK := n2_; have HM := n3_; clear n1_ n2_ n3_; obtain ⟨cd, hcld, hMd, hccd, hfrd⟩ := Kd.R_elem HO.1 z102 a HP6.1 i.1; obtain ⟨Ed, hEd⟩ : ∃ e_ : S102, e_ = Xc.getD (a : Int).toNat z102 := ⟨_, rfl⟩; rw [← hEd] at hMd HE; clear hEd; obtain ⟨vd_1, vd_2, rfl, gd_1, gd_2⟩ := k102_openM hMd; have hxd : wc_.cell? ⟨d, (a : Int).toNat * 4 + 3, none⟩ = some (.bool Ed.f3) := hccd 3 _ rfl; have hfd : wc_.frozen? ⟨d, (a : Int).toNat * 4 + 3, none⟩ = false := hfrd 3; clear hcld hccd hfrd; clear gd_1 gd_2; try clear hMd)
  | ((with_reducible refine gate_store (t := 4) (p := 39) rfl ?_); refine store_event (t := 4) (p := 39) (v := ?vo_d) (w1 := ?w1_d) ?hg ?ho ?hn ?hr ?_; (case ho => rfl); (case hg => rfl); (case hn => rfl); (case hr => first | (go_simp; done) | (go_simp; rfl)); intro wd_ hw; have hms_ : Marked _ wd_ := (by rw [hw]; exact Marked.set hxd (.inr (.inr ⟨_, _, rfl, rfl⟩))); have n1_ := Q_ (show Below w0.heap.size w0 wd_ from by rw [hw]; exact below_set HB.1 j.1); have n2_ := Q_ (show Kept w wd_ (fun k_ => P0_ k_) from by rw [hw]; exact Kept.setCell HK.1 (.inl PG6.1) _); have n3_ := Q_ (HM.1.trans hms_); obtain ⟨Xd, HOd, hrd⟩ := R_like sh_k102 hms_ HO.1; have HSd := Q_ (RowsS.trans sh102_trans HS.1 hrd); clear HO HS hrd HE; have HO := Q_ HOd; have HS := HSd; clear HOd HSd; have HE := Q_ (HS.1.at z102 HII.1); rw [← h.1, ← HTI.1] at HE; clear HB HK HM hms_ hxd hfd hw; have HB := n1_; have HK := n2_; have HM := n3_; clear n1_ n2_ n3_))
 go_roundg k1
 case measure => omega
 case rel => exact ⟨_, (wrap64 ((cnt E0.f2.length (cnt E0.f1.length (wrap64 (b + 1)))) + 1)), (wrap64 (a + 1)), i_1 + 1, el_, el_, HW5, ⟨by have := HN.1.1; omega, by have := HII.1; omega⟩, HS, ⟨by have h_ := HV.1; rw [getD_cons_drop z102 HII.1, ← h.1] at h_; exact h_⟩, ⟨pr_ HO.1⟩, ⟨qm_ HK.1⟩, ⟨qn_ HM.1⟩, ⟨pb_ HB.1⟩⟩


/-! ### laws_markEndpointS: function 35, by shapes -/
def sh56 (x y : S56) : Prop := y.f0.length = x.f0.length ∧ y.f1.length = x.f1.length ∧ RowsS sh102 x.f2 y.f2
theorem sh56_refl (x : S56) : sh56 x x := ⟨rfl, rfl, RowsS.refl (fun _ => sh102_refl _) _⟩
theorem sh56_trans (x y z : S56) (a : sh56 x y) (b : sh56 y z) : sh56 x z := by
 obtain ⟨c, d, e⟩ := a
 obtain ⟨b0, b1, b2⟩ := b
 exact ⟨b0.trans c, b1.trans d, RowsS.trans sh102_trans e b2⟩
theorem sh_k56 : Sh k56 sh56 := Sh.imp (Sh.iso (Sh.pair (Sh.slice (Sh.int .i64) 3) (Sh.pair (Sh.slice (Sh.int .i64) 3) (Sh.pair (Sh.slice sh_k102 102) (Sh.int .i64)))) (fun x : S56 => (x.f0, x.f1, x.f2, x.f3)) (fun p => ⟨p.1, p.2.1, p.2.2.1, p.2.2.2⟩) (fun _ => rfl)) (fun x y h => ⟨h.1.1, h.2.1.1, h.2.2.1⟩)
def markE56 (x : S56) (k : Int) : Int := (wrap64 ((markC102 x.f2 (cnt x.f1.length (cnt x.f0.length k))) + 1))
def markC56 : List S56 → Int → Int
 | [], k => k
 | x :: l, k => markC56 l (markE56 x k)
theorem markE56_like {x y : S56} (h : sh56 x y) (k : Int) : markE56 y k = markE56 x k := by
 obtain ⟨h0, h1, h2⟩ := h
 unfold markE56
 rw [h0, h1, markC102_like h2]
theorem markC56_like {xs ys : List S56} (h : RowsS sh56 xs ys) (k : Int) : markC56 ys k = markC56 xs k := by
 induction xs generalizing ys k with
 | nil =>
  have := h.1
  rw [List.length_eq_zero_iff.1 this]
 | cons x xs ih =>
  cases ys with
  | nil => have := h.1; simp at this
  | cons y ys =>
   obtain ⟨y', hy, hs⟩ := h.2 0 x rfl
   obtain rfl : y = y' := by simpa using hy
   have ht : RowsS sh56 xs ys := h.drop 1
   simp only [markC56]
   rw [markE56_like hs, ih ht]
theorem laws_markEndpointS.callsM (P0_ : Nat → Prop) (u9000_ : Value) (d : List S56) (k : Int) (w0 w : World) (hB : Below w0.heap.size w0 w) (o : Kd.R k56 56 w w0.heap.size P0_ u9000_ d) :
  Calls Try.prog 35 #[u9000_, .int .i64 k] w fun e w' => e = .returned (.int .i64 (markC56 d k)) ∧ Below w0.heap.size w0 w' ∧ Kept w w' (fun k_ => P0_ k_) ∧ Marked w w' := by
 have hu56 := Try.underlying56
 have j := Q_ o
 have HK := Q_ (Kept.refl w (fun k_ => P0_ k_))
 have HM := Q_ (Marked.refl w)
 have HB := Q_ hB
 clear hB o
 go_enter Try.func35, Try.ntmps35
 go_wp2
 go_loopg [1, 5] (d.length + 1) (fun kq F G w' => ∃ (c : List S56) (b a : Int) (i_1 : Nat), F = .int .i64 b ∧ G = .int .i64 a ∧ Aside0 (a = (i_1 : Int)) ∧ Aside0 (i_1 + kq = d.length + 1 ∧ i_1 ≤ d.length) ∧ Aside0 (RowsS sh56 d c) ∧ Aside0 (markC56 (d.drop i_1) b = markC56 d k) ∧ Aside0 (Kd.R k56 56 w' w0.heap.size P0_ u9000_ c) ∧ Aside0 (Kept w w' (fun k_ => P0_ k_)) ∧ Aside0 (Marked w w') ∧ Aside0 (Below w0.heap.size w0 w'))
 case atStart => exact ⟨d, k, 0, 0, el_, el_, ⟨rfl⟩, ⟨by omega, by omega⟩, ⟨RowsS.refl (fun _ => sh56_refl _) d⟩, ⟨rfl⟩, ⟨pr_ j.1⟩, ⟨qm_ HK.1⟩, ⟨qn_ HM.1⟩, ⟨pb_ HB.1⟩⟩
 clear j
 obtain ⟨c, b, a, i_1, rfl, rfl, HI, HN, HS, HV, HO, HK, HM, HB⟩ := hrel
 rcases gk with _ | k1
 ·exact absurd HN.1 (by omega)
 have HL := Q_ (show c.length = d.length from HS.1.1)
 have HLG := Q_ (R_long HO.1)
 by_cases q : a < (c.length : Int)
 rotate_left
 ·have l := decide_eq_false q
  have e_ : b = markC56 d k := by
   have h_ := HV.1
   have h1_ := HI.1
   have hlen := HL.1
   rw [show i_1 = d.length by have := HN.1.2; omega] at h_
   simpa [markC56] using h_
  subst e_
  obtain ⟨A, C, u⟩ := Kd.R_slice HO.1
  subst u
  go_wp2
  go_ret
  exact ⟨el_, pb_ HB.1, qm_ HK.1, qn_ HM.1⟩
 have l := decide_eq_true q
 have r : 0 ≤ (a : Int) := by have := HI.1; omega
 have y : (a : Int) < ((c.length : Int) : Int) := q
 have z : decide (0 ≤ a) = true := decide_eq_true r
 have HII := Q_ (show i_1 < d.length from by have := HI.1; have := HL.1; omega)
 have HTI := Q_ (show a.toNat = i_1 from by have := HI.1; omega)
 have HW5 := Q_ (wi_ HI.1 HII.1 (HL.1 ▸ HLG.1))
 obtain ⟨B, E, x⟩ := Kd.R_slice HO.1
 subst x
 obtain ⟨g, D, m, n, gl6, HG6⟩ := Kd.R_form HO.1 (by omega)
 (first | cases m | (injection m with ea_ en_ ec_; (first | subst ea_ | (injection ea_ with ea_; subst ea_)); subst ec_; clear en_))
 have s := Q_ n
 have PG6 := Q_ (HO.1.1 g rfl)
 clear n gl6 HG6 q
 have HP6 := Q_ r
 have i := Q_ y
 have HE := Q_ (HS.1.at z56 HII.1)
 obtain ⟨E0, hE0⟩ : ∃ e_ : S56, e_ = d.getD i_1 z56 := ⟨_, rfl⟩
 rw [← hE0, ← HTI.1] at HE
 have h := Q_ hE0
 clear hE0
 obtain ⟨ca, hcla, hMa, hcca, hfra⟩ := Kd.R_elem HO.1 z56 a HP6.1 i.1
 obtain ⟨Ea, hEa⟩ : ∃ e_ : S56, e_ = c.getD (a : Int).toNat z56 := ⟨_, rfl⟩
 rw [← hEa] at hMa HE
 clear hEa
 obtain ⟨va_0, va_1, va_2, rfl, ga_0, ga_1, ga_2⟩ := k56_openM hMa
 obtain ⟨Aa, ba, ea⟩ := Kd.R_slice ga_0
 subst ea
 have hxa : wr.cell? ⟨g, (a : Int).toNat * 4, none⟩ = some (.slice Aa Ea.f0.length ba) := hcca 0 _ rfl
 have HGa := Q_ (Kd.R_mono ga_0 (fun k_ h_ => h_.1))
 clear hcla hcca hfra
 clear ga_0 ga_1 ga_2
 try clear hMa
 replace r := eq_true r
 replace y := eq_true y
 go_wp2_with (first
  | ((with_reducible refine gate_callee (f := 12) rfl ?_); refine goesL_ (some 18) rfl rfl Try.func12 (by kernel_rfl) rfl #[(.slice Aa Ea.f0.length ba), .int .i64 b] rfl mp_ ?_; (with_reducible refine (laws_markIntS.callsM P0_ (.slice Aa Ea.f0.length ba) Ea.f0 b w0 _ ?side1 ?side2).mono ?_); (case side1 => exact pb_ HB.1); (case side2 => exact pr_ HGa.1); rintro e wa_ ⟨he_, hb, hkp, hms0_⟩; rw [HE.1.1] at he_; subst he_; refine ⟨_, rfl, ?_⟩; have hms_ := Marked.trans (qn_ (Marked.refl _)) hms0_; have n1_ := Q_ hb; have n2_ := Q_ (Kept.then_ (S := (fun k_ => P0_ k_)) (qm_ HK.1) hkp (fun k_ hs_ => .inl hs_)); have n3_ := Q_ (Marked.trans (qn_ HM.1) hms0_); obtain ⟨Xa, HOa, hra⟩ := R_like sh_k56 hms_ HO.1; have HSa := Q_ (RowsS.trans sh56_trans HS.1 hra); clear HO HS hra HE; have HO := Q_ HOa; have HS := HSa; clear HOa HSa; have HE := Q_ (HS.1.at z56 HII.1); rw [← h.1, ← HTI.1] at HE; clear HB HK HM hms_ hms0_ hb hkp hxa HGa; have HB := n1_; have HK := n2_; have HM := n3_; clear n1_ n2_ n3_; obtain ⟨cb, hclb, hMb, hccb, hfrb⟩ := Kd.R_elem HO.1 z56 a HP6.1 i.1; obtain ⟨Eb, hEb⟩ : ∃ e_ : S56, e_ = Xa.getD (a : Int).toNat z56 := ⟨_, rfl⟩; rw [← hEb] at hMb HE; clear hEb; obtain ⟨vb_0, vb_1, vb_2, rfl, gb_0, gb_1, gb_2⟩ := k56_openM hMb; obtain ⟨Ab, bb, eb⟩ := Kd.R_slice gb_1; subst eb; have hxb : wa_.cell? ⟨g, (a : Int).toNat * 4 + 1, none⟩ = some (.slice Ab Eb.f1.length bb) := hccb 1 _ rfl; have HGb := Q_ (Kd.R_mono gb_1 (fun k_ h_ => h_.1)); clear hclb hccb hfrb; clear gb_0 gb_1 gb_2; try clear hMb)
  | ((with_reducible refine gate_callee (f := 12) rfl ?_); refine goesL_ (some 25) rfl rfl Try.func12 (by kernel_rfl) rfl #[(.slice Ab Eb.f1.length bb), .int .i64 (cnt E0.f0.length b)] rfl mp_ ?_; (with_reducible refine (laws_markIntS.callsM P0_ (.slice Ab Eb.f1.length bb) Eb.f1 (cnt E0.f0.length b) w0 _ ?side1 ?side2).mono ?_); (case side1 => exact pb_ HB.1); (case side2 => exact pr_ HGb.1); rintro e wb_ ⟨he_, hb, hkp, hms0_⟩; rw [HE.1.2.1] at he_; subst he_; refine ⟨_, rfl, ?_⟩; have hms_ := Marked.trans (qn_ (Marked.refl _)) hms0_; have n1_ := Q_ hb; have n2_ := Q_ (Kept.then_ (S := (fun k_ => P0_ k_)) (qm_ HK.1) hkp (fun k_ hs_ => .inl hs_)); have n3_ := Q_ (Marked.trans (qn_ HM.1) hms0_); obtain ⟨Xb, HOb, hrb⟩ := R_like sh_k56 hms_ HO.1; have HSb := Q_ (RowsS.trans sh56_trans HS.1 hrb); clear HO HS hrb HE; have HO := Q_ HOb; have HS := HSb; clear HOb HSb; have HE := Q_ (HS.1.at z56 HII.1); rw [← h.1, ← HTI.1] at HE; clear HB HK HM hms_ hms0_ hb hkp hxb HGb; have HB := n1_; have HK := n2_; have HM := n3_; clear n1_ n2_ n3_; obtain ⟨cc, hclc, hMc, hccc, hfrc⟩ := Kd.R_elem HO.1 z56 a HP6.1 i.1; obtain ⟨Ec, hEc⟩ : ∃ e_ : S56, e_ = Xb.getD (a : Int).toNat z56 := ⟨_, rfl⟩; rw [← hEc] at hMc HE; clear hEc; obtain ⟨vc_0, vc_1, vc_2, rfl, gc_0, gc_1, gc_2⟩ := k56_openM hMc; obtain ⟨Ac, bc, ec⟩ := Kd.R_slice gc_2; subst ec; have hxc : wb_.cell? ⟨g, (a : Int).toNat * 4 + 2, none⟩ = some (.slice Ac Ec.f2.length bc) := hccc 2 _ rfl; have HGc := Q_ (Kd.R_mono gc_2 (fun k_ h_ => h_.1)); clear hclc hccc hfrc; clear gc_0 gc_1 gc_2; try clear hMc)
  | ((with_reducible refine gate_callee (f := 49) rfl ?_); refine goesL_ (some 32) rfl rfl Try.func49 (by kernel_rfl) rfl #[(.slice Ac Ec.f2.length bc), .int .i64 (cnt E0.f1.length (cnt E0.f0.length b))] rfl mp_ ?_; (with_reducible refine (laws_markBoxS.callsM P0_ (.slice Ac Ec.f2.length bc) Ec.f2 (cnt E0.f1.length (cnt E0.f0.length b)) w0 _ ?side1 ?side2).mono ?_); (case side1 => exact pb_ HB.1); (case side2 => exact pr_ HGc.1); rintro e wc_ ⟨he_, hb, hkp, hms0_⟩; rw [markC102_like HE.1.2.2] at he_; subst he_; refine ⟨_, rfl, ?_⟩; have hms_ := Marked.trans (qn_ (Marked.refl _)) hms0_; have n1_ := Q_ hb; have n2_ := Q_ (Kept.then_ (S := (fun k_ => P0_ k_)) (qm_ HK.1) hkp (fun k_ hs_ => .inl hs_)); have n3_ := Q_ (Marked.trans (qn_ HM.1) hms0_); obtain ⟨Xc, HOc, hrc⟩ := R_like sh_k56 hms_ HO.1; have HSc := Q_ (RowsS.trans sh56_trans HS.1 hrc); clear HO HS hrc HE; have HO := Q_ HOc; have HS := HSc; clear HOc HSc; have HE := Q_ (HS.1.at z56 HII.1); rw [← h.1, ← HTI.1] at HE; clear HB HK HM hms_ hms0_ hb hkp hxc HGc; have HB := n1_; have HK := n2_; have HM := n3_; clear n1_ n2_ n3_; obtain ⟨cd, hcld, hMd, hccd, hfrd⟩ := Kd.R_elem HO.1 z56 a HP6.1 i.1; obtain ⟨Ed, hEd⟩ : ∃ e_ : S56, e_ = Xc.getD (a : Int).toNat z56 := ⟨_, rfl⟩; rw [← hEd] at hMd HE; clear hEd; obtain ⟨vd_0, vd_1, vd_2, rfl, gd_0, gd_1, gd_2⟩ := k56_openM hMd; have hxd : wc_.cell? ⟨g, (a : Int).toNat * 4 + 3, none⟩ = some (.int .i64 Ed.f3) := hccd 3 _ rfl; have hfd : wc_.frozen? ⟨g, (a : Int).toNat * 4 + 3, none⟩ = false := hfrd 3; clear hcld hccd hfrd; clear gd_0 gd_1 gd_2; try clear hMd)
  | ((with_reducible refine gate_store (t := 3) (p := 37) rfl ?_); refine store_event (t := 3) (p := 37) (v := ?vo_d) (w1 := ?w1_d) ?hg ?ho ?hn ?hr ?_; (case ho => rfl); (case hg => rfl); (case hn => rfl); (case hr => first | (go_simp; done) | (go_simp; rfl)); intro wd_ hw; have hms_ : Marked _ wd_ := (by rw [hw]; exact Marked.set hxd (.inr (.inl ⟨_, _, _, rfl, rfl⟩))); have n1_ := Q_ (show Below w0.heap.size w0 wd_ from by rw [hw]; exact below_set HB.1 s.1); have n2_ := Q_ (show Kept w wd_ (fun k_ => P0_ k_) from by rw [hw]; exact Kept.setCell HK.1 (.inl PG6.1) _); have n3_ := Q_ (HM.1.trans hms_); obtain ⟨Xd, HOd, hrd⟩ := R_like sh_k56 hms_ HO.1; have HSd := Q_ (RowsS.trans sh56_trans HS.1 hrd); clear HO HS hrd HE; have HO := Q_ HOd; have HS := HSd; clear HOd HSd; have HE := Q_ (HS.1.at z56 HII.1); rw [← h.1, ← HTI.1] at HE; clear HB HK HM hms_ hxd hfd hw; have HB := n1_; have HK := n2_; have HM := n3_; clear n1_ n2_ n3_))
 go_roundg k1
 case measure => omega
 case rel => exact ⟨_, (wrap64 ((markC102 E0.f2 (cnt E0.f1.length (cnt E0.f0.length b))) + 1)), (wrap64 (a + 1)), i_1 + 1, el_, el_, HW5, ⟨by have := HN.1.1; omega, by have := HII.1; omega⟩, HS, ⟨by have h_ := HV.1; rw [getD_cons_drop z56 HII.1, ← h.1] at h_; exact h_⟩, ⟨pr_ HO.1⟩, ⟨qm_ HK.1⟩, ⟨qn_ HM.1⟩, ⟨pb_ HB.1⟩⟩


/-! ### laws_markRollout: function 36, by shapes -/
theorem laws_markRollout.callsM (d : Int) (P0_1_ : Nat → Prop) (u9000_ : Value) (a : List Int) (g : Int) (h : Bool) (i : Int) (w0 w : World) (hB : Below w0.heap.size w0 w) (c : Kd.R (Kd.int .i64) 3 w w0.heap.size P0_1_ u9000_ a) :
  Calls Try.prog 36 #[.agg #[.int .i64 d, u9000_, .int .i64 g, .bool h], .int .i64 i] w fun e w' => e = .returned (.int .i64 (cnt a.length i)) ∧ Below w0.heap.size w0 w' ∧ Kept w w' (fun k_ => (P0_1_ k_)) ∧ Marked w w' := by
 have hu33 := Try.underlying33
 have b := Q_ (show Kd.R (Kd.int .i64) 3 w w0.heap.size (fun k_ => P0_1_ k_ ∧ k_ < w.heap.size) u9000_ a from Kd.R_mono (Kd.R_bound c) (fun k_ hk => ⟨hk.1, hk.2.2.1⟩))
 have HS1 := Q_ (show a.length = a.length from rfl)
 have HK := Q_ (Kept.refl w (fun k_ => (P0_1_ k_)))
 have HM := Q_ (Marked.refl w)
 have HB := Q_ hB
 clear hB c
 go_enter Try.func36, Try.ntmps36
 go_wp2_with (first
  | ((with_reducible refine gate_dst (N := 2) rfl ?_); refine bx_ 2 #[.int .i64 d, u9000_, .int .i64 g, .bool h] 33 ?_; intro gb hg wx hbox hb; have m1_ := Q_ (Kd.R_below (pr_ b.1) hb); have hk_ := Q_ (Kept.below (qm_ HK.1) hb); have hm_ := Q_ (Marked.below (qn_ HM.1) hb); have hb_ := Q_ (below_step (pb_ HB.1) hb); have BK := Q_ hbox; have GW := Q_ (show w.heap.size ≤ gb from by rw [hg]; exact (qn_ HM.1 : Marked w _).size); clear b HK HM HB hb hbox hg; have b := m1_; have HK := hk_; have HM := hm_; have HB := hb_; clear m1_ hk_ hm_ hb_; have hcz := bc4_ BK.1)
  | ((with_reducible refine gate_callee (f := 12) rfl ?_); refine goesL_ (some 8) rfl rfl Try.func12 (by kernel_rfl) rfl #[u9000_, .int .i64 i] rfl mp_ ?_; (with_reducible refine (laws_markIntS.callsM (fun k_ => P0_1_ k_ ∧ k_ < w.heap.size) u9000_ a i w0 _ ?side1 ?side2).mono ?_); (case side1 => exact pb_ HB.1); (case side2 => exact pr_ b.1); rintro e wa_ ⟨he_, hb, hkp, hms0_⟩; rw [HS1.1] at he_; subst he_; refine ⟨_, rfl, ?_⟩; have hms_ := Marked.trans (qn_ (Marked.refl _)) hms0_; obtain ⟨Xa1, h1_, r1_⟩ := R_like (Sh.int .i64) hms_ b.1; have n1_ := Q_ (r1_.1.trans HS1.1); clear b HS1 r1_; have b := Q_ h1_; have HS1 := n1_; clear h1_ n1_; skip; have hk_ := Q_ (Kept.then_ (S := (fun k_ => (P0_1_ k_))) (qm_ HK.1) hkp (fun k_ hs_ => .inl hs_.1)); have hm_ := Q_ (Marked.trans (qn_ HM.1) hms0_); have hb_ := Q_ hb; clear HK HM HB BK hb hkp hms_ hms0_; have HK := hk_; have HM := hm_; have HB := hb_; clear hk_ hm_ hb_))
 go_ret
 exact ⟨el_, pb_ HB.1, qm_ HK.1, qn_ HM.1⟩


/-! ### laws_markDialedS: function 37, by shapes -/
def sh86 (x y : S86) : Prop := y.f0.f2.length = x.f0.f2.length ∧ y.f2.length = x.f2.length
theorem sh86_refl (x : S86) : sh86 x x := ⟨rfl, rfl⟩
theorem sh86_trans (x y z : S86) (a : sh86 x y) (b : sh86 y z) : sh86 x z := by
 obtain ⟨c, d⟩ := a
 obtain ⟨b0, b1⟩ := b
 exact ⟨b0.trans c, b1.trans d⟩
theorem sh_k86 : Sh k86 sh86 := Sh.imp (Sh.iso (Sh.pair (Sh.iso (Sh.pair Sh.bool (Sh.pair (Sh.int .i64) (Sh.slice (Sh.int .i64) 3))) (fun x : S84 => (x.f0, x.f1, x.f2)) (fun p => ⟨p.1, p.2.1, p.2.2⟩) (fun _ => rfl)) (Sh.pair (Sh.int .i64) (Sh.slice (Sh.int .i64) 3))) (fun x : S86 => (x.f0, x.f1, x.f2)) (fun p => ⟨p.1, p.2.1, p.2.2⟩) (fun _ => rfl)) (fun x y h => ⟨h.1.2.2.1, h.2.2.1⟩)
def markE86 (x : S86) (k : Int) : Int := (cnt x.f2.length (wrap64 ((cnt x.f0.f2.length (wrap64 ((wrap64 (k + 1)) + 1))) + 1)))
def markC86 : List S86 → Int → Int
 | [], k => k
 | x :: l, k => markC86 l (markE86 x k)
theorem markE86_like {x y : S86} (h : sh86 x y) (k : Int) : markE86 y k = markE86 x k := by
 obtain ⟨h0, h1⟩ := h
 unfold markE86
 rw [h0, h1]
theorem markC86_like {xs ys : List S86} (h : RowsS sh86 xs ys) (k : Int) : markC86 ys k = markC86 xs k := by
 induction xs generalizing ys k with
 | nil =>
  have := h.1
  rw [List.length_eq_zero_iff.1 this]
 | cons x xs ih =>
  cases ys with
  | nil => have := h.1; simp at this
  | cons y ys =>
   obtain ⟨y', hy, hs⟩ := h.2 0 x rfl
   obtain rfl : y = y' := by simpa using hy
   have ht : RowsS sh86 xs ys := h.drop 1
   simp only [markC86]
   rw [markE86_like hs, ih ht]
theorem laws_markDialedS.callsM (P0_ : Nat → Prop) (u9000_ : Value) (g : List S86) (l : Int) (w0 w : World) (hB : Below w0.heap.size w0 w) (q : Kd.R k86 86 w w0.heap.size P0_ u9000_ g) :
  Calls Try.prog 37 #[u9000_, .int .i64 l] w fun e w' => e = .returned (.int .i64 (markC86 g l)) ∧ Below w0.heap.size w0 w' ∧ Kept w w' (fun k_ => P0_ k_) ∧ Marked w w' := by
 have hu86 := Try.underlying86
 have k := Q_ q
 have HK := Q_ (Kept.refl w (fun k_ => P0_ k_))
 have HM := Q_ (Marked.refl w)
 have HB := Q_ hB
 clear hB q
 go_enter Try.func37, Try.ntmps37
 go_wp2
 go_loopg [1, 5] (g.length + 1) (fun kq F G w' => ∃ (c : List S86) (b a : Int) (i_1 : Nat), F = .int .i64 b ∧ G = .int .i64 a ∧ Aside0 (a = (i_1 : Int)) ∧ Aside0 (i_1 + kq = g.length + 1 ∧ i_1 ≤ g.length) ∧ Aside0 (RowsS sh86 g c) ∧ Aside0 (markC86 (g.drop i_1) b = markC86 g l) ∧ Aside0 (Kd.R k86 86 w' w0.heap.size P0_ u9000_ c) ∧ Aside0 (Kept w w' (fun k_ => P0_ k_)) ∧ Aside0 (Marked w w') ∧ Aside0 (Below w0.heap.size w0 w'))
 case atStart => exact ⟨g, l, 0, 0, el_, el_, ⟨rfl⟩, ⟨by omega, by omega⟩, ⟨RowsS.refl (fun _ => sh86_refl _) g⟩, ⟨rfl⟩, ⟨pr_ k.1⟩, ⟨qm_ HK.1⟩, ⟨qn_ HM.1⟩, ⟨pb_ HB.1⟩⟩
 clear k
 obtain ⟨c, b, a, i_1, rfl, rfl, HI, HN, HS, HV, HO, HK, HM, HB⟩ := hrel
 rcases gk with _ | k1
 ·exact absurd HN.1 (by omega)
 have HL := Q_ (show c.length = g.length from HS.1.1)
 have HLG := Q_ (R_long HO.1)
 by_cases r : a < (c.length : Int)
 rotate_left
 ·have m := decide_eq_false r
  have e_ : b = markC86 g l := by
   have h_ := HV.1
   have h1_ := HI.1
   have hlen := HL.1
   rw [show i_1 = g.length by have := HN.1.2; omega] at h_
   simpa [markC86] using h_
  subst e_
  obtain ⟨A, C, u⟩ := Kd.R_slice HO.1
  subst u
  go_wp2
  go_ret
  exact ⟨el_, pb_ HB.1, qm_ HK.1, qn_ HM.1⟩
 have m := decide_eq_true r
 have s : 0 ≤ (a : Int) := by have := HI.1; omega
 have y : (a : Int) < ((c.length : Int) : Int) := r
 have z : decide (0 ≤ a) = true := decide_eq_true s
 have HII := Q_ (show i_1 < g.length from by have := HI.1; have := HL.1; omega)
 have HTI := Q_ (show a.toNat = i_1 from by have := HI.1; omega)
 have HW5 := Q_ (wi_ HI.1 HII.1 (HL.1 ▸ HLG.1))
 obtain ⟨B, E, x⟩ := Kd.R_slice HO.1
 subst x
 obtain ⟨d, D, n, o, gl6, HG6⟩ := Kd.R_form HO.1 (by omega)
 (first | cases n | (injection n with ea_ en_ ec_; (first | subst ea_ | (injection ea_ with ea_; subst ea_)); subst ec_; clear en_))
 have j := Q_ o
 have PG6 := Q_ (HO.1.1 d rfl)
 clear o gl6 HG6 r
 have HP6 := Q_ s
 have i := Q_ y
 have HE := Q_ (HS.1.at z86 HII.1)
 obtain ⟨E0, hE0⟩ : ∃ e_ : S86, e_ = g.getD i_1 z86 := ⟨_, rfl⟩
 rw [← hE0, ← HTI.1] at HE
 have h := Q_ hE0
 clear hE0
 obtain ⟨ca, hcla, hMa, hcca, hfra⟩ := Kd.R_elem HO.1 z86 a HP6.1 i.1
 obtain ⟨Ea, hEa⟩ : ∃ e_ : S86, e_ = c.getD (a : Int).toNat z86 := ⟨_, rfl⟩
 rw [← hEa] at hMa HE
 clear hEa
 obtain ⟨va_2, va_4, rfl, ga_2, ga_4⟩ := k86_openM hMa
 have hxa : wr.cell? ⟨d, (a : Int).toNat * 5, none⟩ = some (.bool Ea.f0.f0) := hcca 0 _ rfl
 have hfa : wr.frozen? ⟨d, (a : Int).toNat * 5, none⟩ = false := hfra 0
 clear hcla hcca hfra
 clear ga_2 ga_4
 try clear hMa
 replace s := eq_true s
 replace y := eq_true y
 go_wp2_with (first
  | ((with_reducible refine gate_store (t := 4) (p := 19) rfl ?_); refine store_event (t := 4) (p := 19) (v := ?vo_a) (w1 := ?w1_a) ?hg ?ho ?hn ?hr ?_; (case ho => rfl); (case hg => rfl); (case hn => rfl); (case hr => first | (go_simp; done) | (go_simp; rfl)); intro wa_ hw; have hms_ : Marked _ wa_ := (by rw [hw]; exact Marked.set hxa (.inr (.inr ⟨_, _, rfl, rfl⟩))); have n1_ := Q_ (show Below w0.heap.size w0 wa_ from by rw [hw]; exact below_set HB.1 j.1); have n2_ := Q_ (show Kept w wa_ (fun k_ => P0_ k_) from by rw [hw]; exact Kept.setCell HK.1 (.inl PG6.1) _); have n3_ := Q_ (HM.1.trans hms_); obtain ⟨Xa, HOa, hra⟩ := R_like sh_k86 hms_ HO.1; have HSa := Q_ (RowsS.trans sh86_trans HS.1 hra); clear HO HS hra HE; have HO := Q_ HOa; have HS := HSa; clear HOa HSa; have HE := Q_ (HS.1.at z86 HII.1); rw [← h.1, ← HTI.1] at HE; clear HB HK HM hms_ hxa hfa hw; have HB := n1_; have HK := n2_; have HM := n3_; clear n1_ n2_ n3_; obtain ⟨cb, hclb, hMb, hccb, hfrb⟩ := Kd.R_elem HO.1 z86 a HP6.1 i.1; obtain ⟨Eb, hEb⟩ : ∃ e_ : S86, e_ = Xa.getD (a : Int).toNat z86 := ⟨_, rfl⟩; rw [← hEb] at hMb HE; clear hEb; obtain ⟨vb_2, vb_4, rfl, gb_2, gb_4⟩ := k86_openM hMb; have hxb : wa_.cell? ⟨d, (a : Int).toNat * 5 + 1, none⟩ = some (.int .i64 Eb.f0.f1) := hccb 1 _ rfl; have hfb : wa_.frozen? ⟨d, (a : Int).toNat * 5 + 1, none⟩ = false := hfrb 1; clear hclb hccb hfrb; clear gb_2 gb_4; try clear hMb)
  | ((with_reducible refine gate_store (t := 3) (p := 27) rfl ?_); refine store_event (t := 3) (p := 27) (v := ?vo_b) (w1 := ?w1_b) ?hg ?ho ?hn ?hr ?_; (case ho => rfl); (case hg => rfl); (case hn => rfl); (case hr => first | (go_simp; done) | (go_simp; rfl)); intro wb_ hw; have hms_ : Marked _ wb_ := (by rw [hw]; exact Marked.set hxb (.inr (.inl ⟨_, _, _, rfl, rfl⟩))); have n1_ := Q_ (show Below w0.heap.size w0 wb_ from by rw [hw]; exact below_set HB.1 j.1); have n2_ := Q_ (show Kept w wb_ (fun k_ => P0_ k_) from by rw [hw]; exact Kept.setCell HK.1 (.inl PG6.1) _); have n3_ := Q_ (HM.1.trans hms_); obtain ⟨Xb, HOb, hrb⟩ := R_like sh_k86 hms_ HO.1; have HSb := Q_ (RowsS.trans sh86_trans HS.1 hrb); clear HO HS hrb HE; have HO := Q_ HOb; have HS := HSb; clear HOb HSb; have HE := Q_ (HS.1.at z86 HII.1); rw [← h.1, ← HTI.1] at HE; clear HB HK HM hms_ hxb hfb hw; have HB := n1_; have HK := n2_; have HM := n3_; clear n1_ n2_ n3_; obtain ⟨cc, hclc, hMc, hccc, hfrc⟩ := Kd.R_elem HO.1 z86 a HP6.1 i.1; obtain ⟨Ec, hEc⟩ : ∃ e_ : S86, e_ = Xb.getD (a : Int).toNat z86 := ⟨_, rfl⟩; rw [← hEc] at hMc HE; clear hEc; obtain ⟨vc_2, vc_4, rfl, gc_2, gc_4⟩ := k86_openM hMc; obtain ⟨Ac, bc, ec⟩ := Kd.R_slice gc_2; subst ec; have hxc : wb_.cell? ⟨d, (a : Int).toNat * 5 + 2, none⟩ = some (.slice Ac Ec.f0.f2.length bc) := hccc 2 _ rfl; have HGc := Q_ (Kd.R_mono gc_2 (fun k_ h_ => h_.1)); clear hclc hccc hfrc; clear gc_2 gc_4; try clear hMc)
  | ((with_reducible refine gate_callee (f := 12) rfl ?_); refine goesL_ (some 37) rfl rfl Try.func12 (by kernel_rfl) rfl #[(.slice Ac Ec.f0.f2.length bc), .int .i64 (wrap64 ((wrap64 (b + 1)) + 1))] rfl mp_ ?_; (with_reducible refine (laws_markIntS.callsM P0_ (.slice Ac Ec.f0.f2.length bc) Ec.f0.f2 (wrap64 ((wrap64 (b + 1)) + 1)) w0 _ ?side1 ?side2).mono ?_); (case side1 => exact pb_ HB.1); (case side2 => exact pr_ HGc.1); rintro e wc_ ⟨he_, hb, hkp, hms0_⟩; rw [HE.1.1] at he_; subst he_; refine ⟨_, rfl, ?_⟩; have hms_ := Marked.trans (qn_ (Marked.refl _)) hms0_; have n1_ := Q_ hb; have n2_ := Q_ (Kept.then_ (S := (fun k_ => P0_ k_)) (qm_ HK.1) hkp (fun k_ hs_ => .inl hs_)); have n3_ := Q_ (Marked.trans (qn_ HM.1) hms0_); obtain ⟨Xc, HOc, hrc⟩ := R_like sh_k86 hms_ HO.1; have HSc := Q_ (RowsS.trans sh86_trans HS.1 hrc); clear HO HS hrc HE; have HO := Q_ HOc; have HS := HSc; clear HOc HSc; have HE := Q_ (HS.1.at z86 HII.1); rw [← h.1, ← HTI.1] at HE; clear HB HK HM hms_ hms0_ hb hkp hxc HGc; have HB := n1_; have HK := n2_; have HM := n3_; clear n1_ n2_ n3_; obtain ⟨cd, hcld, hMd, hccd, hfrd⟩ := Kd.R_elem HO.1 z86 a HP6.1 i.1; obtain ⟨Ed, hEd⟩ : ∃ e_ : S86, e_ = Xc.getD (a : Int).toNat z86 := ⟨_, rfl⟩; rw [← hEd] at hMd HE; clear hEd; obtain ⟨vd_2, vd_4, rfl, gd_2, gd_4⟩ := k86_openM hMd; have hxd : wc_.cell? ⟨d, (a : Int).toNat * 5 + 3, none⟩ = some (.int .i64 Ed.f1) := hccd 3 _ rfl; have hfd : wc_.frozen? ⟨d, (a : Int).toNat * 5 + 3, none⟩ = false := hfrd 3; clear hcld hccd hfrd; clear gd_2 gd_4; try clear hMd)
  | ((with_reducible refine gate_store (t := 3) (p := 42) rfl ?_); refine store_event (t := 3) (p := 42) (v := ?vo_d) (w1 := ?w1_d) ?hg ?ho ?hn ?hr ?_; (case ho => rfl); (case hg => rfl); (case hn => rfl); (case hr => first | (go_simp; done) | (go_simp; rfl)); intro wd_ hw; have hms_ : Marked _ wd_ := (by rw [hw]; exact Marked.set hxd (.inr (.inl ⟨_, _, _, rfl, rfl⟩))); have n1_ := Q_ (show Below w0.heap.size w0 wd_ from by rw [hw]; exact below_set HB.1 j.1); have n2_ := Q_ (show Kept w wd_ (fun k_ => P0_ k_) from by rw [hw]; exact Kept.setCell HK.1 (.inl PG6.1) _); have n3_ := Q_ (HM.1.trans hms_); obtain ⟨Xd, HOd, hrd⟩ := R_like sh_k86 hms_ HO.1; have HSd := Q_ (RowsS.trans sh86_trans HS.1 hrd); clear HO HS hrd HE; have HO := Q_ HOd; have HS := HSd; clear HOd HSd; have HE := Q_ (HS.1.at z86 HII.1); rw [← h.1, ← HTI.1] at HE; clear HB HK HM hms_ hxd hfd hw; have HB := n1_; have HK := n2_; have HM := n3_; clear n1_ n2_ n3_; obtain ⟨ce, hcle, hMe, hcce, hfre⟩ := Kd.R_elem HO.1 z86 a HP6.1 i.1; obtain ⟨Ee, hEe⟩ : ∃ e_ : S86, e_ = Xd.getD (a : Int).toNat z86 := ⟨_, rfl⟩; rw [← hEe] at hMe HE; clear hEe; obtain ⟨ve_2, ve_4, rfl, ge_2, ge_4⟩ := k86_openM hMe; obtain ⟨Ae, be, ee⟩ := Kd.R_slice ge_4; subst ee; have hxe : wd_.cell? ⟨d, (a : Int).toNat * 5 + 4, none⟩ = some (.slice Ae Ee.f2.length be) := hcce 4 _ rfl; have HGe := Q_ (Kd.R_mono ge_4 (fun k_ h_ => h_.1)); clear hcle hcce hfre; clear ge_2 ge_4; try clear hMe)
  | ((with_reducible refine gate_callee (f := 12) rfl ?_); refine goesL_ (some 51) rfl rfl Try.func12 (by kernel_rfl) rfl #[(.slice Ae Ee.f2.length be), .int .i64 (wrap64 ((cnt E0.f0.f2.length (wrap64 ((wrap64 (b + 1)) + 1))) + 1))] rfl mp_ ?_; (with_reducible refine (laws_markIntS.callsM P0_ (.slice Ae Ee.f2.length be) Ee.f2 (wrap64 ((cnt E0.f0.f2.length (wrap64 ((wrap64 (b + 1)) + 1))) + 1)) w0 _ ?side1 ?side2).mono ?_); (case side1 => exact pb_ HB.1); (case side2 => exact pr_ HGe.1); rintro e we_ ⟨he_, hb, hkp, hms0_⟩; rw [HE.1.2] at he_; subst he_; refine ⟨_, rfl, ?_⟩; have hms_ := Marked.trans (qn_ (Marked.refl _)) hms0_; have n1_ := Q_ hb; have n2_ := Q_ (Kept.then_ (S := (fun k_ => P0_ k_)) (qm_ HK.1) hkp (fun k_ hs_ => .inl hs_)); have n3_ := Q_ (Marked.trans (qn_ HM.1) hms0_); obtain ⟨Xe, HOe, hre⟩ := R_like sh_k86 hms_ HO.1; have HSe := Q_ (RowsS.trans sh86_trans HS.1 hre); clear HO HS hre HE; have HO := Q_ HOe; have HS := HSe; clear HOe HSe; have HE := Q_ (HS.1.at z86 HII.1); rw [← h.1, ← HTI.1] at HE; clear HB HK HM hms_ hms0_ hb hkp hxe HGe; have HB := n1_; have HK := n2_; have HM := n3_; clear n1_ n2_ n3_))
 go_roundg k1
 case measure => omega
 case rel => exact ⟨_, (cnt E0.f2.length (wrap64 ((cnt E0.f0.f2.length (wrap64 ((wrap64 (b + 1)) + 1))) + 1))), (wrap64 (a + 1)), i_1 + 1, el_, el_, HW5, ⟨by have := HN.1.1; omega, by have := HII.1; omega⟩, HS, ⟨by have h_ := HV.1; rw [getD_cons_drop z86 HII.1, ← h.1] at h_; exact h_⟩, ⟨pr_ HO.1⟩, ⟨qm_ HK.1⟩, ⟨qn_ HM.1⟩, ⟨pb_ HB.1⟩⟩


end Go.Proofs.Ytfhndlgbjhffiaa.Print
