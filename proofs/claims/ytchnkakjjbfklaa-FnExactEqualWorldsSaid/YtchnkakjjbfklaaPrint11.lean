-- Written by a program of this session (printx.py) out of the translation; Lean checks it.
import Derived.Test.YtchnkakjjbfklaaPrint0
import Derived.Test.YtchnkakjjbfklaaPrint10
namespace Go.Proofs.Ytchnkakjjbfklaa.Print
open Go.RowKit Go.Proofs.YtchnkakjjbfklaaW.PrintWords Go.Proofs.YtchnkakjjbfklaaW.PrintLast Go.Proofs.YtchnkakjjbfklaaW.PrintMore Go.Proofs.Ytchnkakjjbfklaa.Short
attribute [local go_sem] max2_int min2_int max_two min_two max_three min_three max_four min_four   -- for this text's walks alone
set_option linter.unusedVariables false
set_option maxHeartbeats 8000000
set_option maxRecDepth 100000
set_option linter.unusedSimpArgs false

/-! ### laws_eqDialedS: function 37 -/
def laws_eqDialedS.l0 : Nat → List (S55) → List (S55) → Int → Option (Bool)
 | 0, _, _, _ => none
 | k + 1, b, c, a => if a < (b.length : Int) then (if 0 ≤ a then (if a < (c.length : Int) then ((laws_eqDialed.f k ((rd_T55 b a).f0.f0) ((rd_T55 b a).f0.f1) ((rd_T55 b a).f0.f2) ((rd_T55 b a).f1) ((rd_T55 b a).f2) ((rd_T55 c a).f0.f0) ((rd_T55 c a).f0.f1) ((rd_T55 c a).f0.f2) ((rd_T55 c a).f1) ((rd_T55 c a).f2)).bind fun d => (if d = true then (laws_eqDialedS.l0 k b c (wrap64 (a + 1))) else (some false))) else (none)) else (none)) else (some true)
def laws_eqDialedS.f (k : Nat) (a : List (S55)) (b : List (S55)) : Option (Bool) := if (a.length : Int) = (b.length : Int) then (laws_eqDialedS.l0 k a b 0) else (some false)
theorem laws_eqDialedS.mono_l : ∀ k, (∀ a b c, LeO (laws_eqDialedS.l0 k a b c) (laws_eqDialedS.l0 (k + 1) a b c))
 | 0 => fun _ _ _ r h => by simp [laws_eqDialedS.l0] at h
 | k + 1 => by
  have ih0 := laws_eqDialedS.mono_l k
  ·intro a b c
   unfold laws_eqDialedS.l0
   exact mo2_ ih0 laws_eqDialed.mono
theorem laws_eqDialedS.mono : ∀ a b k, LeO (laws_eqDialedS.f k a b) (laws_eqDialedS.f (k + 1) a b) := by
 intro a b k
 have ih0 := laws_eqDialedS.mono_l k
 unfold laws_eqDialedS.f
 exact mo2_ ih0 laws_eqDialed.mono
def laws_eqDialedS.T6 : Bool × List (List Nat × List Nat) := (true, [([], []), ([], []), ([0, 1], [0, 1]), ([2], [2]), ([], []), ([], []), ([4, 5], [4, 5]), ([6], [6]), ([3, 7], [3, 7]), ([8], [8])])
def laws_eqDialedS.B6 : List Nat := [0, 0, 3, 7, 0, 0, 48, 112, 255, 511]
theorem laws_eqDialedS.tab6 : rtab .any (opsOf Try.f37 6) = laws_eqDialedS.T6 := by kernel_rfl
theorem laws_eqDialedS.bits6 : waitsOk laws_eqDialedS.T6.2 laws_eqDialedS.B6 = true := by kernel_rfl
theorem laws_eqDialedS.calls (k : Nat) (A0 : Option Addr) (c0 : Nat) (d : List (S55)) (A1 : Option Addr) (c1 : Nat) (g : List (S55)) (r : Bool) (w : World) (hr0 : Kd.C k55 w A0 d.length d) (ap : d.length ≤ c0) (hr1 : Kd.C k55 w A1 g.length g) (aq : g.length ≤ c1) (h : laws_eqDialedS.f k d g = some r) :
  Calls Try.prog 37 #[.slice A0 d.length c0, .slice A1 g.length c1] w fun e w' => e = .returned (.bool r) ∧ Below w.heap.size w w' := by
 have hu55 := Try.underlying55
 have av := Q_ hr0
 have aE := Q_ ap
 clear hr0 ap
 have aw := Q_ hr1
 have aF := Q_ aq
 clear hr1 aq
 have HB := Q_ (Below.refl w.heap.size w)
 have H : (if (d.length : Int) = (g.length : Int) then (laws_eqDialedS.l0 k d g 0) else (some false)) = some r := h
 clear h
 by_cases c3 : (d.length : Int) = (g.length : Int)
 rotate_left
 ·rw [if_neg c3] at H
  have aj : ((d.length : Int) == (g.length : Int)) = false := beq_eq_false_iff_ne.mpr c3
  have ak : ((d.length : Int) != (g.length : Int)) = true := bne_iff_ne.mpr c3
  have al : (d.length == g.length) = false := by first | simpa using c3 | (simp at c3 ⊢; omega)
  obtain rfl := Option.some.inj H
  go_enter Try.func37, Try.ntmps37
  go_wp2
  go_ret
  exact ⟨er_, pb_ HB.1⟩
 rw [if_pos c3] at H
 have aj : ((d.length : Int) == (g.length : Int)) = true := beq_iff_eq.mpr c3
 have ak : ((d.length : Int) != (g.length : Int)) = false := bne_eq_false_iff_eq.mpr c3
 have al : (d.length == g.length) = true := by first | simpa using c3 | (simp at c3 ⊢; omega)
 clear c3
 have H' := Q_ H
 clear H
 go_enter Try.func37, Try.ntmps37
 go_wp2
 go_loopg [5] k (fun kq v5 w' => ∃ (a : Int), v5 = .int .i64 a ∧ Aside0 (laws_eqDialedS.l0 kq d g a = some r) ∧ Aside0 (kq ≤ k) ∧ Aside0 (Below w.heap.size w w'))
 case atStart => exact ⟨(0), el_, H', ⟨Nat.le_refl _⟩, ⟨pb_ HB.1⟩⟩
 clear H'
 obtain ⟨a, rfl, HA, ai, HB⟩ := hrel
 rcases gk with _ | k1
 ·exact absurd HA.1 (by simp [laws_eqDialedS.l0])
 have H := HA.1
 clear HA
 simp only [laws_eqDialedS.l0] at H
 by_cases c4 : a < (d.length : Int)
 rotate_left
 ·rw [if_neg c4] at H
  have am := decide_eq_false c4
  clear c4
  obtain rfl := Option.some.inj H
  go_wp2
  go_ret
  exact ⟨er_, pb_ HB.1⟩
 rw [if_pos c4] at H
 have am := decide_eq_true c4
 clear c4
 by_cases c5 : 0 ≤ a
 rotate_left
 ·rw [if_neg c5] at H
  exact nn_ H
 rw [if_pos c5] at H
 have aB := decide_eq_true c5
 clear c5
 by_cases c6 : a < (g.length : Int)
 rotate_left
 ·rw [if_neg c6] at H
  exact nn_ H
 rw [if_pos c6] at H
 have aC := decide_eq_true c6
 clear c6
 obtain ⟨ag, A7, H⟩ := bs_ H
 (try dsimp only at H)
 have HS_ := Q_ H
 clear H
 try go_wp2
 have _ := Q_ (below_drew1 HB.1)
 clear HB
 rename_i HB
 have ab : 0 ≤ (a : Int) := dt_
 have ad : a < (d.length : Int) := dt_
 obtain ⟨b, N, R, O, T, an, i, j, l, m, o, W, v, X, x⟩ := at_U55 av.1 a ab ad
 have F := o
 have E := m
 have D := l
 have B := j
 have A := i
 cases an
 replace i := bt_ HB i
 replace j := bt_ HB j
 replace l := bt_ HB l
 replace m := bt_ HB m
 replace o := bt_ HB o
 replace ab := eq_true ab
 replace ad := eq_true ad
 have ac : 0 ≤ (a : Int) := dt_
 have ae : a < (g.length : Int) := dt_
 obtain ⟨c, P, U, Q, V, ao, p, q, s, t, u, Y, y, Z, z⟩ := at_U55 aw.1 a ac ae
 have M := u
 have L := t
 have J := s
 have I := q
 have G := p
 cases ao
 replace p := bt_ HB p
 replace q := bt_ HB q
 replace s := bt_ HB s
 replace t := bt_ HB t
 replace u := bt_ HB u
 replace ac := eq_true ac
 replace ae := eq_true ae
 refine start_ (n := 10) (S := fun w' => w'.cell? (b.add ((a).toNat * 5)) = some (.bool ((rd_T55 d a).f0.f0)) ∧ w'.cell? ⟨(b.add ((a).toNat * 5)).block, (b.add ((a).toNat * 5)).off + 1, none⟩ = some (.int .i64 ((rd_T55 d a).f0.f1)) ∧ w'.cell? ⟨(b.add ((a).toNat * 5)).block, (b.add ((a).toNat * 5)).off + 2, none⟩ = some (.slice N ((rd_T55 d a).f0.f2).length R) ∧ w'.cell? ⟨(b.add ((a).toNat * 5)).block, (b.add ((a).toNat * 5)).off + 3, none⟩ = some (.int .i64 ((rd_T55 d a).f1)) ∧ w'.cell? ⟨(b.add ((a).toNat * 5)).block, (b.add ((a).toNat * 5)).off + 4, none⟩ = some (.slice O ((rd_T55 d a).f2).length T) ∧ w'.cell? (c.add ((a).toNat * 5)) = some (.bool ((rd_T55 g a).f0.f0)) ∧ w'.cell? ⟨(c.add ((a).toNat * 5)).block, (c.add ((a).toNat * 5)).off + 1, none⟩ = some (.int .i64 ((rd_T55 g a).f0.f1)) ∧ w'.cell? ⟨(c.add ((a).toNat * 5)).block, (c.add ((a).toNat * 5)).off + 2, none⟩ = some (.slice P ((rd_T55 g a).f0.f2).length U) ∧ w'.cell? ⟨(c.add ((a).toNat * 5)).block, (c.add ((a).toNat * 5)).off + 3, none⟩ = some (.int .i64 ((rd_T55 g a).f1)) ∧ w'.cell? ⟨(c.add ((a).toNat * 5)).block, (c.add ((a).toNat * 5)).off + 4, none⟩ = some (.slice Q ((rd_T55 g a).f2).length V)) (ds := []) (tf_ 0 10) (by kernel_rfl) rfl rfl ⟨(bt_ HB A), (bt_ HB B), (bt_ HB D), (bt_ HB E), (bt_ HB F), (bt_ HB G), (bt_ HB I), (bt_ HB J), (bt_ HB L), (bt_ HB M)⟩ (fun hHeld => ?_); refine with_tabW laws_eqDialedS.tab6 laws_eqDialedS.bits6 (fun HT_ HW_ => ?_)
 generalize wr.drew = w8 at HB v x y z i j l m o p q s t u hHeld ⊢
 refine pu1_ 0 17 10 1 ?_
 refine pu1_ 1 18 10 3 ?_
 refine pu1_ 2 19 10 7 ?_
 refine pu1_ 4 21 10 23 ?_
 refine pu1_ 5 22 10 55 ?_
 refine pu1_ 6 23 10 119 ?_
 refine ta1_ 3 20 10 127 hHeld ?_
 refine ta1_ 7 24 10 255 hHeld ?_
 refine on_ 8 (some 25) (tf_ 9 10) HT_ (fun K hK => ?_)
 refine goes_ Try.func70 (by kernel_rfl) rfl #[.agg #[.bool ((rd_T55 d a).f0.f0), .int .i64 ((rd_T55 d a).f0.f1), .slice N ((rd_T55 d a).f0.f2).length R, .int .i64 ((rd_T55 d a).f1), .slice O ((rd_T55 d a).f2).length T], .agg #[.bool ((rd_T55 g a).f0.f0), .int .i64 ((rd_T55 g a).f0.f1), .slice P ((rd_T55 g a).f0.f2).length U, .int .i64 ((rd_T55 g a).f1), .slice Q ((rd_T55 g a).f2).length V]] (by rfl) rfl rfl mp_ ?_
 with_reducible refine (laws_eqDialed.calls k1 ((rd_T55 d a).f0.f0) ((rd_T55 d a).f0.f1) _ _ ((rd_T55 d a).f0.f2) ((rd_T55 d a).f1) _ _ ((rd_T55 d a).f2) ((rd_T55 g a).f0.f0) ((rd_T55 g a).f0.f1) _ _ ((rd_T55 g a).f0.f2) ((rd_T55 g a).f1) _ _ ((rd_T55 g a).f2) ag _ (cb_ v HB) W.1 (cb_ x HB) X.1 (cb_ y HB) Y.1 (cb_ z HB) Z.1 A7.1).mono ?_
 rintro e w9 ⟨rfl, hb⟩
 refine ⟨_, rfl, ?_⟩
 have _ := Q_ (below_step (pb_ HB.1) hb)
 clear HB
 rename_i HB
 (try clear hb)
 refine hK.out _ _ ⟨(bt_ HB A), (bt_ HB B), (bt_ HB D), (bt_ HB E), (bt_ HB F), (bt_ HB G), (bt_ HB I), (bt_ HB J), (bt_ HB L), (bt_ HB M)⟩ (fun hHeld => ?_)
 clear hK K
 refine no_ (some 25) ?_
 refine pu1_ 9 26 10 1023 ?_
 refine done_ (done_of HT_.1 (by kernel_rfl)) ?_
 go_upto_if 26 with (fail)
 have H := HS_.1
 clear HS_
 by_cases af : ag = true
 rotate_left
 ·replace af := bf_ af
  subst af
  rw [if_neg ff_] at H
  obtain rfl := Option.some.inj H
  go_wp2
  go_ret
  exact ⟨er_, pb_ HB.1⟩
 subst af
 rw [if_pos rfl] at H
 have H' := Q_ H
 clear H
 go_wp2
 go_roundg k1
 case measure => have := ai.1; omega
 case rel => exact ⟨(wrap64 (a + 1)), el_, H', ⟨by have := ai.1; omega⟩, ⟨pb_ HB.1⟩⟩

/-! ### laws_eqLogged: function 71 -/
def laws_eqLogged.f (k : Nat) (n : Int) (o : Int) (p : Bool) (a : Bool) (b : Int) (i : List Int) (c : Int) (j : List Int) (q : Int) (r : Int) (d : Bool) (e : Bool) (g : Int) (l : List Int) (h : Int) (m : List Int) : Option (Bool) := if n = q then (if o = r then (if p = true then (if d = true then ((laws_eqDialed.f k a b i c j e g l h m).bind fun s => (if s = true then (some true) else (some false))) else (some false)) else (if d = true then (some false) else ((laws_eqDialed.f k a b i c j e g l h m).bind fun t => (if t = true then (some true) else (some false))))) else (some false)) else (some false)
theorem laws_eqLogged.mono : ∀ h i j l m n o p q r a b c d e g k, LeO (laws_eqLogged.f k h i j l m n o p q r a b c d e g) (laws_eqLogged.f (k + 1) h i j l m n o p q r a b c d e g) := by
 intro h i j l m n o p q r a b c d e g k
 unfold laws_eqLogged.f
 exact mo1_ laws_eqDialed.mono
theorem laws_eqLogged.calls (k : Nat) (o : Int) (p : Int) (G : Bool) (q : Bool) (s : Int) (B : Option Addr) (I : Nat) (j : List Int) (t : Int) (D : Option Addr) (J : Nat) (l : List Int) (u : Int) (v : Int) (A : Bool) (x : Bool) (y : Int) (E : Option Addr) (K : Nat) (m : List Int) (z : Int) (F : Option Addr) (L : Nat) (n : List Int) (r : Bool) (w : World) (hr0_5 : Kd.C (Kd.int .i64) w B j.length j) (Z : j.length ≤ I) (hr0_7 : Kd.C (Kd.int .i64) w D l.length l) (aa : l.length ≤ J) (hr1_5 : Kd.C (Kd.int .i64) w E m.length m) (ab : m.length ≤ K) (hr1_7 : Kd.C (Kd.int .i64) w F n.length n) (ac : n.length ≤ L) (h : laws_eqLogged.f k o p G q s j t l u v A x y m z n = some r) :
  Calls Try.prog 71 #[.agg #[.int .i64 o, .int .i64 p, .bool G, .bool q, .int .i64 s, .slice B j.length I, .int .i64 t, .slice D l.length J], .agg #[.int .i64 u, .int .i64 v, .bool A, .bool x, .int .i64 y, .slice E m.length K, .int .i64 z, .slice F n.length L]] w fun e w' => e = .returned (.bool r) ∧ Below w.heap.size w w' := by
 have hu57 := Try.underlying57
 have hu55 := Try.underlying55
 have V := Q_ hr0_5
 have R := Q_ Z
 clear hr0_5 Z
 have W := Q_ hr0_7
 have S := Q_ aa
 clear hr0_7 aa
 have X := Q_ hr1_5
 have T := Q_ ab
 clear hr1_5 ab
 have Y := Q_ hr1_7
 have U := Q_ ac
 clear hr1_7 ac
 have HB := Q_ (Below.refl w.heap.size w)
 have H : (if o = u then (if p = v then (if G = true then (if A = true then ((laws_eqDialed.f k q s j t l x y m z n).bind fun P => (if P = true then (some true) else (some false))) else (some false)) else (if A = true then (some false) else ((laws_eqDialed.f k q s j t l x y m z n).bind fun Q => (if Q = true then (some true) else (some false))))) else (some false)) else (some false)) = some r := h
 clear h
 have HS_ := Q_ H
 clear H
 go_enter Try.func71, Try.ntmps71
 go_upto_region 1 with (first | ((with_reducible refine gate_dst (N := 2) rfl ?_); refine bx_ 2 #[.int .i64 o, .int .i64 p, .bool G, .bool q, .int .i64 s, .slice B j.length I, .int .i64 t, .slice D l.length J] 57 ?_; intro aq hg w3 hbox hb; have _ := Q_ (below_step (pb_ HB.1) hb); have a := Q_ (hbox); have ai := Q_ (gw_ (w := w) hg (pb_ HB.1)); have g := ai; clear HB; rename_i HB; clear hb hbox hg) | ((with_reducible refine gate_dst (N := 3) rfl ?_); refine bx_ 3 #[.int .i64 u, .int .i64 v, .bool A, .bool x, .int .i64 y, .slice E m.length K, .int .i64 z, .slice F n.length L] 57 ?_; intro ar hg w4 hbox hb; have _ := Q_ (bb_ a.1 hb); have _ := Q_ (below_step (pb1_ HB.1 g.1) hb); have d := Q_ (hbox); have aj := Q_ (gw_ (w := w) hg (pb1_ HB.1 g.1)); have i := aj; have b := Q_ (nb_ hg a); have c := Q_ b.1.symm; clear a HB; rename_i a HB; clear hb hbox hg))
 (try simp only [Act.put, s1_, s2_, s3_])
 have H := HS_.1
 clear HS_
 by_cases c5 : o = u
 rotate_left
 ·rw [if_neg c5] at H
  have M : (o == u) = false := beq_eq_false_iff_ne.mpr c5
  have O : (o != u) = true := bne_iff_ne.mpr c5
  (first | rw [M] | (simp only [i64_w, i32_w]; rw [M]) | rw [O] | (have c_ := O; rw [bne] at c_; rw [c_]; clear c_) | skip)
  obtain rfl := Option.some.inj H
  have aQ := b.1
  have aR := c.1
  have aO := bc8_ a.1
  have aP := bc8_ d.1
  go_wp2
  go_ret
  exact ⟨er_, pb2_ HB.1 g.1 i.1⟩
 rw [if_pos c5] at H
 have M : (o == u) = true := beq_iff_eq.mpr c5
 have O : (o != u) = false := bne_eq_false_iff_eq.mpr c5
 clear c5
 (first | rw [M] | (simp only [i64_w, i32_w]; rw [M]) | rw [O] | (have c_ := O; rw [bne] at c_; rw [c_]; clear c_) | skip)
 by_cases c9 : p = v
 rotate_left
 ·rw [if_neg c9] at H
  have am : (p == v) = false := beq_eq_false_iff_ne.mpr c9
  have an : (p != v) = true := bne_iff_ne.mpr c9
  obtain rfl := Option.some.inj H
  have aE := b.1
  have aJ := c.1
  have au := bc8_ a.1
  have av := bc8_ d.1
  go_wp2
  go_ret
  exact ⟨er_, pb2_ HB.1 g.1 i.1⟩
 rw [if_pos c9] at H
 have am : (p == v) = true := beq_iff_eq.mpr c9
 have an : (p != v) = false := bne_eq_false_iff_eq.mpr c9
 clear c9
 by_cases ad : G = true
 rotate_left
 ·replace ad := bf_ ad
  subst ad
  rw [if_neg ff_] at H
  by_cases ae : A = true
  ·subst ae
   rw [if_pos rfl] at H
   obtain rfl := Option.some.inj H
   have aF := b.1
   have aK := c.1
   have aw := bc8_ a.1
   have ax := bc8_ d.1
   go_wp2
   go_ret
   exact ⟨er_, pb2_ HB.1 g.1 i.1⟩
  replace ae := bf_ ae
  subst ae
  rw [if_neg ff_] at H
  obtain ⟨Q, ao, H⟩ := bs_ H
  replace H : (if Q = true then (some true) else (some false)) = some r := H
  have HS_ := Q_ H
  clear H
  have aG := b.1
  have aL := c.1
  have ay := bc8_ a.1
  have az := bc8_ d.1
  go_upto_if 25 with (first | ((with_reducible refine gate_callee (f := 70) rfl ?_); refine gl_ (some 24) Try.func70 #[.agg #[.bool q, .int .i64 s, .slice B j.length I, .int .i64 t, .slice D l.length J], .agg #[.bool x, .int .i64 y, .slice E m.length K, .int .i64 z, .slice F n.length L]] ?_; (with_reducible refine (laws_eqDialed.calls k q s _ _ j t _ _ l x y _ _ m z _ _ n Q _ (cb_ V HB) R.1 (cb_ W HB) S.1 (cb_ X HB) T.1 (cb_ Y HB) U.1 ao.1).mono ?_); rintro e aS ⟨rfl, hb⟩; refine ⟨_, rfl, ?_⟩; have _ := Q_ (bb_ a.1 hb); have _ := Q_ (bb_ d.1 hb); have _ := Q_ (below_step (pb2_ HB.1 g.1 i.1) hb); clear a d HB; rename_i a d HB; (try clear hb)))
  (try simp only [Act.put, s1_, s2_, s3_])
  have H := HS_.1
  clear HS_
  by_cases af : Q = true
  rotate_left
  ·replace af := bf_ af
   subst af
   rw [if_neg ff_] at H
   obtain rfl := Option.some.inj H
   go_wp2
   go_ret
   exact ⟨er_, pb2_ HB.1 g.1 i.1⟩
  subst af
  rw [if_pos rfl] at H
  obtain rfl := Option.some.inj H
  go_wp2
  go_ret
  exact ⟨er_, pb2_ HB.1 g.1 i.1⟩
 subst ad
 rw [if_pos rfl] at H
 by_cases ag : A = true
 rotate_left
 ·replace ag := bf_ ag
  subst ag
  rw [if_neg ff_] at H
  obtain rfl := Option.some.inj H
  have aH := b.1
  have aM := c.1
  have aA := bc8_ a.1
  have aB := bc8_ d.1
  go_wp2
  go_ret
  exact ⟨er_, pb2_ HB.1 g.1 i.1⟩
 subst ag
 rw [if_pos rfl] at H
 obtain ⟨P, ap, H⟩ := bs_ H
 replace H : (if P = true then (some true) else (some false)) = some r := H
 have HS_ := Q_ H
 clear H
 have aI := b.1
 have aN := c.1
 have aC := bc8_ a.1
 have aD := bc8_ d.1
 go_upto_if 25 with (first | ((with_reducible refine gate_callee (f := 70) rfl ?_); refine gl_ (some 24) Try.func70 #[.agg #[.bool q, .int .i64 s, .slice B j.length I, .int .i64 t, .slice D l.length J], .agg #[.bool x, .int .i64 y, .slice E m.length K, .int .i64 z, .slice F n.length L]] ?_; (with_reducible refine (laws_eqDialed.calls k q s _ _ j t _ _ l x y _ _ m z _ _ n P _ (cb_ V HB) R.1 (cb_ W HB) S.1 (cb_ X HB) T.1 (cb_ Y HB) U.1 ap.1).mono ?_); rintro e aT ⟨rfl, hb⟩; refine ⟨_, rfl, ?_⟩; have _ := Q_ (bb_ a.1 hb); have _ := Q_ (bb_ d.1 hb); have _ := Q_ (below_step (pb2_ HB.1 g.1 i.1) hb); clear a d HB; rename_i a d HB; (try clear hb)))
 (try simp only [Act.put, s1_, s2_, s3_])
 have H := HS_.1
 clear HS_
 by_cases ah : P = true
 rotate_left
 ·replace ah := bf_ ah
  subst ah
  rw [if_neg ff_] at H
  obtain rfl := Option.some.inj H
  go_wp2
  go_ret
  exact ⟨er_, pb2_ HB.1 g.1 i.1⟩
 subst ah
 rw [if_pos rfl] at H
 obtain rfl := Option.some.inj H
 go_wp2
 go_ret
 exact ⟨er_, pb2_ HB.1 g.1 i.1⟩

/-! ### laws_eqLoggedS: function 38 -/
def laws_eqLoggedS.l0 : Nat → List (S57) → List (S57) → Int → Option (Bool)
 | 0, _, _, _ => none
 | k + 1, b, c, a => if a < (b.length : Int) then (if 0 ≤ a then (if a < (c.length : Int) then ((laws_eqLogged.f k ((rd_T57 b a).f0) ((rd_T57 b a).f1) ((rd_T57 b a).f2) ((rd_T57 b a).f3.f0.f0) ((rd_T57 b a).f3.f0.f1) ((rd_T57 b a).f3.f0.f2) ((rd_T57 b a).f3.f1) ((rd_T57 b a).f3.f2) ((rd_T57 c a).f0) ((rd_T57 c a).f1) ((rd_T57 c a).f2) ((rd_T57 c a).f3.f0.f0) ((rd_T57 c a).f3.f0.f1) ((rd_T57 c a).f3.f0.f2) ((rd_T57 c a).f3.f1) ((rd_T57 c a).f3.f2)).bind fun d => (if d = true then (laws_eqLoggedS.l0 k b c (wrap64 (a + 1))) else (some false))) else (none)) else (none)) else (some true)
def laws_eqLoggedS.f (k : Nat) (a : List (S57)) (b : List (S57)) : Option (Bool) := if (a.length : Int) = (b.length : Int) then (laws_eqLoggedS.l0 k a b 0) else (some false)
theorem laws_eqLoggedS.mono_l : ∀ k, (∀ a b c, LeO (laws_eqLoggedS.l0 k a b c) (laws_eqLoggedS.l0 (k + 1) a b c))
 | 0 => fun _ _ _ r h => by simp [laws_eqLoggedS.l0] at h
 | k + 1 => by
  have ih0 := laws_eqLoggedS.mono_l k
  ·intro a b c
   unfold laws_eqLoggedS.l0
   exact mo2_ ih0 laws_eqLogged.mono
theorem laws_eqLoggedS.mono : ∀ a b k, LeO (laws_eqLoggedS.f k a b) (laws_eqLoggedS.f (k + 1) a b) := by
 intro a b k
 have ih0 := laws_eqLoggedS.mono_l k
 unfold laws_eqLoggedS.f
 exact mo2_ ih0 laws_eqLogged.mono
def laws_eqLoggedS.T6 : Bool × List (List Nat × List Nat) := (true, [([], []), ([], []), ([0, 1], [0, 1]), ([2], [2]), ([], []), ([], []), ([4, 5], [4, 5]), ([6], [6]), ([3, 7], [3, 7]), ([8], [8])])
def laws_eqLoggedS.B6 : List Nat := [0, 0, 3, 7, 0, 0, 48, 112, 255, 511]
theorem laws_eqLoggedS.tab6 : rtab .any (opsOf Try.f38 6) = laws_eqLoggedS.T6 := by kernel_rfl
theorem laws_eqLoggedS.bits6 : waitsOk laws_eqLoggedS.T6.2 laws_eqLoggedS.B6 = true := by kernel_rfl
theorem laws_eqLoggedS.calls (k : Nat) (A0 : Option Addr) (c0 : Nat) (d : List (S57)) (A1 : Option Addr) (c1 : Nat) (g : List (S57)) (r : Bool) (w : World) (hr0 : Kd.C k57 w A0 d.length d) (aD : d.length ≤ c0) (hr1 : Kd.C k57 w A1 g.length g) (aE : g.length ≤ c1) (h : laws_eqLoggedS.f k d g = some r) :
  Calls Try.prog 38 #[.slice A0 d.length c0, .slice A1 g.length c1] w fun e w' => e = .returned (.bool r) ∧ Below w.heap.size w w' := by
 have hu57 := Try.underlying57
 have aH := Q_ hr0
 have aQ := Q_ aD
 clear hr0 aD
 have aI := Q_ hr1
 have aR := Q_ aE
 clear hr1 aE
 have HB := Q_ (Below.refl w.heap.size w)
 have H : (if (d.length : Int) = (g.length : Int) then (laws_eqLoggedS.l0 k d g 0) else (some false)) = some r := h
 clear h
 by_cases c3 : (d.length : Int) = (g.length : Int)
 rotate_left
 ·rw [if_neg c3] at H
  have ax : ((d.length : Int) == (g.length : Int)) = false := beq_eq_false_iff_ne.mpr c3
  have ay : ((d.length : Int) != (g.length : Int)) = true := bne_iff_ne.mpr c3
  have az : (d.length == g.length) = false := by first | simpa using c3 | (simp at c3 ⊢; omega)
  obtain rfl := Option.some.inj H
  go_enter Try.func38, Try.ntmps38
  go_wp2
  go_ret
  exact ⟨er_, pb_ HB.1⟩
 rw [if_pos c3] at H
 have ax : ((d.length : Int) == (g.length : Int)) = true := beq_iff_eq.mpr c3
 have ay : ((d.length : Int) != (g.length : Int)) = false := bne_eq_false_iff_eq.mpr c3
 have az : (d.length == g.length) = true := by first | simpa using c3 | (simp at c3 ⊢; omega)
 clear c3
 have H' := Q_ H
 clear H
 go_enter Try.func38, Try.ntmps38
 go_wp2
 go_loopg [5] k (fun kq v5 w' => ∃ (a : Int), v5 = .int .i64 a ∧ Aside0 (laws_eqLoggedS.l0 kq d g a = some r) ∧ Aside0 (kq ≤ k) ∧ Aside0 (Below w.heap.size w w'))
 case atStart => exact ⟨(0), el_, H', ⟨Nat.le_refl _⟩, ⟨pb_ HB.1⟩⟩
 clear H'
 obtain ⟨a, rfl, HA, aw, HB⟩ := hrel
 rcases gk with _ | k1
 ·exact absurd HA.1 (by simp [laws_eqLoggedS.l0])
 have H := HA.1
 clear HA
 simp only [laws_eqLoggedS.l0] at H
 by_cases c4 : a < (d.length : Int)
 rotate_left
 ·rw [if_neg c4] at H
  have aA := decide_eq_false c4
  clear c4
  obtain rfl := Option.some.inj H
  go_wp2
  go_ret
  exact ⟨er_, pb_ HB.1⟩
 rw [if_pos c4] at H
 have aA := decide_eq_true c4
 clear c4
 by_cases c5 : 0 ≤ a
 rotate_left
 ·rw [if_neg c5] at H
  exact nn_ H
 rw [if_pos c5] at H
 have aN := decide_eq_true c5
 clear c5
 by_cases c6 : a < (g.length : Int)
 rotate_left
 ·rw [if_neg c6] at H
  exact nn_ H
 rw [if_pos c6] at H
 have aO := decide_eq_true c6
 clear c6
 obtain ⟨au, A7, H⟩ := bs_ H
 (try dsimp only at H)
 have HS_ := Q_ H
 clear H
 try go_wp2
 have _ := Q_ (below_drew1 HB.1)
 clear HB
 rename_i HB
 have an : 0 ≤ (a : Int) := dt_
 have ap : a < (d.length : Int) := dt_
 obtain ⟨b, aa, ae, ab, af, aB, i, j, l, m, o, p, q, s, ai, D, aj, E⟩ := at_U57 aH.1 a an ap
 have Q := s
 have P := q
 have O := p
 have N := o
 have M := m
 have L := l
 have J := j
 have I := i
 cases aB
 replace i := bt_ HB i
 replace j := bt_ HB j
 replace l := bt_ HB l
 replace m := bt_ HB m
 replace o := bt_ HB o
 replace p := bt_ HB p
 replace q := bt_ HB q
 replace s := bt_ HB s
 replace an := eq_true an
 replace ap := eq_true ap
 have ao : 0 ≤ (a : Int) := dt_
 have aq : a < (g.length : Int) := dt_
 obtain ⟨c, ac, ag, ad, ah, aC, t, u, v, x, y, z, A, B, ak, F, al, G⟩ := at_U57 aI.1 a ao aq
 have Z := B
 have Y := A
 have X := z
 have W := y
 have V := x
 have U := v
 have T := u
 have R := t
 cases aC
 replace t := bt_ HB t
 replace u := bt_ HB u
 replace v := bt_ HB v
 replace x := bt_ HB x
 replace y := bt_ HB y
 replace z := bt_ HB z
 replace A := bt_ HB A
 replace B := bt_ HB B
 replace ao := eq_true ao
 replace aq := eq_true aq
 refine start_ (n := 10) (S := fun w' => w'.cell? (b.add ((a).toNat * 8)) = some (.int .i64 ((rd_T57 d a).f0)) ∧ w'.cell? ⟨(b.add ((a).toNat * 8)).block, (b.add ((a).toNat * 8)).off + 1, none⟩ = some (.int .i64 ((rd_T57 d a).f1)) ∧ w'.cell? ⟨(b.add ((a).toNat * 8)).block, (b.add ((a).toNat * 8)).off + 2, none⟩ = some (.bool ((rd_T57 d a).f2)) ∧ w'.cell? ⟨(b.add ((a).toNat * 8)).block, (b.add ((a).toNat * 8)).off + 3, none⟩ = some (.bool ((rd_T57 d a).f3.f0.f0)) ∧ w'.cell? ⟨(b.add ((a).toNat * 8)).block, (b.add ((a).toNat * 8)).off + 4, none⟩ = some (.int .i64 ((rd_T57 d a).f3.f0.f1)) ∧ w'.cell? ⟨(b.add ((a).toNat * 8)).block, (b.add ((a).toNat * 8)).off + 5, none⟩ = some (.slice aa ((rd_T57 d a).f3.f0.f2).length ae) ∧ w'.cell? ⟨(b.add ((a).toNat * 8)).block, (b.add ((a).toNat * 8)).off + 6, none⟩ = some (.int .i64 ((rd_T57 d a).f3.f1)) ∧ w'.cell? ⟨(b.add ((a).toNat * 8)).block, (b.add ((a).toNat * 8)).off + 7, none⟩ = some (.slice ab ((rd_T57 d a).f3.f2).length af) ∧ w'.cell? (c.add ((a).toNat * 8)) = some (.int .i64 ((rd_T57 g a).f0)) ∧ w'.cell? ⟨(c.add ((a).toNat * 8)).block, (c.add ((a).toNat * 8)).off + 1, none⟩ = some (.int .i64 ((rd_T57 g a).f1)) ∧ w'.cell? ⟨(c.add ((a).toNat * 8)).block, (c.add ((a).toNat * 8)).off + 2, none⟩ = some (.bool ((rd_T57 g a).f2)) ∧ w'.cell? ⟨(c.add ((a).toNat * 8)).block, (c.add ((a).toNat * 8)).off + 3, none⟩ = some (.bool ((rd_T57 g a).f3.f0.f0)) ∧ w'.cell? ⟨(c.add ((a).toNat * 8)).block, (c.add ((a).toNat * 8)).off + 4, none⟩ = some (.int .i64 ((rd_T57 g a).f3.f0.f1)) ∧ w'.cell? ⟨(c.add ((a).toNat * 8)).block, (c.add ((a).toNat * 8)).off + 5, none⟩ = some (.slice ac ((rd_T57 g a).f3.f0.f2).length ag) ∧ w'.cell? ⟨(c.add ((a).toNat * 8)).block, (c.add ((a).toNat * 8)).off + 6, none⟩ = some (.int .i64 ((rd_T57 g a).f3.f1)) ∧ w'.cell? ⟨(c.add ((a).toNat * 8)).block, (c.add ((a).toNat * 8)).off + 7, none⟩ = some (.slice ad ((rd_T57 g a).f3.f2).length ah)) (ds := []) (tf_ 0 10) (by kernel_rfl) rfl rfl ⟨(bt_ HB I), (bt_ HB J), (bt_ HB L), (bt_ HB M), (bt_ HB N), (bt_ HB O), (bt_ HB P), (bt_ HB Q), (bt_ HB R), (bt_ HB T), (bt_ HB U), (bt_ HB V), (bt_ HB W), (bt_ HB X), (bt_ HB Y), (bt_ HB Z)⟩ (fun hHeld => ?_); refine with_tabW laws_eqLoggedS.tab6 laws_eqLoggedS.bits6 (fun HT_ HW_ => ?_)
 generalize wr.drew = w8 at HB D E F G i j l m o p q s t u v x y z A B hHeld ⊢
 refine pu1_ 0 17 10 1 ?_
 refine pu1_ 1 18 10 3 ?_
 refine pu1_ 2 19 10 7 ?_
 refine pu1_ 4 21 10 23 ?_
 refine pu1_ 5 22 10 55 ?_
 refine pu1_ 6 23 10 119 ?_
 refine ta1_ 3 20 10 127 hHeld ?_
 refine ta1_ 7 24 10 255 hHeld ?_
 refine on_ 8 (some 25) (tf_ 9 10) HT_ (fun K hK => ?_)
 refine goes_ Try.func71 (by kernel_rfl) rfl #[.agg #[.int .i64 ((rd_T57 d a).f0), .int .i64 ((rd_T57 d a).f1), .bool ((rd_T57 d a).f2), .bool ((rd_T57 d a).f3.f0.f0), .int .i64 ((rd_T57 d a).f3.f0.f1), .slice aa ((rd_T57 d a).f3.f0.f2).length ae, .int .i64 ((rd_T57 d a).f3.f1), .slice ab ((rd_T57 d a).f3.f2).length af], .agg #[.int .i64 ((rd_T57 g a).f0), .int .i64 ((rd_T57 g a).f1), .bool ((rd_T57 g a).f2), .bool ((rd_T57 g a).f3.f0.f0), .int .i64 ((rd_T57 g a).f3.f0.f1), .slice ac ((rd_T57 g a).f3.f0.f2).length ag, .int .i64 ((rd_T57 g a).f3.f1), .slice ad ((rd_T57 g a).f3.f2).length ah]] (by rfl) rfl rfl mp_ ?_
 with_reducible refine (laws_eqLogged.calls k1 ((rd_T57 d a).f0) ((rd_T57 d a).f1) ((rd_T57 d a).f2) ((rd_T57 d a).f3.f0.f0) ((rd_T57 d a).f3.f0.f1) _ _ ((rd_T57 d a).f3.f0.f2) ((rd_T57 d a).f3.f1) _ _ ((rd_T57 d a).f3.f2) ((rd_T57 g a).f0) ((rd_T57 g a).f1) ((rd_T57 g a).f2) ((rd_T57 g a).f3.f0.f0) ((rd_T57 g a).f3.f0.f1) _ _ ((rd_T57 g a).f3.f0.f2) ((rd_T57 g a).f3.f1) _ _ ((rd_T57 g a).f3.f2) au _ (cb_ D HB) ai.1 (cb_ E HB) aj.1 (cb_ F HB) ak.1 (cb_ G HB) al.1 A7.1).mono ?_
 rintro e w9 ⟨rfl, hb⟩
 refine ⟨_, rfl, ?_⟩
 have _ := Q_ (below_step (pb_ HB.1) hb)
 clear HB
 rename_i HB
 (try clear hb)
 refine hK.out _ _ ⟨(bt_ HB I), (bt_ HB J), (bt_ HB L), (bt_ HB M), (bt_ HB N), (bt_ HB O), (bt_ HB P), (bt_ HB Q), (bt_ HB R), (bt_ HB T), (bt_ HB U), (bt_ HB V), (bt_ HB W), (bt_ HB X), (bt_ HB Y), (bt_ HB Z)⟩ (fun hHeld => ?_)
 clear hK K
 refine no_ (some 25) ?_
 refine pu1_ 9 26 10 1023 ?_
 refine done_ (done_of HT_.1 (by kernel_rfl)) ?_
 go_upto_if 26 with (fail)
 have H := HS_.1
 clear HS_
 by_cases ar : au = true
 rotate_left
 ·replace ar := bf_ ar
  subst ar
  rw [if_neg ff_] at H
  obtain rfl := Option.some.inj H
  go_wp2
  go_ret
  exact ⟨er_, pb_ HB.1⟩
 subst ar
 rw [if_pos rfl] at H
 have H' := Q_ H
 clear H
 go_wp2
 go_roundg k1
 case measure => have := aw.1; omega
 case rel => exact ⟨(wrap64 (a + 1)), el_, H', ⟨by have := aw.1; omega⟩, ⟨pb_ HB.1⟩⟩

end Go.Proofs.Ytchnkakjjbfklaa.Print
