-- Written by a program of this session (printx.py) out of the translation; Lean checks it.
import Derived.Test.YtchnkakjjbfklaaPrint0
import Derived.Test.YtchnkakjjbfklaaPrint9
namespace Go.Proofs.Ytchnkakjjbfklaa.Print
open Go.RowKit Go.Proofs.YtchnkakjjbfklaaW.PrintWords Go.Proofs.YtchnkakjjbfklaaW.PrintLast Go.Proofs.YtchnkakjjbfklaaW.PrintMore Go.Proofs.Ytchnkakjjbfklaa.Short
attribute [local go_sem] max2_int min2_int max_two min_two max_three min_three max_four min_four   -- for this text's walks alone
set_option linter.unusedVariables false
set_option maxHeartbeats 8000000
set_option maxRecDepth 100000
set_option linter.unusedSimpArgs false

/-! ### laws_eqEndpointS: function 35 -/
def laws_eqEndpointS.l0 : Nat → List (S50) → List (S50) → Int → Option (Bool)
 | 0, _, _, _ => none
 | k + 1, b, c, a => if a < (b.length : Int) then (if 0 ≤ a then (if a < (c.length : Int) then ((laws_eqEndpoint.f k ((rd_T50 b a).f0) ((rd_T50 b a).f1) ((rd_T50 b a).f2) ((rd_T50 b a).f3) ((rd_T50 c a).f0) ((rd_T50 c a).f1) ((rd_T50 c a).f2) ((rd_T50 c a).f3)).bind fun d => (if d = true then (laws_eqEndpointS.l0 k b c (wrap64 (a + 1))) else (some false))) else (none)) else (none)) else (some true)
def laws_eqEndpointS.f (k : Nat) (a : List (S50)) (b : List (S50)) : Option (Bool) := if (a.length : Int) = (b.length : Int) then (laws_eqEndpointS.l0 k a b 0) else (some false)
theorem laws_eqEndpointS.mono_l : ∀ k, (∀ a b c, LeO (laws_eqEndpointS.l0 k a b c) (laws_eqEndpointS.l0 (k + 1) a b c))
 | 0 => fun _ _ _ r h => by simp [laws_eqEndpointS.l0] at h
 | k + 1 => by
  have ih0 := laws_eqEndpointS.mono_l k
  ·intro a b c
   unfold laws_eqEndpointS.l0
   exact mo2_ ih0 laws_eqEndpoint.mono
theorem laws_eqEndpointS.mono : ∀ a b k, LeO (laws_eqEndpointS.f k a b) (laws_eqEndpointS.f (k + 1) a b) := by
 intro a b k
 have ih0 := laws_eqEndpointS.mono_l k
 unfold laws_eqEndpointS.f
 exact mo2_ ih0 laws_eqEndpoint.mono
def laws_eqEndpointS.T6 : Bool × List (List Nat × List Nat) := (true, [([], []), ([], []), ([0, 1], [0, 1]), ([2], [2]), ([], []), ([], []), ([4, 5], [4, 5]), ([6], [6]), ([3, 7], [3, 7]), ([8], [8])])
def laws_eqEndpointS.B6 : List Nat := [0, 0, 3, 7, 0, 0, 48, 112, 255, 511]
theorem laws_eqEndpointS.tab6 : rtab .any (opsOf Try.f35 6) = laws_eqEndpointS.T6 := by kernel_rfl
theorem laws_eqEndpointS.bits6 : waitsOk laws_eqEndpointS.T6.2 laws_eqEndpointS.B6 = true := by kernel_rfl
theorem laws_eqEndpointS.calls (k : Nat) (A0 : Option Addr) (c0 : Nat) (q : List (S50)) (A1 : Option Addr) (c1 : Nat) (s : List (S50)) (r : Bool) (w : World) (hr0 : Kd.C k50 w A0 q.length q) (av : q.length ≤ c0) (hr1 : Kd.C k50 w A1 s.length s) (aw : s.length ≤ c1) (h : laws_eqEndpointS.f k q s = some r) :
  Calls Try.prog 35 #[.slice A0 q.length c0, .slice A1 s.length c1] w fun e w' => e = .returned (.bool r) ∧ Below w.heap.size w w' := by
 have hu50 := Try.underlying50
 have az := Q_ hr0
 have aI := Q_ av
 clear hr0 av
 have aA := Q_ hr1
 have aJ := Q_ aw
 clear hr1 aw
 have HB := Q_ (Below.refl w.heap.size w)
 have H : (if (q.length : Int) = (s.length : Int) then (laws_eqEndpointS.l0 k q s 0) else (some false)) = some r := h
 clear h
 by_cases c3 : (q.length : Int) = (s.length : Int)
 rotate_left
 ·rw [if_neg c3] at H
  have an : ((q.length : Int) == (s.length : Int)) = false := beq_eq_false_iff_ne.mpr c3
  have ao : ((q.length : Int) != (s.length : Int)) = true := bne_iff_ne.mpr c3
  have ap : (q.length == s.length) = false := by first | simpa using c3 | (simp at c3 ⊢; omega)
  obtain rfl := Option.some.inj H
  go_enter Try.func35, Try.ntmps35
  go_wp2
  go_ret
  exact ⟨er_, pb_ HB.1⟩
 rw [if_pos c3] at H
 have an : ((q.length : Int) == (s.length : Int)) = true := beq_iff_eq.mpr c3
 have ao : ((q.length : Int) != (s.length : Int)) = false := bne_eq_false_iff_eq.mpr c3
 have ap : (q.length == s.length) = true := by first | simpa using c3 | (simp at c3 ⊢; omega)
 clear c3
 have H' := Q_ H
 clear H
 go_enter Try.func35, Try.ntmps35
 go_wp2
 go_loopg [5] k (fun kq v5 w' => ∃ (a : Int), v5 = .int .i64 a ∧ Aside0 (laws_eqEndpointS.l0 kq q s a = some r) ∧ Aside0 (kq ≤ k) ∧ Aside0 (Below w.heap.size w w'))
 case atStart => exact ⟨(0), el_, H', ⟨Nat.le_refl _⟩, ⟨pb_ HB.1⟩⟩
 clear H'
 obtain ⟨a, rfl, HA, am, HB⟩ := hrel
 rcases gk with _ | k1
 ·exact absurd HA.1 (by simp [laws_eqEndpointS.l0])
 have H := HA.1
 clear HA
 simp only [laws_eqEndpointS.l0] at H
 by_cases c4 : a < (q.length : Int)
 rotate_left
 ·rw [if_neg c4] at H
  have aq := decide_eq_false c4
  clear c4
  obtain rfl := Option.some.inj H
  go_wp2
  go_ret
  exact ⟨er_, pb_ HB.1⟩
 rw [if_pos c4] at H
 have aq := decide_eq_true c4
 clear c4
 by_cases c5 : 0 ≤ a
 rotate_left
 ·rw [if_neg c5] at H
  exact nn_ H
 rw [if_pos c5] at H
 have aF := decide_eq_true c5
 clear c5
 by_cases c6 : a < (s.length : Int)
 rotate_left
 ·rw [if_neg c6] at H
  exact nn_ H
 rw [if_pos c6] at H
 have aG := decide_eq_true c6
 clear c6
 obtain ⟨ak, A7, H⟩ := bs_ H
 (try dsimp only at H)
 have HS_ := Q_ H
 clear H
 try go_wp2
 have _ := Q_ (below_drew1 HB.1)
 clear HB
 rename_i HB
 have af : 0 ≤ (a : Int) := dt_
 have ah : a < (q.length : Int) := dt_
 obtain ⟨b, L, R, M, T, N, U, ar, d, g, i, j, Y, t, Z, u, aa, v⟩ := at_U50 az.1 a af ah
 have E := j
 have D := i
 have B := g
 have A := d
 cases ar
 replace d := bt_ HB d
 replace g := bt_ HB g
 replace i := bt_ HB i
 replace j := bt_ HB j
 replace af := eq_true af
 replace ah := eq_true ah
 have ag : 0 ≤ (a : Int) := dt_
 have ai : a < (s.length : Int) := dt_
 obtain ⟨c, O, V, P, W, Q, X, au, l, m, o, p, ab, x, ac, y, ad, z⟩ := at_U50 aA.1 a ag ai
 have J := p
 have I := o
 have G := m
 have F := l
 cases au
 replace l := bt_ HB l
 replace m := bt_ HB m
 replace o := bt_ HB o
 replace p := bt_ HB p
 replace ag := eq_true ag
 replace ai := eq_true ai
 refine start_ (n := 10) (S := fun w' => w'.cell? (b.add ((a).toNat * 4)) = some (.slice L ((rd_T50 q a).f0).length R) ∧ w'.cell? ⟨(b.add ((a).toNat * 4)).block, (b.add ((a).toNat * 4)).off + 1, none⟩ = some (.slice M ((rd_T50 q a).f1).length T) ∧ w'.cell? ⟨(b.add ((a).toNat * 4)).block, (b.add ((a).toNat * 4)).off + 2, none⟩ = some (.slice N ((rd_T50 q a).f2).length U) ∧ w'.cell? ⟨(b.add ((a).toNat * 4)).block, (b.add ((a).toNat * 4)).off + 3, none⟩ = some (.int .i64 ((rd_T50 q a).f3)) ∧ w'.cell? (c.add ((a).toNat * 4)) = some (.slice O ((rd_T50 s a).f0).length V) ∧ w'.cell? ⟨(c.add ((a).toNat * 4)).block, (c.add ((a).toNat * 4)).off + 1, none⟩ = some (.slice P ((rd_T50 s a).f1).length W) ∧ w'.cell? ⟨(c.add ((a).toNat * 4)).block, (c.add ((a).toNat * 4)).off + 2, none⟩ = some (.slice Q ((rd_T50 s a).f2).length X) ∧ w'.cell? ⟨(c.add ((a).toNat * 4)).block, (c.add ((a).toNat * 4)).off + 3, none⟩ = some (.int .i64 ((rd_T50 s a).f3))) (ds := []) (tf_ 0 10) (by kernel_rfl) rfl rfl ⟨(bt_ HB A), (bt_ HB B), (bt_ HB D), (bt_ HB E), (bt_ HB F), (bt_ HB G), (bt_ HB I), (bt_ HB J)⟩ (fun hHeld => ?_); refine with_tabW laws_eqEndpointS.tab6 laws_eqEndpointS.bits6 (fun HT_ HW_ => ?_)
 generalize wr.drew = w8 at HB t u v x y z d g i j l m o p hHeld ⊢
 refine pu1_ 0 17 10 1 ?_
 refine pu1_ 1 18 10 3 ?_
 refine pu1_ 2 19 10 7 ?_
 refine pu1_ 4 21 10 23 ?_
 refine pu1_ 5 22 10 55 ?_
 refine pu1_ 6 23 10 119 ?_
 refine ta1_ 3 20 10 127 hHeld ?_
 refine ta1_ 7 24 10 255 hHeld ?_
 refine on_ 8 (some 25) (tf_ 9 10) HT_ (fun K hK => ?_)
 refine goes_ Try.func69 (by kernel_rfl) rfl #[.agg #[.slice L ((rd_T50 q a).f0).length R, .slice M ((rd_T50 q a).f1).length T, .slice N ((rd_T50 q a).f2).length U, .int .i64 ((rd_T50 q a).f3)], .agg #[.slice O ((rd_T50 s a).f0).length V, .slice P ((rd_T50 s a).f1).length W, .slice Q ((rd_T50 s a).f2).length X, .int .i64 ((rd_T50 s a).f3)]] (by rfl) rfl rfl mp_ ?_
 with_reducible refine (laws_eqEndpoint.calls k1 _ _ ((rd_T50 q a).f0) _ _ ((rd_T50 q a).f1) _ _ ((rd_T50 q a).f2) ((rd_T50 q a).f3) _ _ ((rd_T50 s a).f0) _ _ ((rd_T50 s a).f1) _ _ ((rd_T50 s a).f2) ((rd_T50 s a).f3) ak _ (cb_ t HB) Y.1 (cb_ u HB) Z.1 (cb_ v HB) aa.1 (cb_ x HB) ab.1 (cb_ y HB) ac.1 (cb_ z HB) ad.1 A7.1).mono ?_
 rintro e w9 ⟨rfl, hb⟩
 refine ⟨_, rfl, ?_⟩
 have _ := Q_ (below_step (pb_ HB.1) hb)
 clear HB
 rename_i HB
 (try clear hb)
 refine hK.out _ _ ⟨(bt_ HB A), (bt_ HB B), (bt_ HB D), (bt_ HB E), (bt_ HB F), (bt_ HB G), (bt_ HB I), (bt_ HB J)⟩ (fun hHeld => ?_)
 clear hK K
 refine no_ (some 25) ?_
 refine pu1_ 9 26 10 1023 ?_
 refine done_ (done_of HT_.1 (by kernel_rfl)) ?_
 go_upto_if 26 with (fail)
 have H := HS_.1
 clear HS_
 by_cases aj : ak = true
 rotate_left
 ·replace aj := bf_ aj
  subst aj
  rw [if_neg ff_] at H
  obtain rfl := Option.some.inj H
  go_wp2
  go_ret
  exact ⟨er_, pb_ HB.1⟩
 subst aj
 rw [if_pos rfl] at H
 have H' := Q_ H
 clear H
 go_wp2
 go_roundg k1
 case measure => have := am.1; omega
 case rel => exact ⟨(wrap64 (a + 1)), el_, H', ⟨by have := am.1; omega⟩, ⟨pb_ HB.1⟩⟩

/-! ### laws_eqRollout: function 36 -/
def laws_eqRollout.f (k : Nat) (b : Int) (h : List Int) (c : Int) (d : Bool) (e : Int) (i : List Int) (g : Int) (a : Bool) : Option (Bool) := if b = e then ((laws_eqIntS.f k h i).bind fun j => (if j = true then (if c = g then (if d = true then (if a = true then (some true) else (some false)) else (if a = true then (some false) else (some true))) else (some false)) else (some false))) else (some false)
theorem laws_eqRollout.mono : ∀ a b c d e g h i k, LeO (laws_eqRollout.f k a b c d e g h i) (laws_eqRollout.f (k + 1) a b c d e g h i) := by
 intro a b c d e g h i k
 unfold laws_eqRollout.f
 exact mo1_ laws_eqIntS.mono
theorem laws_eqRollout.calls (k : Nat) (j : Int) (z : Option Addr) (B : Nat) (o : List Int) (l : Int) (u : Bool) (m : Int) (A : Option Addr) (D : Nat) (p : List Int) (n : Int) (q : Bool) (r : Bool) (w : World) (hr0_1 : Kd.C (Kd.int .i64) w z o.length o) (F : o.length ≤ B) (hr1_1 : Kd.C (Kd.int .i64) w A p.length p) (G : p.length ≤ D) (h : laws_eqRollout.f k j o l u m p n q = some r) :
  Calls Try.prog 36 #[.agg #[.int .i64 j, .slice z o.length B, .int .i64 l, .bool u], .agg #[.int .i64 m, .slice A p.length D, .int .i64 n, .bool q]] w fun e w' => e = .returned (.bool r) ∧ Below w.heap.size w w' := by
 have hu33 := Try.underlying33
 have R := Q_ hr0_1
 have P := Q_ F
 clear hr0_1 F
 have S := Q_ hr1_1
 have Q := Q_ G
 clear hr1_1 G
 have HB := Q_ (Below.refl w.heap.size w)
 have H : (if j = m then ((laws_eqIntS.f k o p).bind fun E => (if E = true then (if l = n then (if u = true then (if q = true then (some true) else (some false)) else (if q = true then (some false) else (some true))) else (some false)) else (some false))) else (some false)) = some r := h
 clear h
 have HS_ := Q_ H
 clear H
 go_enter Try.func36, Try.ntmps36
 go_upto_region 1 with (first | ((with_reducible refine gate_dst (N := 2) rfl ?_); refine bx_ 2 #[.int .i64 j, .slice z o.length B, .int .i64 l, .bool u] 33 ?_; intro U hg w3 hbox hb; have _ := Q_ (below_step (pb_ HB.1) hb); have c := Q_ (hbox); have M := Q_ (gw_ (w := w) hg (pb_ HB.1)); have d := M; clear HB; rename_i HB; clear hb hbox hg) | ((with_reducible refine gate_dst (N := 3) rfl ?_); refine bx_ 3 #[.int .i64 m, .slice A p.length D, .int .i64 n, .bool q] 33 ?_; intro V hg w4 hbox hb; have _ := Q_ (bb_ c.1 hb); have _ := Q_ (below_step (pb1_ HB.1 d.1) hb); have g := Q_ (hbox); have O := Q_ (gw_ (w := w) hg (pb1_ HB.1 d.1)); have i := O; have a := Q_ (nb_ hg c); have b := Q_ a.1.symm; clear c HB; rename_i c HB; clear hb hbox hg))
 (try simp only [Act.put, s1_, s2_, s3_])
 have H := HS_.1
 clear HS_
 by_cases T : j = m
 rotate_left
 ·rw [if_neg T] at H
  have v : (j == m) = false := beq_eq_false_iff_ne.mpr T
  have x : (j != m) = true := bne_iff_ne.mpr T
  (first | rw [v] | (simp only [i64_w, i32_w]; rw [v]) | rw [x] | (have c_ := x; rw [bne] at c_; rw [c_]; clear c_) | skip)
  obtain rfl := Option.some.inj H
  have ay := a.1
  have az := b.1
  have aw := bc4_ c.1
  have ax := bc4_ g.1
  go_wp2
  go_ret
  exact ⟨er_, pb2_ HB.1 d.1 i.1⟩
 rw [if_pos T] at H
 have v : (j == m) = true := beq_iff_eq.mpr T
 have x : (j != m) = false := bne_eq_false_iff_eq.mpr T
 clear T
 (first | rw [v] | (simp only [i64_w, i32_w]; rw [v]) | rw [x] | (have c_ := x; rw [bne] at c_; rw [c_]; clear c_) | skip)
 obtain ⟨E, A9, H⟩ := bs_ H
 (try dsimp only at H)
 have HS_ := Q_ H
 clear H
 have ai := a.1
 have ao := b.1
 have W := bc4_ c.1
 have X := bc4_ g.1
 go_upto_if 15 with (first | ((with_reducible refine gate_callee (f := 34) rfl ?_); refine gl_ (some 14) Try.func34 #[.slice z o.length B, .slice A p.length D] ?_; (with_reducible refine (laws_eqIntS.calls k _ _ o _ _ p E _ (cb_ R HB) P.1 (cb_ S HB) Q.1 A9.1).mono ?_); rintro e w' ⟨rfl, ⟨nd, rfl⟩⟩; refine ⟨_, rfl, ?_⟩))
 (try simp only [Act.put, s1_, s2_, s3_])
 have H := HS_.1
 clear HS_
 by_cases I : E = true
 rotate_left
 ·replace I := bf_ I
  subst I
  rw [if_neg ff_] at H
  obtain rfl := Option.some.inj H
  go_wp2
  go_ret
  exact ⟨er_, pb2_ HB.1 d.1 i.1⟩
 subst I
 rw [if_pos rfl] at H
 by_cases y : l = n
 rotate_left
 ·rw [if_neg y] at H
  have s : (l == n) = false := beq_eq_false_iff_ne.mpr y
  have t : (l != n) = true := bne_iff_ne.mpr y
  (first | rw [s] | (simp only [i64_w, i32_w]; rw [s]) | rw [t] | (have c_ := t; rw [bne] at c_; rw [c_]; clear c_) | skip)
  obtain rfl := Option.some.inj H
  have aj := a.1
  have ap := b.1
  have Y := bc4_ c.1
  have Z := bc4_ g.1
  go_wp2
  go_ret
  exact ⟨er_, pb2_ HB.1 d.1 i.1⟩
 rw [if_pos y] at H
 have s : (l == n) = true := beq_iff_eq.mpr y
 have t : (l != n) = false := bne_eq_false_iff_eq.mpr y
 clear y
 (first | rw [s] | (simp only [i64_w, i32_w]; rw [s]) | rw [t] | (have c_ := t; rw [bne] at c_; rw [c_]; clear c_) | skip)
 by_cases J : u = true
 rotate_left
 ·replace J := bf_ J
  subst J
  rw [if_neg ff_] at H
  by_cases K : q = true
  rotate_left
  ·replace K := bf_ K
   subst K
   rw [if_neg ff_] at H
   obtain rfl := Option.some.inj H
   have ak := a.1
   have aq := b.1
   have aa := bc4_ c.1
   have ab := bc4_ g.1
   go_wp2
   go_ret
   exact ⟨er_, pb2_ HB.1 d.1 i.1⟩
  subst K
  rw [if_pos rfl] at H
  obtain rfl := Option.some.inj H
  have al := a.1
  have ar := b.1
  have ac := bc4_ c.1
  have ad := bc4_ g.1
  go_wp2
  go_ret
  exact ⟨er_, pb2_ HB.1 d.1 i.1⟩
 subst J
 rw [if_pos rfl] at H
 by_cases L : q = true
 rotate_left
 ·replace L := bf_ L
  subst L
  rw [if_neg ff_] at H
  obtain rfl := Option.some.inj H
  have am := a.1
  have au := b.1
  have ae := bc4_ c.1
  have af := bc4_ g.1
  go_wp2
  go_ret
  exact ⟨er_, pb2_ HB.1 d.1 i.1⟩
 subst L
 rw [if_pos rfl] at H
 obtain rfl := Option.some.inj H
 have an := a.1
 have av := b.1
 have ag := bc4_ c.1
 have ah := bc4_ g.1
 go_wp2
 go_ret
 exact ⟨er_, pb2_ HB.1 d.1 i.1⟩

/-! ### laws_eqDeal: function 91 -/
def laws_eqDeal.f (k : Nat) (g : Bool) (a : Int) (d : List Int) (b : Bool) (c : Int) (e : List Int) : Option (Bool) := if g = true then (if b = true then (if a = c then ((laws_eqIntS.f k d e).bind fun h => (if h = true then (some true) else (some false))) else (some false)) else (some false)) else (if b = true then (some false) else (if a = c then ((laws_eqIntS.f k d e).bind fun i => (if i = true then (some true) else (some false))) else (some false)))
theorem laws_eqDeal.mono : ∀ a b c d e g k, LeO (laws_eqDeal.f k a b c d e g) (laws_eqDeal.f (k + 1) a b c d e g) := by
 intro a b c d e g k
 unfold laws_eqDeal.f
 exact mo1_ laws_eqIntS.mono
theorem laws_eqDeal.calls (k : Nat) (u : Bool) (c : Int) (s : Option Addr) (v : Nat) (j : List Int) (o : Bool) (d : Int) (t : Option Addr) (x : Nat) (l : List Int) (r : Bool) (w : World) (hr0_2 : Kd.C (Kd.int .i64) w s j.length j) (I : j.length ≤ v) (hr1_2 : Kd.C (Kd.int .i64) w t l.length l) (J : l.length ≤ x) (h : laws_eqDeal.f k u c j o d l = some r) :
  Calls Try.prog 91 #[.agg #[.bool u, .int .i64 c, .slice s j.length v], .agg #[.bool o, .int .i64 d, .slice t l.length x]] w fun e w' => e = .returned (.bool r) ∧ Below w.heap.size w w' := by
 have hu53 := Try.underlying53
 have F := Q_ hr0_2
 have D := Q_ I
 clear hr0_2 I
 have G := Q_ hr1_2
 have E := Q_ J
 clear hr1_2 J
 have HB := Q_ (Below.refl w.heap.size w)
 have H : (if u = true then (if o = true then (if c = d then ((laws_eqIntS.f k j l).bind fun y => (if y = true then (some true) else (some false))) else (some false)) else (some false)) else (if o = true then (some false) else (if c = d then ((laws_eqIntS.f k j l).bind fun z => (if z = true then (some true) else (some false))) else (some false)))) = some r := h
 clear h
 have HS_ := Q_ H
 clear H
 go_enter Try.func91, Try.ntmps91
 go_upto_region 1 with (first | ((with_reducible refine gate_dst (N := 2) rfl ?_); refine bx_ 2 #[.bool u, .int .i64 c, .slice s j.length v] 53 ?_; intro W hg w3 hbox hb; have _ := Q_ (below_step (pb_ HB.1) hb); have g := Q_ (hbox); have O := Q_ (gw_ (w := w) hg (pb_ HB.1)); have i := O; clear HB; rename_i HB; clear hb hbox hg) | ((with_reducible refine gate_dst (N := 3) rfl ?_); refine bx_ 3 #[.bool o, .int .i64 d, .slice t l.length x] 53 ?_; intro X hg w4 hbox hb; have _ := Q_ (bb_ g.1 hb); have _ := Q_ (below_step (pb1_ HB.1 i.1) hb); have n := Q_ (hbox); have P := Q_ (gw_ (w := w) hg (pb1_ HB.1 i.1)); have m := P; have a := Q_ (nb_ hg g); have b := Q_ a.1.symm; clear g HB; rename_i g HB; clear hb hbox hg))
 (try simp only [Act.put, s1_, s2_, s3_])
 have H := HS_.1
 clear HS_
 by_cases S : u = true
 rotate_left
 ·replace S := bf_ S
  subst S
  rw [if_neg ff_] at H
  by_cases T : o = true
  ·subst T
   rw [if_pos rfl] at H
   obtain rfl := Option.some.inj H
   have aw := a.1
   have ax := b.1
   have au := bc3_ g.1
   have av := bc3_ n.1
   go_wp2
   go_ret
   exact ⟨er_, pb2_ HB.1 i.1 m.1⟩
  replace T := bf_ T
  subst T
  rw [if_neg ff_] at H
  by_cases A : c = d
  rotate_left
  ·rw [if_neg A] at H
   have p : (c == d) = false := beq_eq_false_iff_ne.mpr A
   have q : (c != d) = true := bne_iff_ne.mpr A
   (first | rw [p] | (simp only [i64_w, i32_w]; rw [p]) | rw [q] | (have c_ := q; rw [bne] at c_; rw [c_]; clear c_) | skip)
   obtain rfl := Option.some.inj H
   have ai := a.1
   have an := b.1
   have Y := bc3_ g.1
   have Z := bc3_ n.1
   go_wp2
   go_ret
   exact ⟨er_, pb2_ HB.1 i.1 m.1⟩
  rw [if_pos A] at H
  have p : (c == d) = true := beq_iff_eq.mpr A
  have q : (c != d) = false := bne_eq_false_iff_eq.mpr A
  clear A
  (first | rw [p] | (simp only [i64_w, i32_w]; rw [p]) | rw [q] | (have c_ := q; rw [bne] at c_; rw [c_]; clear c_) | skip)
  obtain ⟨z, U, H⟩ := bs_ H
  replace H : (if z = true then (some true) else (some false)) = some r := H
  have HS_ := Q_ H
  clear H
  have aj := a.1
  have ao := b.1
  have aa := bc3_ g.1
  have ab := bc3_ n.1
  go_upto_if 20 with (first | ((with_reducible refine gate_callee (f := 34) rfl ?_); refine gl_ (some 19) Try.func34 #[.slice s j.length v, .slice t l.length x] ?_; (with_reducible refine (laws_eqIntS.calls k _ _ j _ _ l z _ (cb_ F HB) D.1 (cb_ G HB) E.1 U.1).mono ?_); rintro e w' ⟨rfl, ⟨nd, rfl⟩⟩; refine ⟨_, rfl, ?_⟩))
  (try simp only [Act.put, s1_, s2_, s3_])
  have H := HS_.1
  clear HS_
  by_cases K : z = true
  rotate_left
  ·replace K := bf_ K
   subst K
   rw [if_neg ff_] at H
   obtain rfl := Option.some.inj H
   go_wp2
   go_ret
   exact ⟨er_, pb2_ HB.1 i.1 m.1⟩
  subst K
  rw [if_pos rfl] at H
  obtain rfl := Option.some.inj H
  go_wp2
  go_ret
  exact ⟨er_, pb2_ HB.1 i.1 m.1⟩
 subst S
 rw [if_pos rfl] at H
 by_cases L : o = true
 rotate_left
 ·replace L := bf_ L
  subst L
  rw [if_neg ff_] at H
  obtain rfl := Option.some.inj H
  have ak := a.1
  have ap := b.1
  have ac := bc3_ g.1
  have ad := bc3_ n.1
  go_wp2
  go_ret
  exact ⟨er_, pb2_ HB.1 i.1 m.1⟩
 subst L
 rw [if_pos rfl] at H
 by_cases B : c = d
 rotate_left
 ·rw [if_neg B] at H
  have Q : (c == d) = false := beq_eq_false_iff_ne.mpr B
  have R : (c != d) = true := bne_iff_ne.mpr B
  obtain rfl := Option.some.inj H
  have al := a.1
  have aq := b.1
  have ae := bc3_ g.1
  have af := bc3_ n.1
  go_wp2
  go_ret
  exact ⟨er_, pb2_ HB.1 i.1 m.1⟩
 rw [if_pos B] at H
 have Q : (c == d) = true := beq_iff_eq.mpr B
 have R : (c != d) = false := bne_eq_false_iff_eq.mpr B
 clear B
 obtain ⟨y, V, H⟩ := bs_ H
 replace H : (if y = true then (some true) else (some false)) = some r := H
 have HS_ := Q_ H
 clear H
 have am := a.1
 have ar := b.1
 have ag := bc3_ g.1
 have ah := bc3_ n.1
 go_upto_if 20 with (first | ((with_reducible refine gate_callee (f := 34) rfl ?_); refine gl_ (some 19) Try.func34 #[.slice s j.length v, .slice t l.length x] ?_; (with_reducible refine (laws_eqIntS.calls k _ _ j _ _ l y _ (cb_ F HB) D.1 (cb_ G HB) E.1 V.1).mono ?_); rintro e w' ⟨rfl, ⟨nd, rfl⟩⟩; refine ⟨_, rfl, ?_⟩))
 (try simp only [Act.put, s1_, s2_, s3_])
 have H := HS_.1
 clear HS_
 by_cases M : y = true
 rotate_left
 ·replace M := bf_ M
  subst M
  rw [if_neg ff_] at H
  obtain rfl := Option.some.inj H
  go_wp2
  go_ret
  exact ⟨er_, pb2_ HB.1 i.1 m.1⟩
 subst M
 rw [if_pos rfl] at H
 obtain rfl := Option.some.inj H
 go_wp2
 go_ret
 exact ⟨er_, pb2_ HB.1 i.1 m.1⟩

/-! ### laws_eqDialed: function 70 -/
def laws_eqDialed.f (k : Nat) (a : Bool) (b : Int) (h : List Int) (c : Int) (i : List Int) (d : Bool) (e : Int) (j : List Int) (g : Int) (l : List Int) : Option (Bool) := (laws_eqDeal.f k a b h d e j).bind fun m => (if m = true then (if c = g then ((laws_eqIntS.f k i l).bind fun n => (if n = true then (some true) else (some false))) else (some false)) else (some false))
theorem laws_eqDialed.mono : ∀ a b c d e g h i j l k, LeO (laws_eqDialed.f k a b c d e g h i j l) (laws_eqDialed.f (k + 1) a b c d e g h i j l) := by
 intro a b c d e g h i j l k
 unfold laws_eqDialed.f
 exact mo2_ laws_eqDeal.mono laws_eqIntS.mono
theorem laws_eqDialed.calls (k : Nat) (t : Bool) (u : Int) (A : Option Addr) (F : Nat) (j : List Int) (g : Int) (B : Option Addr) (G : Nat) (l : List Int) (v : Bool) (x : Int) (D : Option Addr) (I : Nat) (m : List Int) (i : Int) (E : Option Addr) (J : Nat) (n : List Int) (r : Bool) (w : World) (hr0_2 : Kd.C (Kd.int .i64) w A j.length j) (L : j.length ≤ F) (hr0_4 : Kd.C (Kd.int .i64) w B l.length l) (M : l.length ≤ G) (hr1_2 : Kd.C (Kd.int .i64) w D m.length m) (O : m.length ≤ I) (hr1_4 : Kd.C (Kd.int .i64) w E n.length n) (P : n.length ≤ J) (h : laws_eqDialed.f k t u j g l v x m i n = some r) :
  Calls Try.prog 70 #[.agg #[.bool t, .int .i64 u, .slice A j.length F, .int .i64 g, .slice B l.length G], .agg #[.bool v, .int .i64 x, .slice D m.length I, .int .i64 i, .slice E n.length J]] w fun e w' => e = .returned (.bool r) ∧ Below w.heap.size w w' := by
 have hu55 := Try.underlying55
 have hu53 := Try.underlying53
 have Y := Q_ hr0_2
 have U := Q_ L
 clear hr0_2 L
 have Z := Q_ hr0_4
 have V := Q_ M
 clear hr0_4 M
 have aa := Q_ hr1_2
 have W := Q_ O
 clear hr1_2 O
 have ab := Q_ hr1_4
 have X := Q_ P
 clear hr1_4 P
 have HB := Q_ (Below.refl w.heap.size w)
 have H : ((laws_eqDeal.f k t u j v x m).bind fun K => (if K = true then (if g = i then ((laws_eqIntS.f k l n).bind fun y => (if y = true then (some true) else (some false))) else (some false)) else (some false))) = some r := h
 clear h
 have HS_ := Q_ H
 clear H
 go_enter Try.func70, Try.ntmps70
 go_upto_region 1 with (first | ((with_reducible refine gate_dst (N := 2) rfl ?_); refine bx_ 2 #[.bool t, .int .i64 u, .slice A j.length F, .int .i64 g, .slice B l.length G] 55 ?_; intro ad hg w3 hbox hb; have _ := Q_ (below_step (pb_ HB.1) hb); have a := Q_ (hbox); have S := Q_ (gw_ (w := w) hg (pb_ HB.1)); have c := S; clear HB; rename_i HB; clear hb hbox hg) | ((with_reducible refine gate_dst (N := 3) rfl ?_); refine bx_ 3 #[.bool v, .int .i64 x, .slice D m.length I, .int .i64 i, .slice E n.length J] 55 ?_; intro ae hg w4 hbox hb; have _ := Q_ (bb_ a.1 hb); have _ := Q_ (below_step (pb1_ HB.1 c.1) hb); have o := Q_ (hbox); have T := Q_ (gw_ (w := w) hg (pb1_ HB.1 c.1)); have p := T; have b := Q_ (nb_ hg a); have d := Q_ b.1.symm; clear a HB; rename_i a HB; clear hb hbox hg))
 (try simp only [Act.put, s1_, s2_, s3_])
 have H := HS_.1
 clear HS_
 obtain ⟨K, A5, H⟩ := bs_ H
 (try dsimp only at H)
 have HS_ := Q_ H
 clear H
 have ap := b.1
 have aq := d.1
 have an := bc5_ a.1
 have ao := bc5_ o.1
 go_upto_if 10 with (first | ((with_reducible refine gate_callee (f := 91) rfl ?_); refine gl_ (some 9) Try.func91 #[.agg #[.bool t, .int .i64 u, .slice A j.length F], .agg #[.bool v, .int .i64 x, .slice D m.length I]] ?_; (with_reducible refine (laws_eqDeal.calls k t u _ _ j v x _ _ m K _ (cb_ Y HB) U.1 (cb_ aa HB) W.1 A5.1).mono ?_); rintro e w9 ⟨rfl, hb⟩; refine ⟨_, rfl, ?_⟩; have _ := Q_ (bb_ a.1 hb); have _ := Q_ (bb_ o.1 hb); have _ := Q_ (below_step (pb2_ HB.1 c.1 p.1) hb); clear a o HB; rename_i a o HB; (try clear hb)))
 (try simp only [Act.put, s1_, s2_, s3_])
 have H := HS_.1
 clear HS_
 by_cases Q : K = true
 rotate_left
 ·replace Q := bf_ Q
  subst Q
  rw [if_neg ff_] at H
  obtain rfl := Option.some.inj H
  go_wp2
  go_ret
  exact ⟨er_, pb2_ HB.1 c.1 p.1⟩
 subst Q
 rw [if_pos rfl] at H
 by_cases z : g = i
 rotate_left
 ·rw [if_neg z] at H
  have q : (g == i) = false := beq_eq_false_iff_ne.mpr z
  have s : (g != i) = true := bne_iff_ne.mpr z
  (first | rw [q] | (simp only [i64_w, i32_w]; rw [q]) | rw [s] | (have c_ := s; rw [bne] at c_; rw [c_]; clear c_) | skip)
  obtain rfl := Option.some.inj H
  have aj := b.1
  have al := d.1
  have af := bc5_ a.1
  have ag := bc5_ o.1
  go_wp2
  go_ret
  exact ⟨er_, pb2_ HB.1 c.1 p.1⟩
 rw [if_pos z] at H
 have q : (g == i) = true := beq_iff_eq.mpr z
 have s : (g != i) = false := bne_eq_false_iff_eq.mpr z
 clear z
 (first | rw [q] | (simp only [i64_w, i32_w]; rw [q]) | rw [s] | (have c_ := s; rw [bne] at c_; rw [c_]; clear c_) | skip)
 obtain ⟨y, ac, H⟩ := bs_ H
 replace H : (if y = true then (some true) else (some false)) = some r := H
 have HS_ := Q_ H
 clear H
 have ak := b.1
 have am := d.1
 have ah := bc5_ a.1
 have ai := bc5_ o.1
 go_upto_if 21 with (first | ((with_reducible refine gate_callee (f := 34) rfl ?_); refine gl_ (some 20) Try.func34 #[.slice B l.length G, .slice E n.length J] ?_; (with_reducible refine (laws_eqIntS.calls k _ _ l _ _ n y _ (cb_ Z HB) V.1 (cb_ ab HB) X.1 ac.1).mono ?_); rintro e w' ⟨rfl, ⟨nd, rfl⟩⟩; refine ⟨_, rfl, ?_⟩))
 (try simp only [Act.put, s1_, s2_, s3_])
 have H := HS_.1
 clear HS_
 by_cases R : y = true
 rotate_left
 ·replace R := bf_ R
  subst R
  rw [if_neg ff_] at H
  obtain rfl := Option.some.inj H
  go_wp2
  go_ret
  exact ⟨er_, pb2_ HB.1 c.1 p.1⟩
 subst R
 rw [if_pos rfl] at H
 obtain rfl := Option.some.inj H
 go_wp2
 go_ret
 exact ⟨er_, pb2_ HB.1 c.1 p.1⟩

end Go.Proofs.Ytchnkakjjbfklaa.Print
