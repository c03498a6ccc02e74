-- Written by a program of this session (printx.py) out of the translation; Lean checks it.
import Derived.Test.YtfhndlgbjhffiaaPrint0
import Derived.Test.YtfhndlgbjhffiaaPrint3
import Derived.Test.YtfhndlgbjhffiaaPrint4
import Derived.Test.YtfhndlgbjhffiaaPrint5
namespace Go.Proofs.Ytfhndlgbjhffiaa.Print
open Go.RowKit Go.Proofs.YtfhndlgbjhffiaaW.PrintWords Go.Proofs.YtfhndlgbjhffiaaW.PrintLast Go.Proofs.YtfhndlgbjhffiaaW.PrintMore Go.Proofs.Ytfhndlgbjhffiaa.Short
attribute [local go_sem] max2_int min2_int max_two min_two max_three min_three max_four min_four   -- for this text's walks alone
set_option linter.unusedVariables false
set_option maxHeartbeats 8000000
set_option maxRecDepth 100000
set_option linter.unusedSimpArgs false

/-! ### laws_eqLoggedS: function 34 -/
def laws_eqLoggedS.l0 : Nat → List (S89) → List (S89) → Int → Option (Bool)
 | 0, _, _, _ => none
 | k + 1, b, c, a => if a < (b.length : Int) then (if 0 ≤ a then (if a < (c.length : Int) then ((laws_eqLogged.f k ((rd_T89 b a).f0) ((rd_T89 b a).f1) ((rd_T89 b a).f2) ((rd_T89 b a).f3.f0.f0) ((rd_T89 b a).f3.f0.f1) ((rd_T89 b a).f3.f0.f2) ((rd_T89 b a).f3.f1) ((rd_T89 b a).f3.f2) ((rd_T89 c a).f0) ((rd_T89 c a).f1) ((rd_T89 c a).f2) ((rd_T89 c a).f3.f0.f0) ((rd_T89 c a).f3.f0.f1) ((rd_T89 c a).f3.f0.f2) ((rd_T89 c a).f3.f1) ((rd_T89 c a).f3.f2)).bind fun d => (if d = true then (laws_eqLoggedS.l0 k b c (wrap64 (a + 1))) else (some false))) else (none)) else (none)) else (some true)
def laws_eqLoggedS.f (k : Nat) (a : List (S89)) (b : List (S89)) : Option (Bool) := if (a.length : Int) = (b.length : Int) then (laws_eqLoggedS.l0 k a b 0) else (some false)
theorem laws_eqLoggedS.mono_l : ∀ k, (∀ a b c, LeO (laws_eqLoggedS.l0 k a b c) (laws_eqLoggedS.l0 (k + 1) a b c))
 | 0 => fun _ _ _ r h => by simp [laws_eqLoggedS.l0] at h
 | k + 1 => by
  have ih0 := laws_eqLoggedS.mono_l k
  ·intro a b c
   unfold laws_eqLoggedS.l0
   exact mo2_ ih0 laws_eqLogged.mono
theorem laws_eqLoggedS.mono : ∀ a b k, LeO (laws_eqLoggedS.f k a b) (laws_eqLoggedS.f (k + 1) a b) := by
 intro a b k
 have ih0 := laws_eqLoggedS.mono_l k
 unfold laws_eqLoggedS.f
 exact mo2_ ih0 laws_eqLogged.mono
def laws_eqLoggedS.T6 : Bool × List (List Nat × List Nat) := (true, [([], []), ([], []), ([0, 1], [0, 1]), ([2], [2]), ([], []), ([], []), ([4, 5], [4, 5]), ([6], [6]), ([3, 7], [3, 7]), ([8], [8])])
def laws_eqLoggedS.B6 : List Nat := [0, 0, 3, 7, 0, 0, 48, 112, 255, 511]
theorem laws_eqLoggedS.tab6 : rtab .any (opsOf Try.f34 6) = laws_eqLoggedS.T6 := by kernel_rfl
theorem laws_eqLoggedS.bits6 : waitsOk laws_eqLoggedS.T6.2 laws_eqLoggedS.B6 = true := by kernel_rfl
theorem laws_eqLoggedS.calls (k : Nat) (A0 : Option Addr) (c0 : Nat) (d : List (S89)) (A1 : Option Addr) (c1 : Nat) (g : List (S89)) (r : Bool) (w : World) (hr0 : Kd.C k89 w A0 d.length d) (aD : d.length ≤ c0) (hr1 : Kd.C k89 w A1 g.length g) (aE : g.length ≤ c1) (h : laws_eqLoggedS.f k d g = some r) :
  Calls Try.prog 34 #[.slice A0 d.length c0, .slice A1 g.length c1] w fun e w' => e = .returned (.bool r) ∧ Below w.heap.size w w' := by
 have hu89 := Try.underlying89
 have aH := Q_ hr0
 have aQ := Q_ aD
 clear hr0 aD
 have aI := Q_ hr1
 have aR := Q_ aE
 clear hr1 aE
 have HB := Q_ (Below.refl w.heap.size w)
 have H : (if (d.length : Int) = (g.length : Int) then (laws_eqLoggedS.l0 k d g 0) else (some false)) = some r := h
 clear h
 by_cases c3 : (d.length : Int) = (g.length : Int)
 rotate_left
 ·rw [if_neg c3] at H
  have ax : ((d.length : Int) == (g.length : Int)) = false := beq_eq_false_iff_ne.mpr c3
  have ay : ((d.length : Int) != (g.length : Int)) = true := bne_iff_ne.mpr c3
  have az : (d.length == g.length) = false := by first | simpa using c3 | (simp at c3 ⊢; omega)
  obtain rfl := Option.some.inj H
  go_enter Try.func34, Try.ntmps34
  go_wp2
  go_ret
  exact ⟨er_, pb_ HB.1⟩
 rw [if_pos c3] at H
 have ax : ((d.length : Int) == (g.length : Int)) = true := beq_iff_eq.mpr c3
 have ay : ((d.length : Int) != (g.length : Int)) = false := bne_eq_false_iff_eq.mpr c3
 have az : (d.length == g.length) = true := by first | simpa using c3 | (simp at c3 ⊢; omega)
 clear c3
 have H' := Q_ H
 clear H
 go_enter Try.func34, Try.ntmps34
 go_wp2
 go_loopg [5] k (fun kq v5 w' => ∃ (a : Int), v5 = .int .i64 a ∧ Aside0 (laws_eqLoggedS.l0 kq d g a = some r) ∧ Aside0 (kq ≤ k) ∧ Aside0 (Below w.heap.size w w'))
 case atStart => exact ⟨(0), el_, H', ⟨Nat.le_refl _⟩, ⟨pb_ HB.1⟩⟩
 clear H'
 obtain ⟨a, rfl, HA, aw, HB⟩ := hrel
 rcases gk with _ | k1
 ·exact absurd HA.1 (by simp [laws_eqLoggedS.l0])
 have H := HA.1
 clear HA
 simp only [laws_eqLoggedS.l0] at H
 by_cases c4 : a < (d.length : Int)
 rotate_left
 ·rw [if_neg c4] at H
  have aA := decide_eq_false c4
  clear c4
  obtain rfl := Option.some.inj H
  go_wp2
  go_ret
  exact ⟨er_, pb_ HB.1⟩
 rw [if_pos c4] at H
 have aA := decide_eq_true c4
 clear c4
 by_cases c5 : 0 ≤ a
 rotate_left
 ·rw [if_neg c5] at H
  exact nn_ H
 rw [if_pos c5] at H
 have aN := decide_eq_true c5
 clear c5
 by_cases c6 : a < (g.length : Int)
 rotate_left
 ·rw [if_neg c6] at H
  exact nn_ H
 rw [if_pos c6] at H
 have aO := decide_eq_true c6
 clear c6
 obtain ⟨au, A7, H⟩ := bs_ H
 (try dsimp only at H)
 have HS_ := Q_ H
 clear H
 try go_wp2
 have _ := Q_ (below_drew1 HB.1)
 clear HB
 rename_i HB
 have an : 0 ≤ (a : Int) := dt_
 have ap : a < (d.length : Int) := dt_
 obtain ⟨b, aa, ae, ab, af, aB, i, j, l, m, o, p, q, s, ai, D, aj, E⟩ := at_U89 aH.1 a an ap
 have Q := s
 have P := q
 have O := p
 have N := o
 have M := m
 have L := l
 have J := j
 have I := i
 cases aB
 replace i := bt_ HB i
 replace j := bt_ HB j
 replace l := bt_ HB l
 replace m := bt_ HB m
 replace o := bt_ HB o
 replace p := bt_ HB p
 replace q := bt_ HB q
 replace s := bt_ HB s
 replace an := eq_true an
 replace ap := eq_true ap
 have ao : 0 ≤ (a : Int) := dt_
 have aq : a < (g.length : Int) := dt_
 obtain ⟨c, ac, ag, ad, ah, aC, t, u, v, x, y, z, A, B, ak, F, al, G⟩ := at_U89 aI.1 a ao aq
 have Z := B
 have Y := A
 have X := z
 have W := y
 have V := x
 have U := v
 have T := u
 have R := t
 cases aC
 replace t := bt_ HB t
 replace u := bt_ HB u
 replace v := bt_ HB v
 replace x := bt_ HB x
 replace y := bt_ HB y
 replace z := bt_ HB z
 replace A := bt_ HB A
 replace B := bt_ HB B
 replace ao := eq_true ao
 replace aq := eq_true aq
 refine start_ (n := 10) (S := fun w' => w'.cell? (b.add ((a).toNat * 8)) = some (.int .i64 ((rd_T89 d a).f0)) ∧ w'.cell? ⟨(b.add ((a).toNat * 8)).block, (b.add ((a).toNat * 8)).off + 1, none⟩ = some (.int .i64 ((rd_T89 d a).f1)) ∧ w'.cell? ⟨(b.add ((a).toNat * 8)).block, (b.add ((a).toNat * 8)).off + 2, none⟩ = some (.bool ((rd_T89 d a).f2)) ∧ w'.cell? ⟨(b.add ((a).toNat * 8)).block, (b.add ((a).toNat * 8)).off + 3, none⟩ = some (.bool ((rd_T89 d a).f3.f0.f0)) ∧ w'.cell? ⟨(b.add ((a).toNat * 8)).block, (b.add ((a).toNat * 8)).off + 4, none⟩ = some (.int .i64 ((rd_T89 d a).f3.f0.f1)) ∧ w'.cell? ⟨(b.add ((a).toNat * 8)).block, (b.add ((a).toNat * 8)).off + 5, none⟩ = some (.slice aa ((rd_T89 d a).f3.f0.f2).length ae) ∧ w'.cell? ⟨(b.add ((a).toNat * 8)).block, (b.add ((a).toNat * 8)).off + 6, none⟩ = some (.int .i64 ((rd_T89 d a).f3.f1)) ∧ w'.cell? ⟨(b.add ((a).toNat * 8)).block, (b.add ((a).toNat * 8)).off + 7, none⟩ = some (.slice ab ((rd_T89 d a).f3.f2).length af) ∧ w'.cell? (c.add ((a).toNat * 8)) = some (.int .i64 ((rd_T89 g a).f0)) ∧ w'.cell? ⟨(c.add ((a).toNat * 8)).block, (c.add ((a).toNat * 8)).off + 1, none⟩ = some (.int .i64 ((rd_T89 g a).f1)) ∧ w'.cell? ⟨(c.add ((a).toNat * 8)).block, (c.add ((a).toNat * 8)).off + 2, none⟩ = some (.bool ((rd_T89 g a).f2)) ∧ w'.cell? ⟨(c.add ((a).toNat * 8)).block, (c.add ((a).toNat * 8)).off + 3, none⟩ = some (.bool ((rd_T89 g a).f3.f0.f0)) ∧ w'.cell? ⟨(c.add ((a).toNat * 8)).block, (c.add ((a).toNat * 8)).off + 4, none⟩ = some (.int .i64 ((rd_T89 g a).f3.f0.f1)) ∧ w'.cell? ⟨(c.add ((a).toNat * 8)).block, (c.add ((a).toNat * 8)).off + 5, none⟩ = some (.slice ac ((rd_T89 g a).f3.f0.f2).length ag) ∧ w'.cell? ⟨(c.add ((a).toNat * 8)).block, (c.add ((a).toNat * 8)).off + 6, none⟩ = some (.int .i64 ((rd_T89 g a).f3.f1)) ∧ w'.cell? ⟨(c.add ((a).toNat * 8)).block, (c.add ((a).toNat * 8)).off + 7, none⟩ = some (.slice ad ((rd_T89 g a).f3.f2).length ah)) (ds := []) (tf_ 0 10) (by kernel_rfl) rfl rfl ⟨(bt_ HB I), (bt_ HB J), (bt_ HB L), (bt_ HB M), (bt_ HB N), (bt_ HB O), (bt_ HB P), (bt_ HB Q), (bt_ HB R), (bt_ HB T), (bt_ HB U), (bt_ HB V), (bt_ HB W), (bt_ HB X), (bt_ HB Y), (bt_ HB Z)⟩ (fun hHeld => ?_); refine with_tabW laws_eqLoggedS.tab6 laws_eqLoggedS.bits6 (fun HT_ HW_ => ?_)
 generalize wr.drew = w8 at HB D E F G i j l m o p q s t u v x y z A B hHeld ⊢
 refine pu1_ 0 17 10 1 ?_
 refine pu1_ 1 18 10 3 ?_
 refine pu1_ 2 19 10 7 ?_
 refine pu1_ 4 21 10 23 ?_
 refine pu1_ 5 22 10 55 ?_
 refine pu1_ 6 23 10 119 ?_
 refine ta1_ 3 20 10 127 hHeld ?_
 refine ta1_ 7 24 10 255 hHeld ?_
 refine on_ 8 (some 25) (tf_ 9 10) HT_ (fun K hK => ?_)
 refine goes_ Try.func48 (by kernel_rfl) rfl #[.agg #[.int .i64 ((rd_T89 d a).f0), .int .i64 ((rd_T89 d a).f1), .bool ((rd_T89 d a).f2), .bool ((rd_T89 d a).f3.f0.f0), .int .i64 ((rd_T89 d a).f3.f0.f1), .slice aa ((rd_T89 d a).f3.f0.f2).length ae, .int .i64 ((rd_T89 d a).f3.f1), .slice ab ((rd_T89 d a).f3.f2).length af], .agg #[.int .i64 ((rd_T89 g a).f0), .int .i64 ((rd_T89 g a).f1), .bool ((rd_T89 g a).f2), .bool ((rd_T89 g a).f3.f0.f0), .int .i64 ((rd_T89 g a).f3.f0.f1), .slice ac ((rd_T89 g a).f3.f0.f2).length ag, .int .i64 ((rd_T89 g a).f3.f1), .slice ad ((rd_T89 g a).f3.f2).length ah]] (by rfl) rfl rfl mp_ ?_
 with_reducible refine (laws_eqLogged.calls k1 ((rd_T89 d a).f0) ((rd_T89 d a).f1) ((rd_T89 d a).f2) ((rd_T89 d a).f3.f0.f0) ((rd_T89 d a).f3.f0.f1) _ _ ((rd_T89 d a).f3.f0.f2) ((rd_T89 d a).f3.f1) _ _ ((rd_T89 d a).f3.f2) ((rd_T89 g a).f0) ((rd_T89 g a).f1) ((rd_T89 g a).f2) ((rd_T89 g a).f3.f0.f0) ((rd_T89 g a).f3.f0.f1) _ _ ((rd_T89 g a).f3.f0.f2) ((rd_T89 g a).f3.f1) _ _ ((rd_T89 g a).f3.f2) au _ (cb_ D HB) ai.1 (cb_ E HB) aj.1 (cb_ F HB) ak.1 (cb_ G HB) al.1 A7.1).mono ?_
 rintro e w9 ⟨rfl, hb⟩
 refine ⟨_, rfl, ?_⟩
 have _ := Q_ (below_step (pb_ HB.1) hb)
 clear HB
 rename_i HB
 (try clear hb)
 refine hK.out _ _ ⟨(bt_ HB I), (bt_ HB J), (bt_ HB L), (bt_ HB M), (bt_ HB N), (bt_ HB O), (bt_ HB P), (bt_ HB Q), (bt_ HB R), (bt_ HB T), (bt_ HB U), (bt_ HB V), (bt_ HB W), (bt_ HB X), (bt_ HB Y), (bt_ HB Z)⟩ (fun hHeld => ?_)
 clear hK K
 refine no_ (some 25) ?_
 refine pu1_ 9 26 10 1023 ?_
 refine done_ (done_of HT_.1 (by kernel_rfl)) ?_
 go_upto_if 26 with (fail)
 have H := HS_.1
 clear HS_
 by_cases ar : au = true
 rotate_left
 ·replace ar := bf_ ar
  subst ar
  rw [if_neg ff_] at H
  obtain rfl := Option.some.inj H
  go_wp2
  go_ret
  exact ⟨er_, pb_ HB.1⟩
 subst ar
 rw [if_pos rfl] at H
 have H' := Q_ H
 clear H
 go_wp2
 go_roundg k1
 case measure => have := aw.1; omega
 case rel => exact ⟨(wrap64 (a + 1)), el_, H', ⟨by have := aw.1; omega⟩, ⟨pb_ HB.1⟩⟩

/-! ### laws_eqWorld: function 10 -/
def laws_eqWorld.f (k : Nat) (y : List Int) (z : List Int) (m : Int) (A : List (S56)) (n : Int) (B : List Int) (o : Int) (p : Bool) (q : Int) (r : Int) (h : List (S86)) (i : List (S89)) (a : Int) (b : Int) (c : Int) (C : List Int) (D : List Int) (s : Int) (E : List (S56)) (t : Int) (F : List Int) (u : Int) (v : Bool) (w : Int) (x : Int) (j : List (S86)) (l : List (S89)) (d : Int) (e : Int) (g : Int) : Option (Bool) := (laws_eqIntS.f k y C).bind fun G => (if G = true then ((laws_eqIntS.f k z D).bind fun H => (if H = true then (if m = s then ((laws_eqEndpointS.f k A E).bind fun I => (if I = true then ((laws_eqRollout.f k n B o p t F u v).bind fun J => (if J = true then (if q = w then (if r = x then ((laws_eqDialedS.f k h j).bind fun K => (if K = true then ((laws_eqLoggedS.f k i l).bind fun L => (if L = true then (if a = d then (if b = e then (if c = g then (some true) else (some false)) else (some false)) else (some false)) else (some false))) else (some false))) else (some false)) else (some false)) else (some false))) else (some false))) else (some false)) else (some false))) else (some false))
theorem laws_eqWorld.mono : ∀ w x y z A B C D E F a b c d e g h i j l m n o p q r s t u v k, LeO (laws_eqWorld.f k w x y z A B C D E F a b c d e g h i j l m n o p q r s t u v) (laws_eqWorld.f (k + 1) w x y z A B C D E F a b c d e g h i j l m n o p q r s t u v) := by
 intro w x y z A B C D E F a b c d e g h i j l m n o p q r s t u v k
 unfold laws_eqWorld.f
 exact mo5_ laws_eqDialedS.mono laws_eqEndpointS.mono laws_eqIntS.mono laws_eqLoggedS.mono laws_eqRollout.mono
theorem laws_eqWorld.calls (k : Nat) (an : Option Addr) (ax : Nat) (D : List Int) (ao : Option Addr) (ay : Nat) (E : List Int) (v : Int) (ap : Option Addr) (az : Nat) (F : List (S56)) (T : Int) (aq : Option Addr) (aA : Nat) (G : List Int) (U : Int) (V : Bool) (x : Int) (y : Int) (Z : Option Addr) (ad : Nat) (q : List (S86)) (aa : Option Addr) (ae : Nat) (s : List (S89)) (j : Int) (l : Int) (m : Int) (ar : Option Addr) (aB : Nat) (I : List Int) (au : Option Addr) (aC : Nat) (J : List Int) (z : Int) (av : Option Addr) (aD : Nat) (K : List (S56)) (W : Int) (aw : Option Addr) (aE : Nat) (L : List Int) (X : Int) (Y : Bool) (A : Int) (B : Int) (ab : Option Addr) (af : Nat) (t : List (S86)) (ac : Option Addr) (ag : Nat) (u : List (S89)) (n : Int) (o : Int) (p : Int) (r : Bool) (w : World) (hr0_0 : Kd.C (Kd.int .i64) w an D.length D) (aP : D.length ≤ ax) (hr0_1 : Kd.C (Kd.int .i64) w ao E.length E) (aQ : E.length ≤ ay) (hr0_3 : Kd.C k56 w ap F.length F) (aR : F.length ≤ az) (hr0_5 : Kd.C (Kd.int .i64) w aq G.length G) (aS : G.length ≤ aA) (hr0_10 : Kd.C k86 w Z q.length q) (aF : q.length ≤ ad) (hr0_11 : Kd.C k89 w aa s.length s) (aG : s.length ≤ ae) (hr1_0 : Kd.C (Kd.int .i64) w ar I.length I) (aT : I.length ≤ aB) (hr1_1 : Kd.C (Kd.int .i64) w au J.length J) (aU : J.length ≤ aC) (hr1_3 : Kd.C k56 w av K.length K) (aV : K.length ≤ aD) (hr1_5 : Kd.C (Kd.int .i64) w aw L.length L) (aW : L.length ≤ aE) (hr1_10 : Kd.C k86 w ab t.length t) (aH : t.length ≤ af) (hr1_11 : Kd.C k89 w ac u.length u) (aI : u.length ≤ ag) (h : laws_eqWorld.f k D E v F T G U V x y q s j l m I J z K W L X Y A B t u n o p = some r) :
  Calls Try.prog 10 #[.agg #[.slice an D.length ax, .slice ao E.length ay, .int .i64 v, .slice ap F.length az, .int .i64 T, .slice aq G.length aA, .int .i64 U, .bool V, .int .i64 x, .int .i64 y, .slice Z q.length ad, .slice aa s.length ae, .int .i64 j, .int .i64 l, .int .i64 m], .agg #[.slice ar I.length aB, .slice au J.length aC, .int .i64 z, .slice av K.length aD, .int .i64 W, .slice aw L.length aE, .int .i64 X, .bool Y, .int .i64 A, .int .i64 B, .slice ab t.length af, .slice ac u.length ag, .int .i64 n, .int .i64 o, .int .i64 p]] w fun e w' => e = .returned (.bool r) ∧ Below w.heap.size w w' := by
 have hu37 := Try.underlying37
 have hu33 := Try.underlying33
 have bk := Q_ hr0_0
 have bc := Q_ aP
 clear hr0_0 aP
 have bl := Q_ hr0_1
 have bd := Q_ aQ
 clear hr0_1 aQ
 have bm := Q_ hr0_3
 have be := Q_ aR
 clear hr0_3 aR
 have bn := Q_ hr0_5
 have bf := Q_ aS
 clear hr0_5 aS
 have a1 := Q_ hr0_10
 have aX := Q_ aF
 clear hr0_10 aF
 have a2 := Q_ hr0_11
 have aY := Q_ aG
 clear hr0_11 aG
 have bo := Q_ hr1_0
 have bg := Q_ aT
 clear hr1_0 aT
 have bp := Q_ hr1_1
 have bh := Q_ aU
 clear hr1_1 aU
 have bq := Q_ hr1_3
 have bi := Q_ aV
 clear hr1_3 aV
 have br := Q_ hr1_5
 have bj := Q_ aW
 clear hr1_5 aW
 have a3 := Q_ hr1_10
 have aZ := Q_ aH
 clear hr1_10 aH
 have a4 := Q_ hr1_11
 have a0 := Q_ aI
 clear hr1_11 aI
 have HB := Q_ (Below.refl w.heap.size w)
 have H : ((laws_eqIntS.f k D I).bind fun aJ => (if aJ = true then ((laws_eqIntS.f k E J).bind fun aK => (if aK = true then (if v = z then ((laws_eqEndpointS.f k F K).bind fun aL => (if aL = true then ((laws_eqRollout.f k T G U V W L X Y).bind fun aM => (if aM = true then (if x = A then (if y = B then ((laws_eqDialedS.f k q t).bind fun aN => (if aN = true then ((laws_eqLoggedS.f k s u).bind fun aO => (if aO = true then (if j = n then (if l = o then (if m = p then (some true) else (some false)) else (some false)) else (some false)) else (some false))) else (some false))) else (some false)) else (some false)) else (some false))) else (some false))) else (some false)) else (some false))) else (some false))) = some r := h
 clear h
 have HS_ := Q_ H
 clear H
 go_enter Try.func10, Try.ntmps10
 go_upto_region 1 with (first | ((with_reducible refine gate_dst (N := 2) rfl ?_); refine bx_ 2 #[.slice an D.length ax, .slice ao E.length ay, .int .i64 v, .slice ap F.length az, .int .i64 T, .slice aq G.length aA, .int .i64 U, .bool V, .int .i64 x, .int .i64 y, .slice Z q.length ad, .slice aa s.length ae, .int .i64 j, .int .i64 l, .int .i64 m] 37 ?_; intro bF hg w3 hbox hb; have _ := Q_ (below_step (pb_ HB.1) hb); have a := Q_ (hbox); have ba := Q_ (gw_ (w := w) hg (pb_ HB.1)); have g := ba; clear HB; rename_i HB; clear hb hbox hg) | ((with_reducible refine gate_dst (N := 3) rfl ?_); refine bx_ 3 #[.slice ar I.length aB, .slice au J.length aC, .int .i64 z, .slice av K.length aD, .int .i64 W, .slice aw L.length aE, .int .i64 X, .bool Y, .int .i64 A, .int .i64 B, .slice ab t.length af, .slice ac u.length ag, .int .i64 n, .int .i64 o, .int .i64 p] 37 ?_; intro bG hg w4 hbox hb; have _ := Q_ (bb_ a.1 hb); have _ := Q_ (below_step (pb1_ HB.1 g.1) hb); have d := Q_ (hbox); have bb := Q_ (gw_ (w := w) hg (pb1_ HB.1 g.1)); have i := bb; have b := Q_ (nb_ hg a); have c := Q_ b.1.symm; clear a HB; rename_i a HB; clear hb hbox hg))
 (try simp only [Act.put, s1_, s2_, s3_])
 have H := HS_.1
 clear HS_
 obtain ⟨aJ, A5, H⟩ := bs_ H
 (try dsimp only at H)
 have HS_ := Q_ H
 clear H
 have cv := b.1
 have cw := c.1
 have ct := bc15_ a.1
 have cu := bc15_ d.1
 go_upto_if 10 with (first | ((with_reducible refine gate_callee (f := 9) rfl ?_); refine gl_ (some 9) Try.func9 #[.slice an D.length ax, .slice ar I.length aB] ?_; (with_reducible refine (laws_eqIntS.calls k _ _ D _ _ I aJ _ (cb_ bk HB) bc.1 (cb_ bo HB) bg.1 A5.1).mono ?_); rintro e w' ⟨rfl, ⟨nd, rfl⟩⟩; refine ⟨_, rfl, ?_⟩))
 (try simp only [Act.put, s1_, s2_, s3_])
 have H := HS_.1
 clear HS_
 by_cases c9 : aJ = true
 rotate_left
 ·replace c9 := bf_ c9
  subst c9
  rw [if_neg ff_] at H
  obtain rfl := Option.some.inj H
  go_wp2
  go_ret
  exact ⟨er_, pb2_ HB.1 g.1 i.1⟩
 subst c9
 rw [if_pos rfl] at H
 obtain ⟨aK, bA, H⟩ := bs_ H
 (try dsimp only at H)
 have HS_ := Q_ H
 clear H
 have b5 := b.1
 have ch := c.1
 have bH := bc15_ a.1
 have bI := bc15_ d.1
 go_upto_if 16 with (first | ((with_reducible refine gate_callee (f := 9) rfl ?_); refine gl_ (some 15) Try.func9 #[.slice ao E.length ay, .slice au J.length aC] ?_; (with_reducible refine (laws_eqIntS.calls k _ _ E _ _ J aK _ ?side1 bd.1 ?side3 bh.1 bA.1).mono ?_); (case side1 => exact pc_ (Kd.C_below bl.1 (pb2_ HB.1 g.1 i.1))); (case side3 => exact pc_ (Kd.C_below bp.1 (pb2_ HB.1 g.1 i.1))); rintro e w' ⟨rfl, ⟨nd, rfl⟩⟩; refine ⟨_, rfl, ?_⟩))
 (try simp only [Act.put, s1_, s2_, s3_])
 have H := HS_.1
 clear HS_
 by_cases a5 : aK = true
 rotate_left
 ·replace a5 := bf_ a5
  subst a5
  rw [if_neg ff_] at H
  obtain rfl := Option.some.inj H
  go_wp2
  go_ret
  exact ⟨er_, pb2_ HB.1 g.1 i.1⟩
 subst a5
 rw [if_pos rfl] at H
 by_cases ah : v = z
 rotate_left
 ·rw [if_neg ah] at H
  have M : (v == z) = false := beq_eq_false_iff_ne.mpr ah
  have O : (v != z) = true := bne_iff_ne.mpr ah
  (first | rw [M] | (simp only [i64_w, i32_w]; rw [M]) | rw [O] | (have c_ := O; rw [bne] at c_; rw [c_]; clear c_) | skip)
  obtain rfl := Option.some.inj H
  have b6 := b.1
  have ci := c.1
  have bJ := bc15_ a.1
  have bK := bc15_ d.1
  go_wp2
  go_ret
  exact ⟨er_, pb2_ HB.1 g.1 i.1⟩
 rw [if_pos ah] at H
 have M : (v == z) = true := beq_iff_eq.mpr ah
 have O : (v != z) = false := bne_eq_false_iff_eq.mpr ah
 clear ah
 (first | rw [M] | (simp only [i64_w, i32_w]; rw [M]) | rw [O] | (have c_ := O; rw [bne] at c_; rw [c_]; clear c_) | skip)
 obtain ⟨aL, bB, H⟩ := bs_ H
 (try dsimp only at H)
 have HS_ := Q_ H
 clear H
 have b7 := b.1
 have cj := c.1
 have bL := bc15_ a.1
 have bM := bc15_ d.1
 go_upto_if 27 with (first | ((with_reducible refine gate_callee (f := 31) rfl ?_); refine gl_ (some 26) Try.func31 #[.slice ap F.length az, .slice av K.length aD] ?_; (with_reducible refine (laws_eqEndpointS.calls k _ _ F _ _ K aL _ ?side1 be.1 ?side3 bi.1 bB.1).mono ?_); (case side1 => exact pc_ (Kd.C_below bm.1 (pb2_ HB.1 g.1 i.1))); (case side3 => exact pc_ (Kd.C_below bq.1 (pb2_ HB.1 g.1 i.1))); rintro e cy ⟨rfl, hb⟩; refine ⟨_, rfl, ?_⟩; have _ := Q_ (bb_ a.1 hb); have _ := Q_ (bb_ d.1 hb); have _ := Q_ (below_step (pb2_ HB.1 g.1 i.1) hb); clear a d HB; rename_i a d HB; (try clear hb)))
 (try simp only [Act.put, s1_, s2_, s3_])
 have H := HS_.1
 clear HS_
 by_cases a6 : aL = true
 rotate_left
 ·replace a6 := bf_ a6
  subst a6
  rw [if_neg ff_] at H
  obtain rfl := Option.some.inj H
  go_wp2
  go_ret
  exact ⟨er_, pb2_ HB.1 g.1 i.1⟩
 subst a6
 rw [if_pos rfl] at H
 obtain ⟨aM, bC, H⟩ := bs_ H
 (try dsimp only at H)
 have HS_ := Q_ H
 clear H
 have b8 := b.1
 have ck := c.1
 have bN := bc15_ a.1
 have bO := bc15_ d.1
 go_upto_if 33 with (first | ((with_reducible refine gate_callee (f := 32) rfl ?_); refine gl_ (some 32) Try.func32 #[.agg #[.int .i64 T, .slice aq G.length aA, .int .i64 U, .bool V], .agg #[.int .i64 W, .slice aw L.length aE, .int .i64 X, .bool Y]] ?_; (with_reducible refine (laws_eqRollout.calls k T _ _ G U V W _ _ L X Y aM _ (cb_ bn HB) bf.1 (cb_ br HB) bj.1 bC.1).mono ?_); rintro e cz ⟨rfl, hb⟩; refine ⟨_, rfl, ?_⟩; have _ := Q_ (bb_ a.1 hb); have _ := Q_ (bb_ d.1 hb); have _ := Q_ (below_step (pb2_ HB.1 g.1 i.1) hb); clear a d HB; rename_i a d HB; (try clear hb)))
 (try simp only [Act.put, s1_, s2_, s3_])
 have H := HS_.1
 clear HS_
 by_cases a7 : aM = true
 rotate_left
 ·replace a7 := bf_ a7
  subst a7
  rw [if_neg ff_] at H
  obtain rfl := Option.some.inj H
  go_wp2
  go_ret
  exact ⟨er_, pb2_ HB.1 g.1 i.1⟩
 subst a7
 rw [if_pos rfl] at H
 by_cases ai : x = A
 rotate_left
 ·rw [if_neg ai] at H
  have P : (x == A) = false := beq_eq_false_iff_ne.mpr ai
  have Q : (x != A) = true := bne_iff_ne.mpr ai
  (first | rw [P] | (simp only [i64_w, i32_w]; rw [P]) | rw [Q] | (have c_ := Q; rw [bne] at c_; rw [c_]; clear c_) | skip)
  obtain rfl := Option.some.inj H
  have b9 := b.1
  have cl := c.1
  have bP := bc15_ a.1
  have bQ := bc15_ d.1
  go_wp2
  go_ret
  exact ⟨er_, pb2_ HB.1 g.1 i.1⟩
 rw [if_pos ai] at H
 have P : (x == A) = true := beq_iff_eq.mpr ai
 have Q : (x != A) = false := bne_eq_false_iff_eq.mpr ai
 clear ai
 (first | rw [P] | (simp only [i64_w, i32_w]; rw [P]) | rw [Q] | (have c_ := Q; rw [bne] at c_; rw [c_]; clear c_) | skip)
 by_cases aj : y = B
 rotate_left
 ·rw [if_neg aj] at H
  have bs : (y == B) = false := beq_eq_false_iff_ne.mpr aj
  have bt : (y != B) = true := bne_iff_ne.mpr aj
  obtain rfl := Option.some.inj H
  have ca := b.1
  have cm := c.1
  have bR := bc15_ a.1
  have bS := bc15_ d.1
  go_wp2
  go_ret
  exact ⟨er_, pb2_ HB.1 g.1 i.1⟩
 rw [if_pos aj] at H
 have bs : (y == B) = true := beq_iff_eq.mpr aj
 have bt : (y != B) = false := bne_eq_false_iff_eq.mpr aj
 clear aj
 obtain ⟨aN, bD, H⟩ := bs_ H
 (try dsimp only at H)
 have HS_ := Q_ H
 clear H
 have cb := b.1
 have cn := c.1
 have bT := bc15_ a.1
 have bU := bc15_ d.1
 go_upto_if 49 with (first | ((with_reducible refine gate_callee (f := 33) rfl ?_); refine gl_ (some 48) Try.func33 #[.slice Z q.length ad, .slice ab t.length af] ?_; (with_reducible refine (laws_eqDialedS.calls k _ _ q _ _ t aN _ (cb_ a1 HB) aX.1 (cb_ a3 HB) aZ.1 bD.1).mono ?_); rintro e cA ⟨rfl, hb⟩; refine ⟨_, rfl, ?_⟩; have _ := Q_ (bb_ a.1 hb); have _ := Q_ (bb_ d.1 hb); have _ := Q_ (below_step (pb2_ HB.1 g.1 i.1) hb); clear a d HB; rename_i a d HB; (try clear hb)))
 (try simp only [Act.put, s1_, s2_, s3_])
 have H := HS_.1
 clear HS_
 by_cases a8 : aN = true
 rotate_left
 ·replace a8 := bf_ a8
  subst a8
  rw [if_neg ff_] at H
  obtain rfl := Option.some.inj H
  go_wp2
  go_ret
  exact ⟨er_, pb2_ HB.1 g.1 i.1⟩
 subst a8
 rw [if_pos rfl] at H
 obtain ⟨aO, bE, H⟩ := bs_ H
 (try dsimp only at H)
 have HS_ := Q_ H
 clear H
 have cc := b.1
 have co := c.1
 have bV := bc15_ a.1
 have bW := bc15_ d.1
 go_upto_if 55 with (first | ((with_reducible refine gate_callee (f := 34) rfl ?_); refine gl_ (some 54) Try.func34 #[.slice aa s.length ae, .slice ac u.length ag] ?_; (with_reducible refine (laws_eqLoggedS.calls k _ _ s _ _ u aO _ (cb_ a2 HB) aY.1 (cb_ a4 HB) a0.1 bE.1).mono ?_); rintro e cB ⟨rfl, hb⟩; refine ⟨_, rfl, ?_⟩; have _ := Q_ (bb_ a.1 hb); have _ := Q_ (bb_ d.1 hb); have _ := Q_ (below_step (pb2_ HB.1 g.1 i.1) hb); clear a d HB; rename_i a d HB; (try clear hb)))
 (try simp only [Act.put, s1_, s2_, s3_])
 have H := HS_.1
 clear HS_
 by_cases a9 : aO = true
 rotate_left
 ·replace a9 := bf_ a9
  subst a9
  rw [if_neg ff_] at H
  obtain rfl := Option.some.inj H
  go_wp2
  go_ret
  exact ⟨er_, pb2_ HB.1 g.1 i.1⟩
 subst a9
 rw [if_pos rfl] at H
 by_cases ak : j = n
 rotate_left
 ·rw [if_neg ak] at H
  have R : (j == n) = false := beq_eq_false_iff_ne.mpr ak
  have S : (j != n) = true := bne_iff_ne.mpr ak
  (first | rw [R] | (simp only [i64_w, i32_w]; rw [R]) | rw [S] | (have c_ := S; rw [bne] at c_; rw [c_]; clear c_) | skip)
  obtain rfl := Option.some.inj H
  have cd := b.1
  have cp := c.1
  have bX := bc15_ a.1
  have bY := bc15_ d.1
  go_wp2
  go_ret
  exact ⟨er_, pb2_ HB.1 g.1 i.1⟩
 rw [if_pos ak] at H
 have R : (j == n) = true := beq_iff_eq.mpr ak
 have S : (j != n) = false := bne_eq_false_iff_eq.mpr ak
 clear ak
 (first | rw [R] | (simp only [i64_w, i32_w]; rw [R]) | rw [S] | (have c_ := S; rw [bne] at c_; rw [c_]; clear c_) | skip)
 by_cases al : l = o
 rotate_left
 ·rw [if_neg al] at H
  have bu : (l == o) = false := beq_eq_false_iff_ne.mpr al
  have bv : (l != o) = true := bne_iff_ne.mpr al
  obtain rfl := Option.some.inj H
  have ce := b.1
  have cq := c.1
  have bZ := bc15_ a.1
  have b0 := bc15_ d.1
  go_wp2
  go_ret
  exact ⟨er_, pb2_ HB.1 g.1 i.1⟩
 rw [if_pos al] at H
 have bu : (l == o) = true := beq_iff_eq.mpr al
 have bv : (l != o) = false := bne_eq_false_iff_eq.mpr al
 clear al
 by_cases am : m = p
 rotate_left
 ·rw [if_neg am] at H
  have bw : (m == p) = false := beq_eq_false_iff_ne.mpr am
  have bx : (m != p) = true := bne_iff_ne.mpr am
  obtain rfl := Option.some.inj H
  have cf := b.1
  have cr := c.1
  have b1 := bc15_ a.1
  have b2 := bc15_ d.1
  go_wp2
  go_ret
  exact ⟨er_, pb2_ HB.1 g.1 i.1⟩
 rw [if_pos am] at H
 have bw : (m == p) = true := beq_iff_eq.mpr am
 have bx : (m != p) = false := bne_eq_false_iff_eq.mpr am
 clear am
 obtain rfl := Option.some.inj H
 have cg := b.1
 have cs := c.1
 have b3 := bc15_ a.1
 have b4 := bc15_ d.1
 go_wp2
 go_ret
 exact ⟨er_, pb2_ HB.1 g.1 i.1⟩

/-! ### laws_markIntS: function 12 -/
def laws_markIntS.l0 : Nat → List Int → Int → Int → Option (Int × List Int)
 | 0, _, _, _ => none
 | k + 1, b, c, a => if a < (b.length : Int) then (if 0 ≤ a then (laws_markIntS.l0 k (b.set (a : Int).toNat c) (wrap64 (c + 1)) (wrap64 (a + 1))) else (none)) else (some (c, b))
def laws_markIntS.f (k : Nat) (b : List Int) (a : Int) : Option (Int × List Int) := laws_markIntS.l0 k b a 0
theorem laws_markIntS.mono_l : ∀ k, (∀ a b c, LeO (laws_markIntS.l0 k a b c) (laws_markIntS.l0 (k + 1) a b c))
 | 0 => fun _ _ _ r h => by simp [laws_markIntS.l0] at h
 | k + 1 => by
  have ih0 := laws_markIntS.mono_l k
  ·intro a b c
   unfold laws_markIntS.l0
   exact mo1_ ih0
theorem laws_markIntS.mono : ∀ a b k, LeO (laws_markIntS.f k a b) (laws_markIntS.f (k + 1) a b) := by
 intro a b k
 have ih0 := laws_markIntS.mono_l k
 unfold laws_markIntS.f
 exact mo1_ ih0
theorem laws_markIntS.calls (k : Nat) (P0_ : Nat → Prop) (u9000_ : Value) (r : List Int) (x : Int) (s : Int) (u : List Int) (w0 w : World) (hB : Below w0.heap.size w0 w) (F : Kd.R (Kd.int .i64) 3 w w0.heap.size P0_ u9000_ r) (h : laws_markIntS.f k r x = some (s, u)) :
  Calls Try.prog 12 #[u9000_, .int .i64 x] w fun e w' => e = .returned (.int .i64 s) ∧ Kd.R (Kd.int .i64) 3 w' w0.heap.size (fun k_ => (P0_ k_ ∨ w.heap.size ≤ k_)) u9000_ u ∧ Below w0.heap.size w0 w' ∧ Kept w w' (fun k_ => P0_ k_) := by
 have A := Q_ (show Kd.R (Kd.int .i64) 3 w w0.heap.size (fun k_ => (P0_ k_ ∨ w.heap.size ≤ k_)) u9000_ r from Kd.R_mono F (fun k_ hk => (.inl hk)))
 have HK := Q_ (Kept.refl w (fun k_ => P0_ k_))
 have HW0 := Q_ hB.size
 have HB := Q_ hB
 clear hB
 have H : (laws_markIntS.l0 k r x 0) = some (s, u) := h
 clear h
 have H' := Q_ H
 clear H
 go_enter Try.func12, Try.ntmps12
 go_wp2
 go_loopg [1, 5] k (fun kq U V w' => ∃ (d : List Int) (c : Int) (a : Int), U = .int .i64 c ∧ V = .int .i64 a ∧ Aside0 (laws_markIntS.l0 kq d c a = some (s, u)) ∧ Aside0 (kq ≤ k) ∧ Aside0 (Kd.R (Kd.int .i64) 3 w' w0.heap.size (fun k_ => (P0_ k_ ∨ w.heap.size ≤ k_)) u9000_ d) ∧ Aside0 (Kept w w' (fun k_ => P0_ k_)) ∧ Aside0 (Below w0.heap.size w0 w'))
 case atStart => exact ⟨(r), (x), (0), el_, el_, H', ⟨Nat.le_refl _⟩, ⟨pr_ A.1⟩, ⟨qt0_ HK.1⟩, ⟨pb_ HB.1⟩⟩
 clear H'
 obtain ⟨d, c, a, rfl, rfl, HA, m, b, HK, HB⟩ := hrel
 rcases gk with _ | k1
 ·exact absurd HA.1 (by simp [laws_markIntS.l0])
 have H := HA.1
 clear HA
 simp only [laws_markIntS.l0] at H
 by_cases l : a < (d.length : Int)
 rotate_left
 ·rw [if_neg l] at H
  have n := decide_eq_false l
  clear l
  simp only [Option.some.injEq, Prod.mk.injEq] at H
  obtain ⟨rfl, rfl⟩ := H
  obtain ⟨M, Q, C⟩ := Kd.R_slice b.1
  subst C
  go_wp2
  go_ret
  exact ⟨er_, pr_ b.1, pb_ HB.1, qt0_ HK.1⟩
 rw [if_pos l] at H
 have n := decide_eq_true l
 clear l
 by_cases y : 0 ≤ a
 rotate_left
 ·rw [if_neg y] at H
  exact nn_ H
 rw [if_pos y] at H
 have L := decide_eq_true y
 clear y
 obtain ⟨i, hy322⟩ : ∃ y_ : List Int, y_ = (d.set (a : Int).toNat c) := ⟨_, rfl⟩
 replace H : (laws_markIntS.l0 k1 i (wrap64 (c + 1)) (wrap64 (a + 1))) = some (s, u) := hb_ hy322 H
 have j := Q_ hy322
 clear hy322
 have H' := Q_ H
 clear H
 obtain ⟨N, B, D⟩ := Kd.R_slice b.1
 subst D
 have I : 0 ≤ (a : Int) := dt_
 have J : (a : Int) < ((d.length : Int) : Int) := dt_
 obtain ⟨g, T, o, q, gl6, P, HG6⟩ := Kd.R_form b.1 (by omega)
 (first | cases o | (injection o with ea_ en_ ec_; (first | subst ea_ | (injection ea_ with ea_; subst ea_)); subst ec_; clear en_))
 have z := Q_ q
 have O := Q_ HG6
 clear q gl6 HG6
 have HMgo6 := Q_ (show (P0_ g ∨ w.heap.size ≤ g) from (b.1.1 _ rfl))
 obtain ⟨G, E⟩ := Kd.R_celln 0 b.1 (a : Int) I J
 replace I := eq_true I
 replace J := eq_true J
 have HP8 := Kd.R_putg b.1 (a : Int) c
 go_wp2_with (first | ((with_reducible refine gate_store (t := 3) (p := 15) rfl ?_); refine store_event (t := 3) (p := 15) (v := ?vo_w9) (w1 := (wr.setCell ⟨g, (a : Int).toNat, none⟩ (.int .i64 c))) ?hg ?ho ?hn ?hr ?_; (case ho => rfl); (case hg => rfl); (case hn => rfl); (case hr => first | (go_simp; done) | (go_simp; rfl)); intro K hw; have hg : wr.grownBy K (some g) := (by rw [hw]; exact HP8.2); have hp_ : Kd.R (Kd.int .i64) 3 K w0.heap.size (fun k_ => (P0_ k_ ∨ w.heap.size ≤ k_)) (.slice (some ⟨g, 0, none⟩) d.length B) i := (by rw [hw, j.1]; exact HP8.1); clear HP8; have _ := Q_ (hp_); have _ := Q_ ((by rw [hw]; exact below_set (HB.1) z.1 : Below w0.heap.size w0 K)); have _ := Q_ (Kept.of_grown (S := (fun k_ => P0_ k_)) hg (qt0_ HK.1) (fun k_ e_ => (b.1.1 k_ e_))); clear b HB HK; rename_i b HB HK; clear hg hw hp_))
 go_roundg k1
 case measure => have := m.1; omega
 case rel => exact ⟨(i), (wrap64 (c + 1)), (wrap64 (a + 1)), el_, el_, H', ⟨by have := m.1; omega⟩, ⟨pr_ b.1⟩, ⟨qt0_ HK.1⟩, ⟨pb_ HB.1⟩⟩

/-! ### laws_markIntS: function 12, by shapes -/
theorem laws_markIntS.callsM (P0_ : Nat → Prop) (u9000_ : Value) (d : List Int) (k : Int) (w0 w : World) (hB : Below w0.heap.size w0 w) (o : Kd.R (Kd.int .i64) 3 w w0.heap.size P0_ u9000_ d) :
  Calls Try.prog 12 #[u9000_, .int .i64 k] w fun e w' => e = .returned (.int .i64 (cnt d.length k)) ∧ Below w0.heap.size w0 w' ∧ Kept w w' (fun k_ => P0_ k_) ∧ Marked w w' := by
 have j := Q_ o
 have HK := Q_ (Kept.refl w (fun k_ => P0_ k_))
 have HM := Q_ (Marked.refl w)
 have HB := Q_ hB
 clear hB o
 go_enter Try.func12, Try.ntmps12
 go_wp2
 go_loopg [1, 5] (d.length + 1) (fun kq G H w' => ∃ (c : List Int) (b a : Int) (i_1 : Nat), G = .int .i64 b ∧ H = .int .i64 a ∧ Aside0 (a = (i_1 : Int)) ∧ Aside0 (i_1 + kq = d.length + 1 ∧ i_1 ≤ d.length) ∧ Aside0 (c.length = d.length) ∧ Aside0 (cnt (d.length - i_1) b = cnt d.length k) ∧ Aside0 (Kd.R (Kd.int .i64) 3 w' w0.heap.size P0_ u9000_ c) ∧ Aside0 (Kept w w' (fun k_ => P0_ k_)) ∧ Aside0 (Marked w w') ∧ Aside0 (Below w0.heap.size w0 w'))
 case atStart => exact ⟨d, k, 0, 0, el_, el_, ⟨rfl⟩, ⟨by omega, by omega⟩, ⟨rfl⟩, ⟨rfl⟩, ⟨pr_ j.1⟩, ⟨qm_ HK.1⟩, ⟨qn_ HM.1⟩, ⟨pb_ HB.1⟩⟩
 clear j
 obtain ⟨c, b, a, i_1, rfl, rfl, HI, HN, HS, HV, HO, HK, HM, HB⟩ := hrel
 rcases gk with _ | k1
 ·exact absurd HN.1 (by omega)
 have HL := Q_ (show c.length = d.length from HS.1)
 have HLG := Q_ (R_long HO.1)
 by_cases q : a < (c.length : Int)
 rotate_left
 ·have l := decide_eq_false q
  have e_ : b = cnt d.length k := by
   have h_ := HV.1
   have h1_ := HI.1
   have hlen := HL.1
   rw [show i_1 = d.length by have := HN.1.2; omega] at h_
   simpa [cnt] using h_
  subst e_
  obtain ⟨C, E, y⟩ := Kd.R_slice HO.1
  subst y
  go_wp2
  go_ret
  exact ⟨el_, pb_ HB.1, qm_ HK.1, qn_ HM.1⟩
 have l := decide_eq_true q
 have r : 0 ≤ (a : Int) := by have := HI.1; omega
 have A : (a : Int) < ((c.length : Int) : Int) := q
 have B : decide (0 ≤ a) = true := decide_eq_true r
 have HII := Q_ (show i_1 < d.length from by have := HI.1; have := HL.1; omega)
 have HTI := Q_ (show a.toNat = i_1 from by have := HI.1; omega)
 have HW5 := Q_ (wi_ HI.1 HII.1 (HL.1 ▸ HLG.1))
 obtain ⟨D, x, z⟩ := Kd.R_slice HO.1
 subst z
 obtain ⟨g, F, m, n, gl6, HG6⟩ := Kd.R_form HO.1 (by omega)
 (first | cases m | (injection m with ea_ en_ ec_; (first | subst ea_ | (injection ea_ with ea_; subst ea_)); subst ec_; clear en_))
 have u := Q_ n
 have PG6 := Q_ (HO.1.1 g rfl)
 clear n gl6 HG6 q
 obtain ⟨f, h⟩ := Kd.R_celln 0 HO.1 (a : Int) r A
 replace r := eq_true r
 replace A := eq_true A
 have HP8 := (Kd.R_putg HO.1 (a : Int) b).1
 have i := Marked.set f (v := .int .i64 b) (.inr (.inl ⟨_, _, _, rfl, rfl⟩))
 go_wp2_with (first | ((with_reducible refine gate_store (t := 3) (p := 15) rfl ?_); refine store_event (t := 3) (p := 15) (v := ?vo_w9) (w1 := (wr.setCell ⟨g, (a : Int).toNat, none⟩ (.int .i64 b))) ?hg ?ho ?hn ?hr ?_; (case ho => rfl); (case hg => rfl); (case hn => rfl); (case hr => first | (go_simp; done) | (go_simp; rfl)); intro s hw; have n0_ := Q_ (show Kd.R (Kd.int .i64) 3 s w0.heap.size P0_ (.slice (some ⟨g, 0, none⟩) c.length x) (c.set (a : Int).toNat b) from by rw [hw]; exact HP8); have n1_ := Q_ (show Below w0.heap.size w0 s from by rw [hw]; exact below_set HB.1 u.1); have n2_ := Q_ (show Kept w s (fun k_ => P0_ k_) from by rw [hw]; exact Kept.setCell HK.1 (.inl PG6.1) _); have n3_ := Q_ (show Marked w s from by rw [hw]; exact HM.1.trans i); clear HO HB HK HM HP8 i f h hw; have HO := n0_; have HB := n1_; have HK := n2_; have HM := n3_; clear n0_ n1_ n2_ n3_))
 go_roundg k1
 case measure => omega
 case rel => exact ⟨_, (wrap64 (b + 1)), (wrap64 (a + 1)), i_1 + 1, el_, el_, HW5, ⟨by have := HN.1.1; omega, by have := HII.1; omega⟩, ⟨(List.length_set ..).trans HL.1⟩, ⟨by have h_ := HV.1; rw [show d.length - i_1 = (d.length - (i_1 + 1)) + 1 by have := HII.1; omega] at h_; exact h_⟩, ⟨pr_ HO.1⟩, ⟨qm_ HK.1⟩, ⟨qn_ HM.1⟩, ⟨pb_ HB.1⟩⟩


/-! ### laws_markBoxS: function 49, by shapes -/
def sh102 (x y : S102) : Prop := y.f1.length = x.f1.length ∧ y.f2.length = x.f2.length
theorem sh102_refl (x : S102) : sh102 x x := ⟨rfl, rfl⟩
theorem sh102_trans (x y z : S102) (a : sh102 x y) (b : sh102 y z) : sh102 x z := by
 obtain ⟨c, d⟩ := a
 obtain ⟨b0, b1⟩ := b
 exact ⟨b0.trans c, b1.trans d⟩
theorem sh_k102 : Sh k102 sh102 := Sh.imp (Sh.iso (Sh.pair (Sh.int .i64) (Sh.pair (Sh.slice (Sh.int .i64) 3) (Sh.pair (Sh.slice (Sh.int .i64) 3) Sh.bool))) (fun x : S102 => (x.f0, x.f1, x.f2, x.f3)) (fun p => ⟨p.1, p.2.1, p.2.2.1, p.2.2.2⟩) (fun _ => rfl)) (fun x y h => ⟨h.2.1.1, h.2.2.1.1⟩)
def markE102 (x : S102) (k : Int) : Int := (wrap64 ((cnt x.f2.length (cnt x.f1.length (wrap64 (k + 1)))) + 1))
def markC102 : List S102 → Int → Int
 | [], k => k
 | x :: l, k => markC102 l (markE102 x k)
theorem markE102_like {x y : S102} (h : sh102 x y) (k : Int) : markE102 y k = markE102 x k := by
 obtain ⟨h0, h1⟩ := h
 unfold markE102
 rw [h0, h1]
theorem markC102_like {xs ys : List S102} (h : RowsS sh102 xs ys) (k : Int) : markC102 ys k = markC102 xs k := by
 induction xs generalizing ys k with
 | nil =>
  have := h.1
  rw [List.length_eq_zero_iff.1 this]
 | cons x xs ih =>
  cases ys with
  | nil => have := h.1; simp at this
  | cons y ys =>
   obtain ⟨y', hy, hs⟩ := h.2 0 x rfl
   obtain rfl : y = y' := by simpa using hy
   have ht : RowsS sh102 xs ys := h.drop 1
   simp only [markC102]
   rw [markE102_like hs, ih ht]
theorem laws_markBoxS.callsM (P0_ : Nat → Prop) (u9000_ : Value) (g : List S102) (l : Int) (w0 w : World) (hB : Below w0.heap.size w0 w) (q : Kd.R k102 102 w w0.heap.size P0_ u9000_ g) :
  Calls Try.prog 49 #[u9000_, .int .i64 l] w fun e w' => e = .returned (.int .i64 (markC102 g l)) ∧ Below w0.heap.size w0 w' ∧ Kept w w' (fun k_ => P0_ k_) ∧ Marked w w' := by
 have hu102 := Try.underlying102
 have k := Q_ q
 have HK := Q_ (Kept.refl w (fun k_ => P0_ k_))
 have HM := Q_ (Marked.refl w)
 have HB := Q_ hB
 clear hB q
 go_enter Try.func49, Try.ntmps49
 go_wp2
 go_loopg [1, 5] (g.length + 1) (fun kq F G w' => ∃ (c : List S102) (b a : Int) (i_1 : Nat), F = .int .i64 b ∧ G = .int .i64 a ∧ Aside0 (a = (i_1 : Int)) ∧ Aside0 (i_1 + kq = g.length + 1 ∧ i_1 ≤ g.length) ∧ Aside0 (RowsS sh102 g c) ∧ Aside0 (markC102 (g.drop i_1) b = markC102 g l) ∧ Aside0 (Kd.R k102 102 w' w0.heap.size P0_ u9000_ c) ∧ Aside0 (Kept w w' (fun k_ => P0_ k_)) ∧ Aside0 (Marked w w') ∧ Aside0 (Below w0.heap.size w0 w'))
 case atStart => exact ⟨g, l, 0, 0, el_, el_, ⟨rfl⟩, ⟨by omega, by omega⟩, ⟨RowsS.refl (fun _ => sh102_refl _) g⟩, ⟨rfl⟩, ⟨pr_ k.1⟩, ⟨qm_ HK.1⟩, ⟨qn_ HM.1⟩, ⟨pb_ HB.1⟩⟩
 clear k
 obtain ⟨c, b, a, i_1, rfl, rfl, HI, HN, HS, HV, HO, HK, HM, HB⟩ := hrel
 rcases gk with _ | k1
 ·exact absurd HN.1 (by omega)
 have HL := Q_ (show c.length = g.length from HS.1.1)
 have HLG := Q_ (R_long HO.1)
 by_cases r : a < (c.length : Int)
 rotate_left
 ·have m := decide_eq_false r
  have e_ : b = markC102 g l := by
   have h_ := HV.1
   have h1_ := HI.1
   have hlen := HL.1
   rw [show i_1 = g.length by have := HN.1.2; omega] at h_
   simpa [markC102] using h_
  subst e_
  obtain ⟨A, C, u⟩ := Kd.R_slice HO.1
  subst u
  go_wp2
  go_ret
  exact ⟨el_, pb_ HB.1, qm_ HK.1, qn_ HM.1⟩
 have m := decide_eq_true r
 have s : 0 ≤ (a : Int) := by have := HI.1; omega
 have y : (a : Int) < ((c.length : Int) : Int) := r
 have z : decide (0 ≤ a) = true := decide_eq_true s
 have HII := Q_ (show i_1 < g.length from by have := HI.1; have := HL.1; omega)
 have HTI := Q_ (show a.toNat = i_1 from by have := HI.1; omega)
 have HW5 := Q_ (wi_ HI.1 HII.1 (HL.1 ▸ HLG.1))
 obtain ⟨B, E, x⟩ := Kd.R_slice HO.1
 subst x
 obtain ⟨d, D, n, o, gl6, HG6⟩ := Kd.R_form HO.1 (by omega)
 (first | cases n | (injection n with ea_ en_ ec_; (first | subst ea_ | (injection ea_ with ea_; subst ea_)); subst ec_; clear en_))
 have j := Q_ o
 have PG6 := Q_ (HO.1.1 d rfl)
 clear o gl6 HG6 r
 have HP6 := Q_ s
 have i := Q_ y
 have HE := Q_ (HS.1.at z102 HII.1)
 obtain ⟨E0, hE0⟩ : ∃ e_ : S102, e_ = g.getD i_1 z102 := ⟨_, rfl⟩
 rw [← hE0, ← HTI.1] at HE
 have h := Q_ hE0
 clear hE0
 obtain ⟨ca, hcla, hMa, hcca, hfra⟩ := Kd.R_elem HO.1 z102 a HP6.1 i.1
 obtain ⟨Ea, hEa⟩ : ∃ e_ : S102, e_ = c.getD (a : Int).toNat z102 := ⟨_, rfl⟩
 rw [← hEa] at hMa HE
 clear hEa
 obtain ⟨va_1, va_2, rfl, ga_1, ga_2⟩ := k102_openM hMa
 have hxa : wr.cell? ⟨d, (a : Int).toNat * 4, none⟩ = some (.int .i64 Ea.f0) := hcca 0 _ rfl
 have hfa : wr.frozen? ⟨d, (a : Int).toNat * 4, none⟩ = false := hfra 0
 clear hcla hcca hfra
 clear ga_1 ga_2
 try clear hMa
 replace s := eq_true s
 replace y := eq_true y
 go_wp2_with (first
  | ((with_reducible refine gate_store (t := 3) (p := 16) rfl ?_); refine store_event (t := 3) (p := 16) (v := ?vo_a) (w1 := ?w1_a) ?hg ?ho ?hn ?hr ?_; (case ho => rfl); (case hg => rfl); (case hn => rfl); (case hr => first | (go_simp; done) | (go_simp; rfl)); intro wa_ hw; have hms_ : Marked _ wa_ := (by rw [hw]; exact Marked.set hxa (.inr (.inl ⟨_, _, _, rfl, rfl⟩))); have n1_ := Q_ (show Below w0.heap.size w0 wa_ from by rw [hw]; exact below_set HB.1 j.1); have n2_ := Q_ (show Kept w wa_ (fun k_ => P0_ k_) from by rw [hw]; exact Kept.setCell HK.1 (.inl PG6.1) _); have n3_ := Q_ (HM.1.trans hms_); obtain ⟨Xa, HOa, hra⟩ := R_like sh_k102 hms_ HO.1; have HSa := Q_ (RowsS.trans sh102_trans HS.1 hra); clear HO HS hra HE; have HO := Q_ HOa; have HS := HSa; clear HOa HSa; have HE := Q_ (HS.1.at z102 HII.1); rw [← h.1, ← HTI.1] at HE; clear HB HK HM hms_ hxa hfa hw; have HB := n1_; have HK := n2_; have HM := n3_; clear n1_ n2_ n3_; obtain ⟨cb, hclb, hMb, hccb, hfrb⟩ := Kd.R_elem HO.1 z102 a HP6.1 i.1; obtain ⟨Eb, hEb⟩ : ∃ e_ : S102, e_ = Xa.getD (a : Int).toNat z102 := ⟨_, rfl⟩; rw [← hEb] at hMb HE; clear hEb; obtain ⟨vb_1, vb_2, rfl, gb_1, gb_2⟩ := k102_openM hMb; obtain ⟨Ab, bb, eb⟩ := Kd.R_slice gb_1; subst eb; have hxb : wa_.cell? ⟨d, (a : Int).toNat * 4 + 1, none⟩ = some (.slice Ab Eb.f1.length bb) := hccb 1 _ rfl; have HGb := Q_ (Kd.R_mono gb_1 (fun k_ h_ => h_.1)); clear hclb hccb hfrb; clear gb_1 gb_2; try clear hMb)
  | ((with_reducible refine gate_callee (f := 12) rfl ?_); refine goesL_ (some 25) rfl rfl Try.func12 (by kernel_rfl) rfl #[(.slice Ab Eb.f1.length bb), .int .i64 (wrap64 (b + 1))] rfl mp_ ?_; (with_reducible refine (laws_markIntS.callsM P0_ (.slice Ab Eb.f1.length bb) Eb.f1 (wrap64 (b + 1)) w0 _ ?side1 ?side2).mono ?_); (case side1 => exact pb_ HB.1); (case side2 => exact pr_ HGb.1); rintro e wb_ ⟨he_, hb, hkp, hms0_⟩; rw [HE.1.1] at he_; subst he_; refine ⟨_, rfl, ?_⟩; have hms_ := Marked.trans (qn_ (Marked.refl _)) hms0_; have n1_ := Q_ hb; have n2_ := Q_ (Kept.then_ (S := (fun k_ => P0_ k_)) (qm_ HK.1) hkp (fun k_ hs_ => .inl hs_)); have n3_ := Q_ (Marked.trans (qn_ HM.1) hms0_); obtain ⟨Xb, HOb, hrb⟩ := R_like sh_k102 hms_ HO.1; have HSb := Q_ (RowsS.trans sh102_trans HS.1 hrb); clear HO HS hrb HE; have HO := Q_ HOb; have HS := HSb; clear HOb HSb; have HE := Q_ (HS.1.at z102 HII.1); rw [← h.1, ← HTI.1] at HE; clear HB HK HM hms_ hms0_ hb hkp hxb HGb; have HB := n1_; have HK := n2_; have HM := n3_; clear n1_ n2_ n3_; obtain ⟨cc, hclc, hMc, hccc, hfrc⟩ := Kd.R_elem HO.1 z102 a HP6.1 i.1; obtain ⟨Ec, hEc⟩ : ∃ e_ : S102, e_ = Xb.getD (a : Int).toNat z102 := ⟨_, rfl⟩; rw [← hEc] at hMc HE; clear hEc; obtain ⟨vc_1, vc_2, rfl, gc_1, gc_2⟩ := k102_openM hMc; obtain ⟨Ac, bc, ec⟩ := Kd.R_slice gc_2; subst ec; have hxc : wb_.cell? ⟨d, (a : Int).toNat * 4 + 2, none⟩ = some (.slice Ac Ec.f2.length bc) := hccc 2 _ rfl; have HGc := Q_ (Kd.R_mono gc_2 (fun k_ h_ => h_.1)); clear hclc hccc hfrc; clear gc_1 gc_2; try clear hMc)
  | ((with_reducible refine gate_callee (f := 12) rfl ?_); refine goesL_ (some 32) rfl rfl Try.func12 (by kernel_rfl) rfl #[(.slice Ac Ec.f2.length bc), .int .i64 (cnt E0.f1.length (wrap64 (b + 1)))] rfl mp_ ?_; (with_reducible refine (laws_markIntS.callsM P0_ (.slice Ac Ec.f2.length bc) Ec.f2 (cnt E0.f1.length (wrap64 (b + 1))) w0 _ ?side1 ?side2).mono ?_); (case side1 => exact pb_ HB.1); (case side2 => exact pr_ HGc.1); rintro e wc_ ⟨he_, hb, hkp, hms0_⟩; rw [HE.1.2] at he_; subst he_; refine ⟨_, rfl, ?_⟩; have hms_ := Marked.trans (qn_ (Marked.refl _)) hms0_; have n1_ := Q_ hb; have n2_ := Q_ (Kept.then_ (S := (fun k_ => P0_ k_)) (qm_ HK.1) hkp (fun k_ hs_ => .inl hs_)); have n3_ := Q_ (Marked.trans (qn_ HM.1) hms0_); obtain ⟨Xc, HOc, hrc⟩ := R_like sh_k102 hms_ HO.1; have HSc := Q_ (RowsS.trans sh102_trans HS.1 hrc); clear HO HS hrc HE; have HO := Q_ HOc; have HS := HSc; clear HOc HSc; have HE := Q_ (HS.1.at z102 HII.1); rw [← h.1, ← HTI.1] at HE; clear HB HK HM hms_ hms0_ hb hkp hxc HGc; have HB := n1_; have HK := n2_; have HM := n3_; clear n1_ n2_ n3_; obtain ⟨cd, hcld, hMd, hccd, hfrd⟩ := Kd.R_elem HO.1 z102 a HP6.1 i.1; obtain ⟨Ed, hEd⟩ : ∃ e_ : S102, e_ = Xc.getD (a : Int).toNat z102 := ⟨_, rfl⟩; rw [← hEd] at hMd HE; clear hEd; obtain ⟨vd_1, vd_2, rfl, gd_1, gd_2⟩ := k102_openM hMd; have hxd : wc_.cell? ⟨d, (a : Int).toNat * 4 + 3, none⟩ = some (.bool Ed.f3) := hccd 3 _ rfl; have hfd : wc_.frozen? ⟨d, (a : Int).toNat * 4 + 3, none⟩ = false := hfrd 3; clear hcld hccd hfrd; clear gd_1 gd_2; try clear hMd)
  | ((with_reducible refine gate_store (t := 4) (p := 39) rfl ?_); refine store_event (t := 4) (p := 39) (v := ?vo_d) (w1 := ?w1_d) ?hg ?ho ?hn ?hr ?_; (case ho => rfl); (case hg => rfl); (case hn => rfl); (case hr => first | (go_simp; done) | (go_simp; rfl)); intro wd_ hw; have hms_ : Marked _ wd_ := (by rw [hw]; exact Marked.set hxd (.inr (.inr ⟨_, _, rfl, rfl⟩))); have n1_ := Q_ (show Below w0.heap.size w0 wd_ from by rw [hw]; exact below_set HB.1 j.1); have n2_ := Q_ (show Kept w wd_ (fun k_ => P0_ k_) from by rw [hw]; exact Kept.setCell HK.1 (.inl PG6.1) _); have n3_ := Q_ (HM.1.trans hms_); obtain ⟨Xd, HOd, hrd⟩ := R_like sh_k102 hms_ HO.1; have HSd := Q_ (RowsS.trans sh102_trans HS.1 hrd); clear HO HS hrd HE; have HO := Q_ HOd; have HS := HSd; clear HOd HSd; have HE := Q_ (HS.1.at z102 HII.1); rw [← h.1, ← HTI.1] at HE; clear HB HK HM hms_ hxd hfd hw; have HB := n1_; have HK := n2_; have HM := n3_; clear n1_ n2_ n3_))
 go_roundg k1
 case measure => omega
 case rel => exact ⟨_, (wrap64 ((cnt E0.f2.length (cnt E0.f1.length (wrap64 (b + 1)))) + 1)), (wrap64 (a + 1)), i_1 + 1, el_, el_, HW5, ⟨by have := HN.1.1; omega, by have := HII.1; omega⟩, HS, ⟨by have h_ := HV.1; rw [getD_cons_drop z102 HII.1, ← h.1] at h_; exact h_⟩, ⟨pr_ HO.1⟩, ⟨qm_ HK.1⟩, ⟨qn_ HM.1⟩, ⟨pb_ HB.1⟩⟩


end Go.Proofs.Ytfhndlgbjhffiaa.Print
