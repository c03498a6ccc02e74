-- Written by a program of this session (printx.py) out of the translation; Lean checks it.
import Derived.Test.YtchnkakjjbfklaaPrint0
namespace Go.Proofs.Ytchnkakjjbfklaa.Print
open Go.RowKit Go.Proofs.YtchnkakjjbfklaaW.PrintWords Go.Proofs.YtchnkakjjbfklaaW.PrintLast Go.Proofs.YtchnkakjjbfklaaW.PrintMore Go.Proofs.Ytchnkakjjbfklaa.Short
attribute [local go_sem] max2_int min2_int max_two min_two max_three min_three max_four min_four   -- for this text's walks alone
set_option linter.unusedVariables false
set_option maxHeartbeats 8000000
set_option maxRecDepth 100000
set_option linter.unusedSimpArgs false

/-! ### laws_eqIntS: function 34 -/
def laws_eqIntS.l0 : Nat → List Int → List Int → Int → Option (Bool)
 | 0, _, _, _ => none
 | k + 1, b, c, a => if a < (b.length : Int) then (if 0 ≤ a then (if a < (c.length : Int) then (if (rd b a) = (rd c a) then (laws_eqIntS.l0 k b c (wrap64 (a + 1))) else (some false)) else (none)) else (none)) else (some true)
def laws_eqIntS.f (k : Nat) (a : List Int) (b : List Int) : Option (Bool) := if (a.length : Int) = (b.length : Int) then (laws_eqIntS.l0 k a b 0) else (some false)
theorem laws_eqIntS.mono_l : ∀ k, (∀ a b c, LeO (laws_eqIntS.l0 k a b c) (laws_eqIntS.l0 (k + 1) a b c))
 | 0 => fun _ _ _ r h => by simp [laws_eqIntS.l0] at h
 | k + 1 => by
  have ih0 := laws_eqIntS.mono_l k
  ·intro a b c
   unfold laws_eqIntS.l0
   exact mo1_ ih0
theorem laws_eqIntS.mono : ∀ a b k, LeO (laws_eqIntS.f k a b) (laws_eqIntS.f (k + 1) a b) := by
 intro a b k
 have ih0 := laws_eqIntS.mono_l k
 unfold laws_eqIntS.f
 exact mo1_ ih0
theorem laws_eqIntS.calls (k : Nat) (L : Option Addr) (N : Nat) (b : List Int) (M : Option Addr) (O : Nat) (c : List Int) (r : Bool) (w : World) (hr0 : Kd.C (Kd.int .i64) w L b.length b) (G : b.length ≤ N) (hr1 : Kd.C (Kd.int .i64) w M c.length c) (I : c.length ≤ O) (h : laws_eqIntS.f k b c = some r) :
  Calls Try.prog 34 #[.slice L b.length N, .slice M c.length O] w fun e w' => e = .returned (.bool r) ∧ Drawn0 w w' := by
 have x := Q_ hr0
 have R := Q_ G
 clear hr0 G
 have y := Q_ hr1
 have S := Q_ I
 clear hr1 I
 have H : (if (b.length : Int) = (c.length : Int) then (laws_eqIntS.l0 k b c 0) else (some false)) = some r := h
 clear h
 by_cases l : (b.length : Int) = (c.length : Int)
 rotate_left
 ·rw [if_neg l] at H
  have z : ((b.length : Int) == (c.length : Int)) = false := beq_eq_false_iff_ne.mpr l
  have A : ((b.length : Int) != (c.length : Int)) = true := bne_iff_ne.mpr l
  have B : (b.length == c.length) = false := by first | simpa using l | (simp at l ⊢; omega)
  obtain rfl := Option.some.inj H
  go_enter Try.func34, Try.ntmps34
  go_wp2
  repeat (go_quiet (fail); try go_wp2)
  go_ret
  exact ⟨by first | rfl | (simp; done) | (simp [*]; done), by repeat (first | exact Drawn0.refl _ | apply Drawn0.step)⟩
 rw [if_pos l] at H
 have z : ((b.length : Int) == (c.length : Int)) = true := beq_iff_eq.mpr l
 have A : ((b.length : Int) != (c.length : Int)) = false := bne_eq_false_iff_eq.mpr l
 have B : (b.length == c.length) = true := by first | simpa using l | (simp at l ⊢; omega)
 clear l
 have H' := Q_ H
 clear H
 go_enter Try.func34, Try.ntmps34
 go_wp2
 repeat (go_quiet (fail); try go_wp2)
 go_loopg [5] k (fun kq T w' => ∃ (a : Int), T = .int .i64 a ∧ Aside0 (laws_eqIntS.l0 kq b c a = some r) ∧ Aside0 (kq ≤ k) ∧ Drawn0 w w')
 case atStart => exact ⟨(0), el_, H', ⟨Nat.le_refl _⟩, by repeat (first | exact Drawn0.refl _ | apply Drawn0.step)⟩
 clear H'
 obtain ⟨a, rfl, HA, v, ⟨m1, rfl⟩⟩ := hrel
 rcases gk with _ | k1
 ·exact absurd HA.1 (by simp [laws_eqIntS.l0])
 have H := HA.1
 clear HA
 simp only [laws_eqIntS.l0] at H
 by_cases u : a < (b.length : Int)
 rotate_left
 ·rw [if_neg u] at H
  have D := decide_eq_false u
  clear u
  obtain rfl := Option.some.inj H
  go_wp2
  repeat (go_quiet (fail); try go_wp2)
  go_ret
  exact ⟨by first | rfl | (simp; done) | (simp [*]; done), by repeat (first | exact Drawn0.refl _ | apply Drawn0.step)⟩
 rw [if_pos u] at H
 have D := decide_eq_true u
 clear u
 by_cases J : 0 ≤ a
 rotate_left
 ·rw [if_neg J] at H
  exact nn_ H
 rw [if_pos J] at H
 have P := decide_eq_true J
 clear J
 by_cases K : a < (c.length : Int)
 rotate_left
 ·rw [if_neg K] at H
  exact nn_ H
 rw [if_pos K] at H
 have Q := decide_eq_true K
 clear K
 by_cases t : (rd b a) = (rd c a)
 rotate_left
 ·rw [if_neg t] at H
  have E : ((rd b a) == (rd c a)) = false := beq_eq_false_iff_ne.mpr t
  have F : ((rd b a) != (rd c a)) = true := bne_iff_ne.mpr t
  obtain rfl := Option.some.inj H
  have d : 0 ≤ (a : Int) := dt_
  have i : a < (b.length : Int) := dt_
  obtain ⟨q, m, o⟩ := Kd.at_int x.1 a d i
  cases m
  replace d := eq_true d
  replace i := eq_true i
  have g : 0 ≤ (a : Int) := dt_
  have j : a < (c.length : Int) := dt_
  obtain ⟨s, n, p⟩ := Kd.at_int y.1 a g j
  cases n
  replace g := eq_true g
  replace j := eq_true j
  go_wp2
  repeat (go_quiet (fail); try go_wp2)
  go_ret
  exact ⟨by first | rfl | (simp; done) | (simp [*]; done), by repeat (first | exact Drawn0.refl _ | apply Drawn0.step)⟩
 rw [if_pos t] at H
 have E : ((rd b a) == (rd c a)) = true := beq_iff_eq.mpr t
 have F : ((rd b a) != (rd c a)) = false := bne_eq_false_iff_eq.mpr t
 clear t
 have H' := Q_ H
 clear H
 have d : 0 ≤ (a : Int) := dt_
 have i : a < (b.length : Int) := dt_
 obtain ⟨q, m, o⟩ := Kd.at_int x.1 a d i
 cases m
 replace d := eq_true d
 replace i := eq_true i
 have g : 0 ≤ (a : Int) := dt_
 have j : a < (c.length : Int) := dt_
 obtain ⟨s, n, p⟩ := Kd.at_int y.1 a g j
 cases n
 replace g := eq_true g
 replace j := eq_true j
 go_wp2
 repeat (go_quiet (fail); try go_wp2)
 go_roundg k1
 case measure => have := v.1; omega
 case rel => exact ⟨(wrap64 (a + 1)), el_, H', ⟨by have := v.1; omega⟩, by repeat (first | exact Drawn0.refl _ | apply Drawn0.step)⟩

/-! ### laws_eqBox: function 102 -/
def laws_eqBox.f (k : Nat) (b : Int) (e : List Int) (g : List Int) (c : Bool) (d : Int) (h : List Int) (i : List Int) (a : Bool) : Option (Bool) := if b = d then ((laws_eqIntS.f k e h).bind fun j => (if j = true then ((laws_eqIntS.f k g i).bind fun l => (if l = true then (if c = true then (if a = true then (some true) else (some false)) else (if a = true then (some false) else (some true))) else (some false))) else (some false))) else (some false)
theorem laws_eqBox.mono : ∀ a b c d e g h i k, LeO (laws_eqBox.f k a b c d e g h i) (laws_eqBox.f (k + 1) a b c d e g h i) := by
 intro a b c d e g h i k
 unfold laws_eqBox.f
 exact mo1_ laws_eqIntS.mono
theorem laws_eqBox.calls (k : Nat) (j : Int) (v : Option Addr) (A : Nat) (m : List Int) (x : Option Addr) (B : Nat) (n : List Int) (s : Bool) (l : Int) (y : Option Addr) (D : Nat) (o : List Int) (z : Option Addr) (E : Nat) (p : List Int) (q : Bool) (r : Bool) (w : World) (hr0_1 : Kd.C (Kd.int .i64) w v m.length m) (I : m.length ≤ A) (hr0_2 : Kd.C (Kd.int .i64) w x n.length n) (J : n.length ≤ B) (hr1_1 : Kd.C (Kd.int .i64) w y o.length o) (K : o.length ≤ D) (hr1_2 : Kd.C (Kd.int .i64) w z p.length p) (L : p.length ≤ E) (h : laws_eqBox.f k j m n s l o p q = some r) :
  Calls Try.prog 102 #[.agg #[.int .i64 j, .slice v m.length A, .slice x n.length B, .bool s], .agg #[.int .i64 l, .slice y o.length D, .slice z p.length E, .bool q]] w fun e w' => e = .returned (.bool r) ∧ Below w.heap.size w w' := by
 have hu95 := Try.underlying95
 have Y := Q_ hr0_1
 have U := Q_ I
 clear hr0_1 I
 have Z := Q_ hr0_2
 have V := Q_ J
 clear hr0_2 J
 have aa := Q_ hr1_1
 have W := Q_ K
 clear hr1_1 K
 have ab := Q_ hr1_2
 have X := Q_ L
 clear hr1_2 L
 have HB := Q_ (Below.refl w.heap.size w)
 have H : (if j = l then ((laws_eqIntS.f k m o).bind fun F => (if F = true then ((laws_eqIntS.f k n p).bind fun G => (if G = true then (if s = true then (if q = true then (some true) else (some false)) else (if q = true then (some false) else (some true))) else (some false))) else (some false))) else (some false)) = some r := h
 clear h
 have HS_ := Q_ H
 clear H
 go_enter Try.func102, Try.ntmps102
 go_upto_region 1 with (first | ((with_reducible refine gate_dst (N := 2) rfl ?_); refine bx_ 2 #[.int .i64 j, .slice v m.length A, .slice x n.length B, .bool s] 95 ?_; intro ae hg w3 hbox hb; have _ := Q_ (below_step (pb_ HB.1) hb); have c := Q_ (hbox); have S := Q_ (gw_ (w := w) hg (pb_ HB.1)); have d := S; clear HB; rename_i HB; clear hb hbox hg) | ((with_reducible refine gate_dst (N := 3) rfl ?_); refine bx_ 3 #[.int .i64 l, .slice y o.length D, .slice z p.length E, .bool q] 95 ?_; intro af hg w4 hbox hb; have _ := Q_ (bb_ c.1 hb); have _ := Q_ (below_step (pb1_ HB.1 d.1) hb); have i := Q_ (hbox); have T := Q_ (gw_ (w := w) hg (pb1_ HB.1 d.1)); have g := T; have a := Q_ (nb_ hg c); have b := Q_ a.1.symm; clear c HB; rename_i c HB; clear hb hbox hg))
 (try simp only [Act.put, s1_, s2_, s3_])
 have H := HS_.1
 clear HS_
 by_cases c5 : j = l
 rotate_left
 ·rw [if_neg c5] at H
  have t : (j == l) = false := beq_eq_false_iff_ne.mpr c5
  have u : (j != l) = true := bne_iff_ne.mpr c5
  (first | rw [t] | (simp only [i64_w, i32_w]; rw [t]) | rw [u] | (have c_ := u; rw [bne] at c_; rw [c_]; clear c_) | skip)
  obtain rfl := Option.some.inj H
  have aI := a.1
  have aJ := b.1
  have aG := bc4_ c.1
  have aH := bc4_ i.1
  go_wp2
  go_ret
  exact ⟨er_, pb2_ HB.1 d.1 g.1⟩
 rw [if_pos c5] at H
 have t : (j == l) = true := beq_iff_eq.mpr c5
 have u : (j != l) = false := bne_eq_false_iff_eq.mpr c5
 clear c5
 (first | rw [t] | (simp only [i64_w, i32_w]; rw [t]) | rw [u] | (have c_ := u; rw [bne] at c_; rw [c_]; clear c_) | skip)
 obtain ⟨F, A9, H⟩ := bs_ H
 (try dsimp only at H)
 have HS_ := Q_ H
 clear H
 have au := a.1
 have aA := b.1
 have ag := bc4_ c.1
 have ah := bc4_ i.1
 go_upto_if 15 with (first | ((with_reducible refine gate_callee (f := 34) rfl ?_); refine gl_ (some 14) Try.func34 #[.slice v m.length A, .slice y o.length D] ?_; (with_reducible refine (laws_eqIntS.calls k _ _ m _ _ o F _ (cb_ Y HB) U.1 (cb_ aa HB) W.1 A9.1).mono ?_); rintro e w' ⟨rfl, ⟨nd, rfl⟩⟩; refine ⟨_, rfl, ?_⟩))
 (try simp only [Act.put, s1_, s2_, s3_])
 have H := HS_.1
 clear HS_
 by_cases M : F = true
 rotate_left
 ·replace M := bf_ M
  subst M
  rw [if_neg ff_] at H
  obtain rfl := Option.some.inj H
  go_wp2
  go_ret
  exact ⟨er_, pb2_ HB.1 d.1 g.1⟩
 subst M
 rw [if_pos rfl] at H
 obtain ⟨G, ad, H⟩ := bs_ H
 (try dsimp only at H)
 have HS_ := Q_ H
 clear H
 have av := a.1
 have aB := b.1
 have ai := bc4_ c.1
 have aj := bc4_ i.1
 go_upto_if 21 with (first | ((with_reducible refine gate_callee (f := 34) rfl ?_); refine gl_ (some 20) Try.func34 #[.slice x n.length B, .slice z p.length E] ?_; (with_reducible refine (laws_eqIntS.calls k _ _ n _ _ p G _ ?side1 V.1 ?side3 X.1 ad.1).mono ?_); (case side1 => exact pc_ (Kd.C_below Z.1 (pb2_ HB.1 d.1 g.1))); (case side3 => exact pc_ (Kd.C_below ab.1 (pb2_ HB.1 d.1 g.1))); rintro e w' ⟨rfl, ⟨nd, rfl⟩⟩; refine ⟨_, rfl, ?_⟩))
 (try simp only [Act.put, s1_, s2_, s3_])
 have H := HS_.1
 clear HS_
 by_cases O : G = true
 rotate_left
 ·replace O := bf_ O
  subst O
  rw [if_neg ff_] at H
  obtain rfl := Option.some.inj H
  go_wp2
  go_ret
  exact ⟨er_, pb2_ HB.1 d.1 g.1⟩
 subst O
 rw [if_pos rfl] at H
 by_cases P : s = true
 rotate_left
 ·replace P := bf_ P
  subst P
  rw [if_neg ff_] at H
  by_cases Q : q = true
  rotate_left
  ·replace Q := bf_ Q
   subst Q
   rw [if_neg ff_] at H
   obtain rfl := Option.some.inj H
   have aw := a.1
   have aC := b.1
   have ak := bc4_ c.1
   have al := bc4_ i.1
   go_wp2
   go_ret
   exact ⟨er_, pb2_ HB.1 d.1 g.1⟩
  subst Q
  rw [if_pos rfl] at H
  obtain rfl := Option.some.inj H
  have ax := a.1
  have aD := b.1
  have am := bc4_ c.1
  have an := bc4_ i.1
  go_wp2
  go_ret
  exact ⟨er_, pb2_ HB.1 d.1 g.1⟩
 subst P
 rw [if_pos rfl] at H
 by_cases R : q = true
 rotate_left
 ·replace R := bf_ R
  subst R
  rw [if_neg ff_] at H
  obtain rfl := Option.some.inj H
  have ay := a.1
  have aE := b.1
  have ao := bc4_ c.1
  have ap := bc4_ i.1
  go_wp2
  go_ret
  exact ⟨er_, pb2_ HB.1 d.1 g.1⟩
 subst R
 rw [if_pos rfl] at H
 obtain rfl := Option.some.inj H
 have az := a.1
 have aF := b.1
 have aq := bc4_ c.1
 have ar := bc4_ i.1
 go_wp2
 go_ret
 exact ⟨er_, pb2_ HB.1 d.1 g.1⟩

/-! ### laws_eqBoxS: function 90 -/
def laws_eqBoxS.l0 : Nat → List (S95) → List (S95) → Int → Option (Bool)
 | 0, _, _, _ => none
 | k + 1, b, c, a => if a < (b.length : Int) then (if 0 ≤ a then (if a < (c.length : Int) then ((laws_eqBox.f k ((rd_T95 b a).f0) ((rd_T95 b a).f1) ((rd_T95 b a).f2) ((rd_T95 b a).f3) ((rd_T95 c a).f0) ((rd_T95 c a).f1) ((rd_T95 c a).f2) ((rd_T95 c a).f3)).bind fun d => (if d = true then (laws_eqBoxS.l0 k b c (wrap64 (a + 1))) else (some false))) else (none)) else (none)) else (some true)
def laws_eqBoxS.f (k : Nat) (a : List (S95)) (b : List (S95)) : Option (Bool) := if (a.length : Int) = (b.length : Int) then (laws_eqBoxS.l0 k a b 0) else (some false)
theorem laws_eqBoxS.mono_l : ∀ k, (∀ a b c, LeO (laws_eqBoxS.l0 k a b c) (laws_eqBoxS.l0 (k + 1) a b c))
 | 0 => fun _ _ _ r h => by simp [laws_eqBoxS.l0] at h
 | k + 1 => by
  have ih0 := laws_eqBoxS.mono_l k
  ·intro a b c
   unfold laws_eqBoxS.l0
   exact mo2_ ih0 laws_eqBox.mono
theorem laws_eqBoxS.mono : ∀ a b k, LeO (laws_eqBoxS.f k a b) (laws_eqBoxS.f (k + 1) a b) := by
 intro a b k
 have ih0 := laws_eqBoxS.mono_l k
 unfold laws_eqBoxS.f
 exact mo2_ ih0 laws_eqBox.mono
def laws_eqBoxS.T6 : Bool × List (List Nat × List Nat) := (true, [([], []), ([], []), ([0, 1], [0, 1]), ([2], [2]), ([], []), ([], []), ([4, 5], [4, 5]), ([6], [6]), ([3, 7], [3, 7]), ([8], [8])])
def laws_eqBoxS.B6 : List Nat := [0, 0, 3, 7, 0, 0, 48, 112, 255, 511]
theorem laws_eqBoxS.tab6 : rtab .any (opsOf Try.f90 6) = laws_eqBoxS.T6 := by kernel_rfl
theorem laws_eqBoxS.bits6 : waitsOk laws_eqBoxS.T6.2 laws_eqBoxS.B6 = true := by kernel_rfl
theorem laws_eqBoxS.calls (k : Nat) (A0 : Option Addr) (c0 : Nat) (q : List (S95)) (A1 : Option Addr) (c1 : Nat) (s : List (S95)) (r : Bool) (w : World) (hr0 : Kd.C k95 w A0 q.length q) (al : q.length ≤ c0) (hr1 : Kd.C k95 w A1 s.length s) (am : s.length ≤ c1) (h : laws_eqBoxS.f k q s = some r) :
  Calls Try.prog 90 #[.slice A0 q.length c0, .slice A1 s.length c1] w fun e w' => e = .returned (.bool r) ∧ Below w.heap.size w w' := by
 have hu95 := Try.underlying95
 have ap := Q_ hr0
 have aA := Q_ al
 clear hr0 al
 have aq := Q_ hr1
 have aB := Q_ am
 clear hr1 am
 have HB := Q_ (Below.refl w.heap.size w)
 have H : (if (q.length : Int) = (s.length : Int) then (laws_eqBoxS.l0 k q s 0) else (some false)) = some r := h
 clear h
 by_cases W : (q.length : Int) = (s.length : Int)
 rotate_left
 ·rw [if_neg W] at H
  have af : ((q.length : Int) == (s.length : Int)) = false := beq_eq_false_iff_ne.mpr W
  have ag : ((q.length : Int) != (s.length : Int)) = true := bne_iff_ne.mpr W
  have ah : (q.length == s.length) = false := by first | simpa using W | (simp at W ⊢; omega)
  obtain rfl := Option.some.inj H
  go_enter Try.func90, Try.ntmps90
  go_wp2
  go_ret
  exact ⟨er_, pb_ HB.1⟩
 rw [if_pos W] at H
 have af : ((q.length : Int) == (s.length : Int)) = true := beq_iff_eq.mpr W
 have ag : ((q.length : Int) != (s.length : Int)) = false := bne_eq_false_iff_eq.mpr W
 have ah : (q.length == s.length) = true := by first | simpa using W | (simp at W ⊢; omega)
 clear W
 have H' := Q_ H
 clear H
 go_enter Try.func90, Try.ntmps90
 go_wp2
 go_loopg [5] k (fun kq v5 w' => ∃ (a : Int), v5 = .int .i64 a ∧ Aside0 (laws_eqBoxS.l0 kq q s a = some r) ∧ Aside0 (kq ≤ k) ∧ Aside0 (Below w.heap.size w w'))
 case atStart => exact ⟨(0), el_, H', ⟨Nat.le_refl _⟩, ⟨pb_ HB.1⟩⟩
 clear H'
 obtain ⟨a, rfl, HA, ae, HB⟩ := hrel
 rcases gk with _ | k1
 ·exact absurd HA.1 (by simp [laws_eqBoxS.l0])
 have H := HA.1
 clear HA
 simp only [laws_eqBoxS.l0] at H
 by_cases c4 : a < (q.length : Int)
 rotate_left
 ·rw [if_neg c4] at H
  have ai := decide_eq_false c4
  clear c4
  obtain rfl := Option.some.inj H
  go_wp2
  go_ret
  exact ⟨er_, pb_ HB.1⟩
 rw [if_pos c4] at H
 have ai := decide_eq_true c4
 clear c4
 by_cases c5 : 0 ≤ a
 rotate_left
 ·rw [if_neg c5] at H
  exact nn_ H
 rw [if_pos c5] at H
 have ax := decide_eq_true c5
 clear c5
 by_cases c6 : a < (s.length : Int)
 rotate_left
 ·rw [if_neg c6] at H
  exact nn_ H
 rw [if_pos c6] at H
 have ay := decide_eq_true c6
 clear c6
 obtain ⟨ac, A7, H⟩ := bs_ H
 (try dsimp only at H)
 have HS_ := Q_ H
 clear H
 try go_wp2
 have _ := Q_ (below_drew1 HB.1)
 clear HB
 rename_i HB
 have X : 0 ≤ (a : Int) := dt_
 have Z : a < (q.length : Int) := dt_
 obtain ⟨b, I, N, J, O, aj, d, g, i, j, R, t, T, u⟩ := at_U95 ap.1 a X Z
 have B := j
 have A := i
 have z := g
 have y := d
 cases aj
 replace d := bt_ HB d
 replace g := bt_ HB g
 replace i := bt_ HB i
 replace j := bt_ HB j
 replace X := eq_true X
 replace Z := eq_true Z
 have Y : 0 ≤ (a : Int) := dt_
 have aa : a < (s.length : Int) := dt_
 obtain ⟨c, L, P, M, Q, ak, l, m, o, p, U, v, V, x⟩ := at_U95 aq.1 a Y aa
 have G := p
 have F := o
 have E := m
 have D := l
 cases ak
 replace l := bt_ HB l
 replace m := bt_ HB m
 replace o := bt_ HB o
 replace p := bt_ HB p
 replace Y := eq_true Y
 replace aa := eq_true aa
 refine start_ (n := 10) (S := fun w' => w'.cell? (b.add ((a).toNat * 4)) = some (.int .i64 ((rd_T95 q a).f0)) ∧ w'.cell? ⟨(b.add ((a).toNat * 4)).block, (b.add ((a).toNat * 4)).off + 1, none⟩ = some (.slice I ((rd_T95 q a).f1).length N) ∧ w'.cell? ⟨(b.add ((a).toNat * 4)).block, (b.add ((a).toNat * 4)).off + 2, none⟩ = some (.slice J ((rd_T95 q a).f2).length O) ∧ w'.cell? ⟨(b.add ((a).toNat * 4)).block, (b.add ((a).toNat * 4)).off + 3, none⟩ = some (.bool ((rd_T95 q a).f3)) ∧ w'.cell? (c.add ((a).toNat * 4)) = some (.int .i64 ((rd_T95 s a).f0)) ∧ w'.cell? ⟨(c.add ((a).toNat * 4)).block, (c.add ((a).toNat * 4)).off + 1, none⟩ = some (.slice L ((rd_T95 s a).f1).length P) ∧ w'.cell? ⟨(c.add ((a).toNat * 4)).block, (c.add ((a).toNat * 4)).off + 2, none⟩ = some (.slice M ((rd_T95 s a).f2).length Q) ∧ w'.cell? ⟨(c.add ((a).toNat * 4)).block, (c.add ((a).toNat * 4)).off + 3, none⟩ = some (.bool ((rd_T95 s a).f3))) (ds := []) (tf_ 0 10) (by kernel_rfl) rfl rfl ⟨(bt_ HB y), (bt_ HB z), (bt_ HB A), (bt_ HB B), (bt_ HB D), (bt_ HB E), (bt_ HB F), (bt_ HB G)⟩ (fun hHeld => ?_); refine with_tabW laws_eqBoxS.tab6 laws_eqBoxS.bits6 (fun HT_ HW_ => ?_)
 generalize wr.drew = w8 at HB t u v x d g i j l m o p hHeld ⊢
 refine pu1_ 0 17 10 1 ?_
 refine pu1_ 1 18 10 3 ?_
 refine pu1_ 2 19 10 7 ?_
 refine pu1_ 4 21 10 23 ?_
 refine pu1_ 5 22 10 55 ?_
 refine pu1_ 6 23 10 119 ?_
 refine ta1_ 3 20 10 127 hHeld ?_
 refine ta1_ 7 24 10 255 hHeld ?_
 refine on_ 8 (some 25) (tf_ 9 10) HT_ (fun K hK => ?_)
 refine goes_ Try.func102 (by kernel_rfl) rfl #[.agg #[.int .i64 ((rd_T95 q a).f0), .slice I ((rd_T95 q a).f1).length N, .slice J ((rd_T95 q a).f2).length O, .bool ((rd_T95 q a).f3)], .agg #[.int .i64 ((rd_T95 s a).f0), .slice L ((rd_T95 s a).f1).length P, .slice M ((rd_T95 s a).f2).length Q, .bool ((rd_T95 s a).f3)]] (by rfl) rfl rfl mp_ ?_
 with_reducible refine (laws_eqBox.calls k1 ((rd_T95 q a).f0) _ _ ((rd_T95 q a).f1) _ _ ((rd_T95 q a).f2) ((rd_T95 q a).f3) ((rd_T95 s a).f0) _ _ ((rd_T95 s a).f1) _ _ ((rd_T95 s a).f2) ((rd_T95 s a).f3) ac _ (cb_ t HB) R.1 (cb_ u HB) T.1 (cb_ v HB) U.1 (cb_ x HB) V.1 A7.1).mono ?_
 rintro e w9 ⟨rfl, hb⟩
 refine ⟨_, rfl, ?_⟩
 have _ := Q_ (below_step (pb_ HB.1) hb)
 clear HB
 rename_i HB
 (try clear hb)
 refine hK.out _ _ ⟨(bt_ HB y), (bt_ HB z), (bt_ HB A), (bt_ HB B), (bt_ HB D), (bt_ HB E), (bt_ HB F), (bt_ HB G)⟩ (fun hHeld => ?_)
 clear hK K
 refine no_ (some 25) ?_
 refine pu1_ 9 26 10 1023 ?_
 refine done_ (done_of HT_.1 (by kernel_rfl)) ?_
 go_upto_if 26 with (fail)
 have H := HS_.1
 clear HS_
 by_cases ab : ac = true
 rotate_left
 ·replace ab := bf_ ab
  subst ab
  rw [if_neg ff_] at H
  obtain rfl := Option.some.inj H
  go_wp2
  go_ret
  exact ⟨er_, pb_ HB.1⟩
 subst ab
 rw [if_pos rfl] at H
 have H' := Q_ H
 clear H
 go_wp2
 go_roundg k1
 case measure => have := ae.1; omega
 case rel => exact ⟨(wrap64 (a + 1)), el_, H', ⟨by have := ae.1; omega⟩, ⟨pb_ HB.1⟩⟩

/-! ### laws_eqEndpoint: function 69 -/
def laws_eqEndpoint.f (k : Nat) (c : List Int) (d : List Int) (e : List (S95)) (a : Int) (g : List Int) (h : List Int) (i : List (S95)) (b : Int) : Option (Bool) := (laws_eqIntS.f k c g).bind fun j => (if j = true then ((laws_eqIntS.f k d h).bind fun l => (if l = true then ((laws_eqBoxS.f k e i).bind fun m => (if m = true then (if a = b then (some true) else (some false)) else (some false))) else (some false))) else (some false))
theorem laws_eqEndpoint.mono : ∀ a b c d e g h i k, LeO (laws_eqEndpoint.f k a b c d e g h i) (laws_eqEndpoint.f (k + 1) a b c d e g h i) := by
 intro a b c d e g h i k
 unfold laws_eqEndpoint.f
 exact mo2_ laws_eqBoxS.mono laws_eqIntS.mono
theorem laws_eqEndpoint.calls (k : Nat) (x : Option Addr) (E : Nat) (m : List Int) (y : Option Addr) (F : Nat) (n : List Int) (z : Option Addr) (G : Nat) (o : List (S95)) (j : Int) (A : Option Addr) (I : Nat) (p : List Int) (B : Option Addr) (J : Nat) (q : List Int) (D : Option Addr) (K : Nat) (s : List (S95)) (l : Int) (r : Bool) (w : World) (hr0_0 : Kd.C (Kd.int .i64) w x m.length m) (P : m.length ≤ E) (hr0_1 : Kd.C (Kd.int .i64) w y n.length n) (Q : n.length ≤ F) (hr0_2 : Kd.C k95 w z o.length o) (R : o.length ≤ G) (hr1_0 : Kd.C (Kd.int .i64) w A p.length p) (S : p.length ≤ I) (hr1_1 : Kd.C (Kd.int .i64) w B q.length q) (T : q.length ≤ J) (hr1_2 : Kd.C k95 w D s.length s) (U : s.length ≤ K) (h : laws_eqEndpoint.f k m n o j p q s l = some r) :
  Calls Try.prog 69 #[.agg #[.slice x m.length E, .slice y n.length F, .slice z o.length G, .int .i64 j], .agg #[.slice A p.length I, .slice B q.length J, .slice D s.length K, .int .i64 l]] w fun e w' => e = .returned (.bool r) ∧ Below w.heap.size w w' := by
 have hu50 := Try.underlying50
 have af := Q_ hr0_0
 have Z := Q_ P
 clear hr0_0 P
 have ag := Q_ hr0_1
 have aa := Q_ Q
 clear hr0_1 Q
 have ah := Q_ hr0_2
 have ab := Q_ R
 clear hr0_2 R
 have ai := Q_ hr1_0
 have ac := Q_ S
 clear hr1_0 S
 have aj := Q_ hr1_1
 have ad := Q_ T
 clear hr1_1 T
 have ak := Q_ hr1_2
 have ae := Q_ U
 clear hr1_2 U
 have HB := Q_ (Below.refl w.heap.size w)
 have H : ((laws_eqIntS.f k m p).bind fun L => (if L = true then ((laws_eqIntS.f k n q).bind fun M => (if M = true then ((laws_eqBoxS.f k o s).bind fun O => (if O = true then (if j = l then (some true) else (some false)) else (some false))) else (some false))) else (some false))) = some r := h
 clear h
 have HS_ := Q_ H
 clear H
 go_enter Try.func69, Try.ntmps69
 go_upto_region 1 with (first | ((with_reducible refine gate_dst (N := 2) rfl ?_); refine bx_ 2 #[.slice x m.length E, .slice y n.length F, .slice z o.length G, .int .i64 j] 50 ?_; intro ao hg w3 hbox hb; have _ := Q_ (below_step (pb_ HB.1) hb); have b := Q_ (hbox); have X := Q_ (gw_ (w := w) hg (pb_ HB.1)); have c := X; clear HB; rename_i HB; clear hb hbox hg) | ((with_reducible refine gate_dst (N := 3) rfl ?_); refine bx_ 3 #[.slice A p.length I, .slice B q.length J, .slice D s.length K, .int .i64 l] 50 ?_; intro ap hg w4 hbox hb; have _ := Q_ (bb_ b.1 hb); have _ := Q_ (below_step (pb1_ HB.1 c.1) hb); have i := Q_ (hbox); have Y := Q_ (gw_ (w := w) hg (pb1_ HB.1 c.1)); have g := Y; have a := Q_ (nb_ hg b); have d := Q_ a.1.symm; clear b HB; rename_i b HB; clear hb hbox hg))
 (try simp only [Act.put, s1_, s2_, s3_])
 have H := HS_.1
 clear HS_
 obtain ⟨L, A5, H⟩ := bs_ H
 (try dsimp only at H)
 have HS_ := Q_ H
 clear H
 have aK := a.1
 have aL := d.1
 have aI := bc4_ b.1
 have aJ := bc4_ i.1
 go_upto_if 10 with (first | ((with_reducible refine gate_callee (f := 34) rfl ?_); refine gl_ (some 9) Try.func34 #[.slice x m.length E, .slice A p.length I] ?_; (with_reducible refine (laws_eqIntS.calls k _ _ m _ _ p L _ (cb_ af HB) Z.1 (cb_ ai HB) ac.1 A5.1).mono ?_); rintro e w' ⟨rfl, ⟨nd, rfl⟩⟩; refine ⟨_, rfl, ?_⟩))
 (try simp only [Act.put, s1_, s2_, s3_])
 have H := HS_.1
 clear HS_
 by_cases c9 : L = true
 rotate_left
 ·replace c9 := bf_ c9
  subst c9
  rw [if_neg ff_] at H
  obtain rfl := Option.some.inj H
  go_wp2
  go_ret
  exact ⟨er_, pb2_ HB.1 c.1 g.1⟩
 subst c9
 rw [if_pos rfl] at H
 obtain ⟨M, am, H⟩ := bs_ H
 (try dsimp only at H)
 have HS_ := Q_ H
 clear H
 have aA := a.1
 have aE := d.1
 have aq := bc4_ b.1
 have ar := bc4_ i.1
 go_upto_if 16 with (first | ((with_reducible refine gate_callee (f := 34) rfl ?_); refine gl_ (some 15) Try.func34 #[.slice y n.length F, .slice B q.length J] ?_; (with_reducible refine (laws_eqIntS.calls k _ _ n _ _ q M _ ?side1 aa.1 ?side3 ad.1 am.1).mono ?_); (case side1 => exact pc_ (Kd.C_below ag.1 (pb2_ HB.1 c.1 g.1))); (case side3 => exact pc_ (Kd.C_below aj.1 (pb2_ HB.1 c.1 g.1))); rintro e w' ⟨rfl, ⟨nd, rfl⟩⟩; refine ⟨_, rfl, ?_⟩))
 (try simp only [Act.put, s1_, s2_, s3_])
 have H := HS_.1
 clear HS_
 by_cases V : M = true
 rotate_left
 ·replace V := bf_ V
  subst V
  rw [if_neg ff_] at H
  obtain rfl := Option.some.inj H
  go_wp2
  go_ret
  exact ⟨er_, pb2_ HB.1 c.1 g.1⟩
 subst V
 rw [if_pos rfl] at H
 obtain ⟨O, an, H⟩ := bs_ H
 (try dsimp only at H)
 have HS_ := Q_ H
 clear H
 have aB := a.1
 have aF := d.1
 have au := bc4_ b.1
 have av := bc4_ i.1
 go_upto_if 22 with (first | ((with_reducible refine gate_callee (f := 90) rfl ?_); refine gl_ (some 21) Try.func90 #[.slice z o.length G, .slice D s.length K] ?_; (with_reducible refine (laws_eqBoxS.calls k _ _ o _ _ s O _ ?side1 ab.1 ?side3 ae.1 an.1).mono ?_); (case side1 => exact pc_ (Kd.C_below ah.1 (pb2_ HB.1 c.1 g.1))); (case side3 => exact pc_ (Kd.C_below ak.1 (pb2_ HB.1 c.1 g.1))); rintro e aN ⟨rfl, hb⟩; refine ⟨_, rfl, ?_⟩; have _ := Q_ (bb_ b.1 hb); have _ := Q_ (bb_ i.1 hb); have _ := Q_ (below_step (pb2_ HB.1 c.1 g.1) hb); clear b i HB; rename_i b i HB; (try clear hb)))
 (try simp only [Act.put, s1_, s2_, s3_])
 have H := HS_.1
 clear HS_
 by_cases W : O = true
 rotate_left
 ·replace W := bf_ W
  subst W
  rw [if_neg ff_] at H
  obtain rfl := Option.some.inj H
  go_wp2
  go_ret
  exact ⟨er_, pb2_ HB.1 c.1 g.1⟩
 subst W
 rw [if_pos rfl] at H
 by_cases v : j = l
 rotate_left
 ·rw [if_neg v] at H
  have t : (j == l) = false := beq_eq_false_iff_ne.mpr v
  have u : (j != l) = true := bne_iff_ne.mpr v
  (first | rw [t] | (simp only [i64_w, i32_w]; rw [t]) | rw [u] | (have c_ := u; rw [bne] at c_; rw [c_]; clear c_) | skip)
  obtain rfl := Option.some.inj H
  have aC := a.1
  have aG := d.1
  have aw := bc4_ b.1
  have ax := bc4_ i.1
  go_wp2
  go_ret
  exact ⟨er_, pb2_ HB.1 c.1 g.1⟩
 rw [if_pos v] at H
 have t : (j == l) = true := beq_iff_eq.mpr v
 have u : (j != l) = false := bne_eq_false_iff_eq.mpr v
 clear v
 (first | rw [t] | (simp only [i64_w, i32_w]; rw [t]) | rw [u] | (have c_ := u; rw [bne] at c_; rw [c_]; clear c_) | skip)
 obtain rfl := Option.some.inj H
 have aD := a.1
 have aH := d.1
 have ay := bc4_ b.1
 have az := bc4_ i.1
 go_wp2
 go_ret
 exact ⟨er_, pb2_ HB.1 c.1 g.1⟩

end Go.Proofs.Ytchnkakjjbfklaa.Print
