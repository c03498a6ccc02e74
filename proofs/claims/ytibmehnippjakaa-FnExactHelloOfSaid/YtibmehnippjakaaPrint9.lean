-- Written by a program of this session (printx.py) out of the translation; Lean checks it.
import Derived.Test.YtibmehnippjakaaPrint0
namespace Go.Proofs.Ytibmehnippjakaa.Print
open Go.RowKit Go.Proofs.YtibmehnippjakaaW.PrintWords Go.Proofs.YtibmehnippjakaaW.PrintLast Go.Proofs.YtibmehnippjakaaW.PrintMore Go.Proofs.Ytibmehnippjakaa.Short
attribute [local go_sem] max2_int min2_int max_two min_two max_three min_three max_four min_four   -- for this text's walks alone
set_option linter.unusedVariables false
set_option maxHeartbeats 8000000
set_option maxRecDepth 100000
set_option linter.unusedSimpArgs false

/-! ### laws_eqIntS: function 21 -/
def laws_eqIntS.l0 : Nat → List Int → List Int → Int → Option (Bool)
 | 0, _, _, _ => none
 | k + 1, b, c, a => if a < (b.length : Int) then (if 0 ≤ a then (if a < (c.length : Int) then (if (rd b a) = (rd c a) then (laws_eqIntS.l0 k b c (wrap64 (a + 1))) else (some false)) else (none)) else (none)) else (some true)
def laws_eqIntS.f (k : Nat) (a : List Int) (b : List Int) : Option (Bool) := if (a.length : Int) = (b.length : Int) then (laws_eqIntS.l0 k a b 0) else (some false)
theorem laws_eqIntS.mono_l : ∀ k, (∀ a b c, LeO (laws_eqIntS.l0 k a b c) (laws_eqIntS.l0 (k + 1) a b c))
 | 0 => fun _ _ _ r h => by simp [laws_eqIntS.l0] at h
 | k + 1 => by
  have ih0 := laws_eqIntS.mono_l k
  ·intro a b c
   unfold laws_eqIntS.l0
   exact mo1_ ih0
theorem laws_eqIntS.mono : ∀ a b k, LeO (laws_eqIntS.f k a b) (laws_eqIntS.f (k + 1) a b) := by
 intro a b k
 have ih0 := laws_eqIntS.mono_l k
 unfold laws_eqIntS.f
 exact mo1_ ih0
theorem laws_eqIntS.calls (k : Nat) (L : Option Addr) (N : Nat) (b : List Int) (M : Option Addr) (O : Nat) (c : List Int) (r : Bool) (w : World) (hr0 : Kd.C (Kd.int .i64) w L b.length b) (G : b.length ≤ N) (hr1 : Kd.C (Kd.int .i64) w M c.length c) (I : c.length ≤ O) (h : laws_eqIntS.f k b c = some r) :
  Calls Try.prog 21 #[.slice L b.length N, .slice M c.length O] w fun e w' => e = .returned (.bool r) ∧ Drawn0 w w' := by
 have x := Q_ hr0
 have R := Q_ G
 clear hr0 G
 have y := Q_ hr1
 have S := Q_ I
 clear hr1 I
 have H : (if (b.length : Int) = (c.length : Int) then (laws_eqIntS.l0 k b c 0) else (some false)) = some r := h
 clear h
 by_cases l : (b.length : Int) = (c.length : Int)
 rotate_left
 ·rw [if_neg l] at H
  have z : ((b.length : Int) == (c.length : Int)) = false := beq_eq_false_iff_ne.mpr l
  have A : ((b.length : Int) != (c.length : Int)) = true := bne_iff_ne.mpr l
  have B : (b.length == c.length) = false := by first | simpa using l | (simp at l ⊢; omega)
  obtain rfl := Option.some.inj H
  go_enter Try.func21, Try.ntmps21
  go_wp2
  repeat (go_quiet (fail); try go_wp2)
  go_ret
  exact ⟨by first | rfl | (simp; done) | (simp [*]; done), by repeat (first | exact Drawn0.refl _ | apply Drawn0.step)⟩
 rw [if_pos l] at H
 have z : ((b.length : Int) == (c.length : Int)) = true := beq_iff_eq.mpr l
 have A : ((b.length : Int) != (c.length : Int)) = false := bne_eq_false_iff_eq.mpr l
 have B : (b.length == c.length) = true := by first | simpa using l | (simp at l ⊢; omega)
 clear l
 have H' := Q_ H
 clear H
 go_enter Try.func21, Try.ntmps21
 go_wp2
 repeat (go_quiet (fail); try go_wp2)
 go_loopg [5] k (fun kq T w' => ∃ (a : Int), T = .int .i64 a ∧ Aside0 (laws_eqIntS.l0 kq b c a = some r) ∧ Aside0 (kq ≤ k) ∧ Drawn0 w w')
 case atStart => exact ⟨(0), el_, H', ⟨Nat.le_refl _⟩, by repeat (first | exact Drawn0.refl _ | apply Drawn0.step)⟩
 clear H'
 obtain ⟨a, rfl, HA, v, ⟨m1, rfl⟩⟩ := hrel
 rcases gk with _ | k1
 ·exact absurd HA.1 (by simp [laws_eqIntS.l0])
 have H := HA.1
 clear HA
 simp only [laws_eqIntS.l0] at H
 by_cases u : a < (b.length : Int)
 rotate_left
 ·rw [if_neg u] at H
  have D := decide_eq_false u
  clear u
  obtain rfl := Option.some.inj H
  go_wp2
  repeat (go_quiet (fail); try go_wp2)
  go_ret
  exact ⟨by first | rfl | (simp; done) | (simp [*]; done), by repeat (first | exact Drawn0.refl _ | apply Drawn0.step)⟩
 rw [if_pos u] at H
 have D := decide_eq_true u
 clear u
 by_cases J : 0 ≤ a
 rotate_left
 ·rw [if_neg J] at H
  exact nn_ H
 rw [if_pos J] at H
 have P := decide_eq_true J
 clear J
 by_cases K : a < (c.length : Int)
 rotate_left
 ·rw [if_neg K] at H
  exact nn_ H
 rw [if_pos K] at H
 have Q := decide_eq_true K
 clear K
 by_cases t : (rd b a) = (rd c a)
 rotate_left
 ·rw [if_neg t] at H
  have E : ((rd b a) == (rd c a)) = false := beq_eq_false_iff_ne.mpr t
  have F : ((rd b a) != (rd c a)) = true := bne_iff_ne.mpr t
  obtain rfl := Option.some.inj H
  have d : 0 ≤ (a : Int) := dt_
  have i : a < (b.length : Int) := dt_
  obtain ⟨q, m, o⟩ := Kd.at_int x.1 a d i
  cases m
  replace d := eq_true d
  replace i := eq_true i
  have g : 0 ≤ (a : Int) := dt_
  have j : a < (c.length : Int) := dt_
  obtain ⟨s, n, p⟩ := Kd.at_int y.1 a g j
  cases n
  replace g := eq_true g
  replace j := eq_true j
  go_wp2
  repeat (go_quiet (fail); try go_wp2)
  go_ret
  exact ⟨by first | rfl | (simp; done) | (simp [*]; done), by repeat (first | exact Drawn0.refl _ | apply Drawn0.step)⟩
 rw [if_pos t] at H
 have E : ((rd b a) == (rd c a)) = true := beq_iff_eq.mpr t
 have F : ((rd b a) != (rd c a)) = false := bne_eq_false_iff_eq.mpr t
 clear t
 have H' := Q_ H
 clear H
 have d : 0 ≤ (a : Int) := dt_
 have i : a < (b.length : Int) := dt_
 obtain ⟨q, m, o⟩ := Kd.at_int x.1 a d i
 cases m
 replace d := eq_true d
 replace i := eq_true i
 have g : 0 ≤ (a : Int) := dt_
 have j : a < (c.length : Int) := dt_
 obtain ⟨s, n, p⟩ := Kd.at_int y.1 a g j
 cases n
 replace g := eq_true g
 replace j := eq_true j
 go_wp2
 repeat (go_quiet (fail); try go_wp2)
 go_roundg k1
 case measure => have := v.1; omega
 case rel => exact ⟨(wrap64 (a + 1)), el_, H', ⟨by have := v.1; omega⟩, by repeat (first | exact Drawn0.refl _ | apply Drawn0.step)⟩

/-! ### laws_eqExt: function 54 -/
def laws_eqExt.f (k : Nat) (a : Int) (c : List Int) (b : Int) (d : List Int) : Option (Bool) := if a = b then ((laws_eqIntS.f k c d).bind fun e => (if e = true then (some true) else (some false))) else (some false)
theorem laws_eqExt.mono : ∀ a b c d k, LeO (laws_eqExt.f k a b c d) (laws_eqExt.f (k + 1) a b c d) := by
 intro a b c d k
 unfold laws_eqExt.f
 exact mo1_ laws_eqIntS.mono
theorem laws_eqExt.calls (k : Nat) (b : Int) (q : Option Addr) (t : Nat) (d : List Int) (c : Int) (s : Option Addr) (u : Nat) (g : List Int) (r : Bool) (w : World) (hr0_1 : Kd.C (Kd.int .i64) w q d.length d) (x : d.length ≤ t) (hr1_1 : Kd.C (Kd.int .i64) w s g.length g) (y : g.length ≤ u) (h : laws_eqExt.f k b d c g = some r) :
  Calls Try.prog 54 #[.agg #[.int .i64 b, .slice q d.length t], .agg #[.int .i64 c, .slice s g.length u]] w fun e w' => e = .returned (.bool r) ∧ Below w.heap.size w w' := by
 have hu44 := Try.underlying44
 have F := Q_ hr0_1
 have D := Q_ x
 clear hr0_1 x
 have G := Q_ hr1_1
 have E := Q_ y
 clear hr1_1 y
 have HB := Q_ (Below.refl w.heap.size w)
 have H : (if b = c then ((laws_eqIntS.f k d g).bind fun o => (if o = true then (some true) else (some false))) else (some false)) = some r := h
 clear h
 have HS_ := Q_ H
 clear H
 go_enter Try.func54, Try.ntmps54
 go_upto_region 1 with (first | ((with_reducible refine gate_dst (N := 2) rfl ?_); refine bx_ 2 #[.int .i64 b, .slice q d.length t] 44 ?_; intro J hg V hbox hb; have _ := Q_ (below_step (pb_ HB.1) hb); have i := Q_ (hbox); have A := Q_ (gw_ (w := w) hg (pb_ HB.1)); have j := A; clear HB; rename_i HB; clear hb hbox hg) | ((with_reducible refine gate_dst (N := 3) rfl ?_); refine bx_ 3 #[.int .i64 c, .slice s g.length u] 44 ?_; intro K hg W hbox hb; have _ := Q_ (bb_ i.1 hb); have _ := Q_ (below_step (pb1_ HB.1 j.1) hb); have v := Q_ (hbox); have B := Q_ (gw_ (w := w) hg (pb1_ HB.1 j.1)); have p := B; have a := Q_ (nb_ hg i); have l := Q_ a.1.symm; clear i HB; rename_i i HB; clear hb hbox hg))
 (try simp only [Act.put, s1_, s2_, s3_])
 have H := HS_.1
 clear HS_
 by_cases I : b = c
 rotate_left
 ·rw [if_neg I] at H
  have m : (b == c) = false := beq_eq_false_iff_ne.mpr I
  have n : (b != c) = true := bne_iff_ne.mpr I
  (first | rw [m] | (simp only [i64_w, i32_w]; rw [m]) | rw [n] | (have c_ := n; rw [bne] at c_; rw [c_]; clear c_) | skip)
  obtain rfl := Option.some.inj H
  have S := a.1
  have T := l.1
  have Q := bc2_ i.1
  have R := bc2_ v.1
  go_wp2
  go_ret
  exact ⟨er_, pb2_ HB.1 j.1 p.1⟩
 rw [if_pos I] at H
 have m : (b == c) = true := beq_iff_eq.mpr I
 have n : (b != c) = false := bne_eq_false_iff_eq.mpr I
 clear I
 (first | rw [m] | (simp only [i64_w, i32_w]; rw [m]) | rw [n] | (have c_ := n; rw [bne] at c_; rw [c_]; clear c_) | skip)
 obtain ⟨o, U, H⟩ := bs_ H
 replace H : (if o = true then (some true) else (some false)) = some r := H
 have HS_ := Q_ H
 clear H
 have O := a.1
 have P := l.1
 have L := bc2_ i.1
 have M := bc2_ v.1
 go_upto_if 15 with (first | ((with_reducible refine gate_callee (f := 21) rfl ?_); refine gl_ (some 14) Try.func21 #[.slice q d.length t, .slice s g.length u] ?_; (with_reducible refine (laws_eqIntS.calls k _ _ d _ _ g o _ (cb_ F HB) D.1 (cb_ G HB) E.1 U.1).mono ?_); rintro e w' ⟨rfl, ⟨nd, rfl⟩⟩; refine ⟨_, rfl, ?_⟩))
 (try simp only [Act.put, s1_, s2_, s3_])
 have H := HS_.1
 clear HS_
 by_cases z : o = true
 rotate_left
 ·replace z := bf_ z
  subst z
  rw [if_neg ff_] at H
  obtain rfl := Option.some.inj H
  go_wp2
  go_ret
  exact ⟨er_, pb2_ HB.1 j.1 p.1⟩
 subst z
 rw [if_pos rfl] at H
 obtain rfl := Option.some.inj H
 go_wp2
 go_ret
 exact ⟨er_, pb2_ HB.1 j.1 p.1⟩

/-! ### laws_eqExtS: function 22 -/
def laws_eqExtS.l0 : Nat → List (S44) → List (S44) → Int → Option (Bool)
 | 0, _, _, _ => none
 | k + 1, c, d, a => if a < (c.length : Int) then (if 0 ≤ a then (if a < (d.length : Int) then ((laws_eqExt.f k ((rd_T44 c a).f0) ((rd_T44 c a).f1) ((rd_T44 d a).f0) ((rd_T44 d a).f1)).bind fun b => (if b = true then (laws_eqExtS.l0 k c d (wrap64 (a + 1))) else (some false))) else (none)) else (none)) else (some true)
def laws_eqExtS.f (k : Nat) (a : List (S44)) (b : List (S44)) : Option (Bool) := if (a.length : Int) = (b.length : Int) then (laws_eqExtS.l0 k a b 0) else (some false)
theorem laws_eqExtS.mono_l : ∀ k, (∀ a b c, LeO (laws_eqExtS.l0 k a b c) (laws_eqExtS.l0 (k + 1) a b c))
 | 0 => fun _ _ _ r h => by simp [laws_eqExtS.l0] at h
 | k + 1 => by
  have ih0 := laws_eqExtS.mono_l k
  ·intro a b c
   unfold laws_eqExtS.l0
   exact mo2_ ih0 laws_eqExt.mono
theorem laws_eqExtS.mono : ∀ a b k, LeO (laws_eqExtS.f k a b) (laws_eqExtS.f (k + 1) a b) := by
 intro a b k
 have ih0 := laws_eqExtS.mono_l k
 unfold laws_eqExtS.f
 exact mo2_ ih0 laws_eqExt.mono
def laws_eqExtS.T6 : Bool × List (List Nat × List Nat) := (true, [([], []), ([], []), ([0, 1], [0, 1]), ([2], [2]), ([], []), ([], []), ([4, 5], [4, 5]), ([6], [6]), ([3, 7], [3, 7]), ([8], [8])])
def laws_eqExtS.B6 : List Nat := [0, 0, 3, 7, 0, 0, 48, 112, 255, 511]
theorem laws_eqExtS.tab6 : rtab .any (opsOf Try.f22 6) = laws_eqExtS.T6 := by kernel_rfl
theorem laws_eqExtS.bits6 : waitsOk laws_eqExtS.T6.2 laws_eqExtS.B6 = true := by kernel_rfl
theorem laws_eqExtS.calls (k : Nat) (A0 : Option Addr) (c0 : Nat) (i : List (S44)) (A1 : Option Addr) (c1 : Nat) (j : List (S44)) (r : Bool) (w : World) (hr0 : Kd.C k44 w A0 i.length i) (V : i.length ≤ c0) (hr1 : Kd.C k44 w A1 j.length j) (W : j.length ≤ c1) (h : laws_eqExtS.f k i j = some r) :
  Calls Try.prog 22 #[.slice A0 i.length c0, .slice A1 j.length c1] w fun e w' => e = .returned (.bool r) ∧ Below w.heap.size w w' := by
 have hu44 := Try.underlying44
 have Z := Q_ hr0
 have ai := Q_ V
 clear hr0 V
 have aa := Q_ hr1
 have aj := Q_ W
 clear hr1 W
 have HB := Q_ (Below.refl w.heap.size w)
 have H : (if (i.length : Int) = (j.length : Int) then (laws_eqExtS.l0 k i j 0) else (some false)) = some r := h
 clear h
 by_cases D : (i.length : Int) = (j.length : Int)
 rotate_left
 ·rw [if_neg D] at H
  have O : ((i.length : Int) == (j.length : Int)) = false := beq_eq_false_iff_ne.mpr D
  have P : ((i.length : Int) != (j.length : Int)) = true := bne_iff_ne.mpr D
  have Q : (i.length == j.length) = false := by first | simpa using D | (simp at D ⊢; omega)
  obtain rfl := Option.some.inj H
  go_enter Try.func22, Try.ntmps22
  go_wp2
  go_ret
  exact ⟨er_, pb_ HB.1⟩
 rw [if_pos D] at H
 have O : ((i.length : Int) == (j.length : Int)) = true := beq_iff_eq.mpr D
 have P : ((i.length : Int) != (j.length : Int)) = false := bne_eq_false_iff_eq.mpr D
 have Q : (i.length == j.length) = true := by first | simpa using D | (simp at D ⊢; omega)
 clear D
 have H' := Q_ H
 clear H
 go_enter Try.func22, Try.ntmps22
 go_wp2
 go_loopg [5] k (fun kq v5 w' => ∃ (a : Int), v5 = .int .i64 a ∧ Aside0 (laws_eqExtS.l0 kq i j a = some r) ∧ Aside0 (kq ≤ k) ∧ Aside0 (Below w.heap.size w w'))
 case atStart => exact ⟨(0), el_, H', ⟨Nat.le_refl _⟩, ⟨pb_ HB.1⟩⟩
 clear H'
 obtain ⟨a, rfl, HA, N, HB⟩ := hrel
 rcases gk with _ | k1
 ·exact absurd HA.1 (by simp [laws_eqExtS.l0])
 have H := HA.1
 clear HA
 simp only [laws_eqExtS.l0] at H
 by_cases M : a < (i.length : Int)
 rotate_left
 ·rw [if_neg M] at H
  have R := decide_eq_false M
  clear M
  obtain rfl := Option.some.inj H
  go_wp2
  go_ret
  exact ⟨er_, pb_ HB.1⟩
 rw [if_pos M] at H
 have R := decide_eq_true M
 clear M
 by_cases X : 0 ≤ a
 rotate_left
 ·rw [if_neg X] at H
  exact nn_ H
 rw [if_pos X] at H
 have af := decide_eq_true X
 clear X
 by_cases Y : a < (j.length : Int)
 rotate_left
 ·rw [if_neg Y] at H
  exact nn_ H
 rw [if_pos Y] at H
 have ag := decide_eq_true Y
 clear Y
 obtain ⟨L, A7, H⟩ := bs_ H
 (try dsimp only at H)
 have HS_ := Q_ H
 clear H
 try go_wp2
 have _ := Q_ (below_drew1 HB.1)
 clear HB
 rename_i HB
 have E : 0 ≤ (a : Int) := dt_
 have G : a < (i.length : Int) := dt_
 obtain ⟨t, v, y, T, b, c, A, l⟩ := at_U44 Z.1 a E G
 have p := c
 have o := b
 cases T
 replace b := bt_ HB b
 replace c := bt_ HB c
 replace E := eq_true E
 replace G := eq_true G
 have F : 0 ≤ (a : Int) := dt_
 have I : a < (j.length : Int) := dt_
 obtain ⟨u, x, z, U, d, g, B, m⟩ := at_U44 aa.1 a F I
 have s := g
 have q := d
 cases U
 replace d := bt_ HB d
 replace g := bt_ HB g
 replace F := eq_true F
 replace I := eq_true I
 refine start_ (n := 10) (S := fun w' => w'.cell? (t.add ((a).toNat * 2)) = some (.int .i64 ((rd_T44 i a).f0)) ∧ w'.cell? ⟨(t.add ((a).toNat * 2)).block, (t.add ((a).toNat * 2)).off + 1, none⟩ = some (.slice v ((rd_T44 i a).f1).length y) ∧ w'.cell? (u.add ((a).toNat * 2)) = some (.int .i64 ((rd_T44 j a).f0)) ∧ w'.cell? ⟨(u.add ((a).toNat * 2)).block, (u.add ((a).toNat * 2)).off + 1, none⟩ = some (.slice x ((rd_T44 j a).f1).length z)) (ds := []) (tf_ 0 10) (by kernel_rfl) rfl rfl ⟨(bt_ HB o), (bt_ HB p), (bt_ HB q), (bt_ HB s)⟩ (fun hHeld => ?_); refine with_tabW laws_eqExtS.tab6 laws_eqExtS.bits6 (fun HT_ HW_ => ?_)
 generalize wr.drew = w8 at HB l m b c d g hHeld ⊢
 refine pu1_ 0 17 10 1 ?_
 refine pu1_ 1 18 10 3 ?_
 refine pu1_ 2 19 10 7 ?_
 refine pu1_ 4 21 10 23 ?_
 refine pu1_ 5 22 10 55 ?_
 refine pu1_ 6 23 10 119 ?_
 refine ta1_ 3 20 10 127 hHeld ?_
 refine ta1_ 7 24 10 255 hHeld ?_
 refine on_ 8 (some 25) (tf_ 9 10) HT_ (fun K hK => ?_)
 refine goes_ Try.func54 (by kernel_rfl) rfl #[.agg #[.int .i64 ((rd_T44 i a).f0), .slice v ((rd_T44 i a).f1).length y], .agg #[.int .i64 ((rd_T44 j a).f0), .slice x ((rd_T44 j a).f1).length z]] (by rfl) rfl rfl mp_ ?_
 with_reducible refine (laws_eqExt.calls k1 ((rd_T44 i a).f0) _ _ ((rd_T44 i a).f1) ((rd_T44 j a).f0) _ _ ((rd_T44 j a).f1) L _ (cb_ l HB) A.1 (cb_ m HB) B.1 A7.1).mono ?_
 rintro e w9 ⟨rfl, hb⟩
 refine ⟨_, rfl, ?_⟩
 have _ := Q_ (below_step (pb_ HB.1) hb)
 clear HB
 rename_i HB
 (try clear hb)
 refine hK.out _ _ ⟨(bt_ HB o), (bt_ HB p), (bt_ HB q), (bt_ HB s)⟩ (fun hHeld => ?_)
 clear hK K
 refine no_ (some 25) ?_
 refine pu1_ 9 26 10 1023 ?_
 refine done_ (done_of HT_.1 (by kernel_rfl)) ?_
 go_upto_if 26 with (fail)
 have H := HS_.1
 clear HS_
 by_cases J : L = true
 rotate_left
 ·replace J := bf_ J
  subst J
  rw [if_neg ff_] at H
  obtain rfl := Option.some.inj H
  go_wp2
  go_ret
  exact ⟨er_, pb_ HB.1⟩
 subst J
 rw [if_pos rfl] at H
 have H' := Q_ H
 clear H
 go_wp2
 go_roundg k1
 case measure => have := N.1; omega
 case rel => exact ⟨(wrap64 (a + 1)), el_, H', ⟨by have := N.1; omega⟩, ⟨pb_ HB.1⟩⟩

/-! ### laws_eqHello: function 8 -/
def laws_eqHello.f (k : Nat) (a : List Int) (b : List (S44)) (c : List Int) (d : List (S44)) : Option (Bool) := (laws_eqIntS.f k a c).bind fun e => (if e = true then ((laws_eqExtS.f k b d).bind fun g => (if g = true then (some true) else (some false))) else (some false))
theorem laws_eqHello.mono : ∀ a b c d k, LeO (laws_eqHello.f k a b c d) (laws_eqHello.f (k + 1) a b c d) := by
 intro a b c d k
 unfold laws_eqHello.f
 exact mo2_ laws_eqExtS.mono laws_eqIntS.mono
theorem laws_eqHello.calls (k : Nat) (p : Option Addr) (u : Nat) (d : List Int) (q : Option Addr) (v : Nat) (g : List (S44)) (s : Option Addr) (x : Nat) (i : List Int) (t : Option Addr) (y : Nat) (j : List (S44)) (r : Bool) (w : World) (hr0_0 : Kd.C (Kd.int .i64) w p d.length d) (A : d.length ≤ u) (hr0_1 : Kd.C k44 w q g.length g) (B : g.length ≤ v) (hr1_0 : Kd.C (Kd.int .i64) w s i.length i) (D : i.length ≤ x) (hr1_1 : Kd.C k44 w t j.length j) (E : j.length ≤ y) (h : laws_eqHello.f k d g i j = some r) :
  Calls Try.prog 8 #[.agg #[.slice p d.length u, .slice q g.length v], .agg #[.slice s i.length x, .slice t j.length y]] w fun e w' => e = .returned (.bool r) ∧ Below w.heap.size w w' := by
 have hu29 := Try.underlying29
 have O := Q_ hr0_0
 have J := Q_ A
 clear hr0_0 A
 have P := Q_ hr0_1
 have K := Q_ B
 clear hr0_1 B
 have Q := Q_ hr1_0
 have L := Q_ D
 clear hr1_0 D
 have R := Q_ hr1_1
 have M := Q_ E
 clear hr1_1 E
 have HB := Q_ (Below.refl w.heap.size w)
 have H : ((laws_eqIntS.f k d i).bind fun z => (if z = true then ((laws_eqExtS.f k g j).bind fun o => (if o = true then (some true) else (some false))) else (some false))) = some r := h
 clear h
 have HS_ := Q_ H
 clear H
 go_enter Try.func8, Try.ntmps8
 go_upto_region 1 with (first | ((with_reducible refine gate_dst (N := 2) rfl ?_); refine bx_ 2 #[.slice p d.length u, .slice q g.length v] 29 ?_; intro U hg w3 hbox hb; have _ := Q_ (below_step (pb_ HB.1) hb); have a := Q_ (hbox); have G := Q_ (gw_ (w := w) hg (pb_ HB.1)); have b := G; clear HB; rename_i HB; clear hb hbox hg) | ((with_reducible refine gate_dst (N := 3) rfl ?_); refine bx_ 3 #[.slice s i.length x, .slice t j.length y] 29 ?_; intro V hg w4 hbox hb; have _ := Q_ (bb_ a.1 hb); have _ := Q_ (below_step (pb1_ HB.1 b.1) hb); have m := Q_ (hbox); have I := Q_ (gw_ (w := w) hg (pb1_ HB.1 b.1)); have l := I; have c := Q_ (nb_ hg a); have n := Q_ c.1.symm; clear a HB; rename_i a HB; clear hb hbox hg))
 (try simp only [Act.put, s1_, s2_, s3_])
 have H := HS_.1
 clear HS_
 obtain ⟨z, A5, H⟩ := bs_ H
 (try dsimp only at H)
 have HS_ := Q_ H
 clear H
 have ac := c.1
 have ad := n.1
 have aa := bc2_ a.1
 have ab := bc2_ m.1
 go_upto_if 10 with (first | ((with_reducible refine gate_callee (f := 21) rfl ?_); refine gl_ (some 9) Try.func21 #[.slice p d.length u, .slice s i.length x] ?_; (with_reducible refine (laws_eqIntS.calls k _ _ d _ _ i z _ (cb_ O HB) J.1 (cb_ Q HB) L.1 A5.1).mono ?_); rintro e w' ⟨rfl, ⟨nd, rfl⟩⟩; refine ⟨_, rfl, ?_⟩))
 (try simp only [Act.put, s1_, s2_, s3_])
 have H := HS_.1
 clear HS_
 by_cases S : z = true
 rotate_left
 ·replace S := bf_ S
  subst S
  rw [if_neg ff_] at H
  obtain rfl := Option.some.inj H
  go_wp2
  go_ret
  exact ⟨er_, pb2_ HB.1 b.1 l.1⟩
 subst S
 rw [if_pos rfl] at H
 obtain ⟨o, T, H⟩ := bs_ H
 replace H : (if o = true then (some true) else (some false)) = some r := H
 have HS_ := Q_ H
 clear H
 have Y := c.1
 have Z := n.1
 have W := bc2_ a.1
 have X := bc2_ m.1
 go_upto_if 16 with (first | ((with_reducible refine gate_callee (f := 22) rfl ?_); refine gl_ (some 15) Try.func22 #[.slice q g.length v, .slice t j.length y] ?_; (with_reducible refine (laws_eqExtS.calls k _ _ g _ _ j o _ ?side1 K.1 ?side3 M.1 T.1).mono ?_); (case side1 => exact pc_ (Kd.C_below P.1 (pb2_ HB.1 b.1 l.1))); (case side3 => exact pc_ (Kd.C_below R.1 (pb2_ HB.1 b.1 l.1))); rintro e af ⟨rfl, hb⟩; refine ⟨_, rfl, ?_⟩; have _ := Q_ (bb_ a.1 hb); have _ := Q_ (bb_ m.1 hb); have _ := Q_ (below_step (pb2_ HB.1 b.1 l.1) hb); clear a m HB; rename_i a m HB; (try clear hb)))
 (try simp only [Act.put, s1_, s2_, s3_])
 have H := HS_.1
 clear HS_
 by_cases F : o = true
 rotate_left
 ·replace F := bf_ F
  subst F
  rw [if_neg ff_] at H
  obtain rfl := Option.some.inj H
  go_wp2
  go_ret
  exact ⟨er_, pb2_ HB.1 b.1 l.1⟩
 subst F
 rw [if_pos rfl] at H
 obtain rfl := Option.some.inj H
 go_wp2
 go_ret
 exact ⟨er_, pb2_ HB.1 b.1 l.1⟩

/-! ### laws_eqBox: function 55 -/
def laws_eqBox.f (k : Nat) (b : Int) (e : List Int) (g : List Int) (c : Bool) (d : Int) (h : List Int) (i : List Int) (a : Bool) : Option (Bool) := if b = d then ((laws_eqIntS.f k e h).bind fun j => (if j = true then ((laws_eqIntS.f k g i).bind fun l => (if l = true then (if c = true then (if a = true then (some true) else (some false)) else (if a = true then (some false) else (some true))) else (some false))) else (some false))) else (some false)
theorem laws_eqBox.mono : ∀ a b c d e g h i k, LeO (laws_eqBox.f k a b c d e g h i) (laws_eqBox.f (k + 1) a b c d e g h i) := by
 intro a b c d e g h i k
 unfold laws_eqBox.f
 exact mo1_ laws_eqIntS.mono
theorem laws_eqBox.calls (k : Nat) (j : Int) (v : Option Addr) (A : Nat) (m : List Int) (x : Option Addr) (B : Nat) (n : List Int) (s : Bool) (l : Int) (y : Option Addr) (D : Nat) (o : List Int) (z : Option Addr) (E : Nat) (p : List Int) (q : Bool) (r : Bool) (w : World) (hr0_1 : Kd.C (Kd.int .i64) w v m.length m) (I : m.length ≤ A) (hr0_2 : Kd.C (Kd.int .i64) w x n.length n) (J : n.length ≤ B) (hr1_1 : Kd.C (Kd.int .i64) w y o.length o) (K : o.length ≤ D) (hr1_2 : Kd.C (Kd.int .i64) w z p.length p) (L : p.length ≤ E) (h : laws_eqBox.f k j m n s l o p q = some r) :
  Calls Try.prog 55 #[.agg #[.int .i64 j, .slice v m.length A, .slice x n.length B, .bool s], .agg #[.int .i64 l, .slice y o.length D, .slice z p.length E, .bool q]] w fun e w' => e = .returned (.bool r) ∧ Below w.heap.size w w' := by
 have hu59 := Try.underlying59
 have Y := Q_ hr0_1
 have U := Q_ I
 clear hr0_1 I
 have Z := Q_ hr0_2
 have V := Q_ J
 clear hr0_2 J
 have aa := Q_ hr1_1
 have W := Q_ K
 clear hr1_1 K
 have ab := Q_ hr1_2
 have X := Q_ L
 clear hr1_2 L
 have HB := Q_ (Below.refl w.heap.size w)
 have H : (if j = l then ((laws_eqIntS.f k m o).bind fun F => (if F = true then ((laws_eqIntS.f k n p).bind fun G => (if G = true then (if s = true then (if q = true then (some true) else (some false)) else (if q = true then (some false) else (some true))) else (some false))) else (some false))) else (some false)) = some r := h
 clear h
 have HS_ := Q_ H
 clear H
 go_enter Try.func55, Try.ntmps55
 go_upto_region 1 with (first | ((with_reducible refine gate_dst (N := 2) rfl ?_); refine bx_ 2 #[.int .i64 j, .slice v m.length A, .slice x n.length B, .bool s] 59 ?_; intro ae hg w3 hbox hb; have _ := Q_ (below_step (pb_ HB.1) hb); have c := Q_ (hbox); have S := Q_ (gw_ (w := w) hg (pb_ HB.1)); have d := S; clear HB; rename_i HB; clear hb hbox hg) | ((with_reducible refine gate_dst (N := 3) rfl ?_); refine bx_ 3 #[.int .i64 l, .slice y o.length D, .slice z p.length E, .bool q] 59 ?_; intro af hg w4 hbox hb; have _ := Q_ (bb_ c.1 hb); have _ := Q_ (below_step (pb1_ HB.1 d.1) hb); have i := Q_ (hbox); have T := Q_ (gw_ (w := w) hg (pb1_ HB.1 d.1)); have g := T; have a := Q_ (nb_ hg c); have b := Q_ a.1.symm; clear c HB; rename_i c HB; clear hb hbox hg))
 (try simp only [Act.put, s1_, s2_, s3_])
 have H := HS_.1
 clear HS_
 by_cases c5 : j = l
 rotate_left
 ·rw [if_neg c5] at H
  have t : (j == l) = false := beq_eq_false_iff_ne.mpr c5
  have u : (j != l) = true := bne_iff_ne.mpr c5
  (first | rw [t] | (simp only [i64_w, i32_w]; rw [t]) | rw [u] | (have c_ := u; rw [bne] at c_; rw [c_]; clear c_) | skip)
  obtain rfl := Option.some.inj H
  have aI := a.1
  have aJ := b.1
  have aG := bc4_ c.1
  have aH := bc4_ i.1
  go_wp2
  go_ret
  exact ⟨er_, pb2_ HB.1 d.1 g.1⟩
 rw [if_pos c5] at H
 have t : (j == l) = true := beq_iff_eq.mpr c5
 have u : (j != l) = false := bne_eq_false_iff_eq.mpr c5
 clear c5
 (first | rw [t] | (simp only [i64_w, i32_w]; rw [t]) | rw [u] | (have c_ := u; rw [bne] at c_; rw [c_]; clear c_) | skip)
 obtain ⟨F, A9, H⟩ := bs_ H
 (try dsimp only at H)
 have HS_ := Q_ H
 clear H
 have au := a.1
 have aA := b.1
 have ag := bc4_ c.1
 have ah := bc4_ i.1
 go_upto_if 15 with (first | ((with_reducible refine gate_callee (f := 21) rfl ?_); refine gl_ (some 14) Try.func21 #[.slice v m.length A, .slice y o.length D] ?_; (with_reducible refine (laws_eqIntS.calls k _ _ m _ _ o F _ (cb_ Y HB) U.1 (cb_ aa HB) W.1 A9.1).mono ?_); rintro e w' ⟨rfl, ⟨nd, rfl⟩⟩; refine ⟨_, rfl, ?_⟩))
 (try simp only [Act.put, s1_, s2_, s3_])
 have H := HS_.1
 clear HS_
 by_cases M : F = true
 rotate_left
 ·replace M := bf_ M
  subst M
  rw [if_neg ff_] at H
  obtain rfl := Option.some.inj H
  go_wp2
  go_ret
  exact ⟨er_, pb2_ HB.1 d.1 g.1⟩
 subst M
 rw [if_pos rfl] at H
 obtain ⟨G, ad, H⟩ := bs_ H
 (try dsimp only at H)
 have HS_ := Q_ H
 clear H
 have av := a.1
 have aB := b.1
 have ai := bc4_ c.1
 have aj := bc4_ i.1
 go_upto_if 21 with (first | ((with_reducible refine gate_callee (f := 21) rfl ?_); refine gl_ (some 20) Try.func21 #[.slice x n.length B, .slice z p.length E] ?_; (with_reducible refine (laws_eqIntS.calls k _ _ n _ _ p G _ ?side1 V.1 ?side3 X.1 ad.1).mono ?_); (case side1 => exact pc_ (Kd.C_below Z.1 (pb2_ HB.1 d.1 g.1))); (case side3 => exact pc_ (Kd.C_below ab.1 (pb2_ HB.1 d.1 g.1))); rintro e w' ⟨rfl, ⟨nd, rfl⟩⟩; refine ⟨_, rfl, ?_⟩))
 (try simp only [Act.put, s1_, s2_, s3_])
 have H := HS_.1
 clear HS_
 by_cases O : G = true
 rotate_left
 ·replace O := bf_ O
  subst O
  rw [if_neg ff_] at H
  obtain rfl := Option.some.inj H
  go_wp2
  go_ret
  exact ⟨er_, pb2_ HB.1 d.1 g.1⟩
 subst O
 rw [if_pos rfl] at H
 by_cases P : s = true
 rotate_left
 ·replace P := bf_ P
  subst P
  rw [if_neg ff_] at H
  by_cases Q : q = true
  rotate_left
  ·replace Q := bf_ Q
   subst Q
   rw [if_neg ff_] at H
   obtain rfl := Option.some.inj H
   have aw := a.1
   have aC := b.1
   have ak := bc4_ c.1
   have al := bc4_ i.1
   go_wp2
   go_ret
   exact ⟨er_, pb2_ HB.1 d.1 g.1⟩
  subst Q
  rw [if_pos rfl] at H
  obtain rfl := Option.some.inj H
  have ax := a.1
  have aD := b.1
  have am := bc4_ c.1
  have an := bc4_ i.1
  go_wp2
  go_ret
  exact ⟨er_, pb2_ HB.1 d.1 g.1⟩
 subst P
 rw [if_pos rfl] at H
 by_cases R : q = true
 rotate_left
 ·replace R := bf_ R
  subst R
  rw [if_neg ff_] at H
  obtain rfl := Option.some.inj H
  have ay := a.1
  have aE := b.1
  have ao := bc4_ c.1
  have ap := bc4_ i.1
  go_wp2
  go_ret
  exact ⟨er_, pb2_ HB.1 d.1 g.1⟩
 subst R
 rw [if_pos rfl] at H
 obtain rfl := Option.some.inj H
 have az := a.1
 have aF := b.1
 have aq := bc4_ c.1
 have ar := bc4_ i.1
 go_wp2
 go_ret
 exact ⟨er_, pb2_ HB.1 d.1 g.1⟩

end Go.Proofs.Ytibmehnippjakaa.Print
