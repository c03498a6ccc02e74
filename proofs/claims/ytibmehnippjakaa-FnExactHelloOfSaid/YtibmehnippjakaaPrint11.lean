-- Written by a program of this session (printx.py) out of the translation; Lean checks it.
import Derived.Test.YtibmehnippjakaaPrint0
namespace Go.Proofs.Ytibmehnippjakaa.Print
open Go.RowKit Go.Proofs.YtibmehnippjakaaW.PrintWords Go.Proofs.YtibmehnippjakaaW.PrintLast Go.Proofs.YtibmehnippjakaaW.PrintMore Go.Proofs.Ytibmehnippjakaa.Short
attribute [local go_sem] max2_int min2_int max_two min_two max_three min_three max_four min_four   -- for this text's walks alone
set_option linter.unusedVariables false
set_option maxHeartbeats 8000000
set_option maxRecDepth 100000
set_option linter.unusedSimpArgs false

/-! ### laws_heldIntS: function 27 -/
def laws_heldIntS.l0 : Nat → List Int → Int → Int → Option (Int)
 | 0, _, _, _ => none
 | k + 1, b, c, a => if a < (b.length : Int) then (if 0 ≤ a then (if (rd b a) = c then (laws_heldIntS.l0 k b (wrap64 (c + 1)) (wrap64 (a + 1))) else (some (-1))) else (none)) else (some c)
def laws_heldIntS.f (k : Nat) (b : List Int) (a : Int) : Option (Int) := laws_heldIntS.l0 k b a 0
theorem laws_heldIntS.mono_l : ∀ k, (∀ a b c, LeO (laws_heldIntS.l0 k a b c) (laws_heldIntS.l0 (k + 1) a b c))
 | 0 => fun _ _ _ r h => by simp [laws_heldIntS.l0] at h
 | k + 1 => by
  have ih0 := laws_heldIntS.mono_l k
  ·intro a b c
   unfold laws_heldIntS.l0
   exact mo1_ ih0
theorem laws_heldIntS.mono : ∀ a b k, LeO (laws_heldIntS.f k a b) (laws_heldIntS.f (k + 1) a b) := by
 intro a b k
 have ih0 := laws_heldIntS.mono_l k
 unfold laws_heldIntS.f
 exact mo1_ ih0
theorem laws_heldIntS.calls (k : Nat) (y : Option Addr) (z : Nat) (g : List Int) (v : Int) (r : Int) (w : World) (hr0 : Kd.C (Kd.int .i64) w y g.length g) (u : g.length ≤ z) (h : laws_heldIntS.f k g v = some r) :
  Calls Try.prog 27 #[.slice y g.length z, .int .i64 v] w fun e w' => e = .returned (.int .i64 r) ∧ Drawn0 w w' := by
 have p := Q_ hr0
 have B := Q_ u
 clear hr0 u
 have H : (laws_heldIntS.l0 k g v 0) = some r := h
 clear h
 have H' := Q_ H
 clear H
 go_enter Try.func27, Try.ntmps27
 go_wp2
 go_loopg [1, 5] k (fun kq D E w' => ∃ (b : Int) (a : Int), D = .int .i64 b ∧ E = .int .i64 a ∧ Aside0 (laws_heldIntS.l0 kq g b a = some r) ∧ Aside0 (kq ≤ k) ∧ Drawn0 w w')
 case atStart => exact ⟨(v), (0), el_, el_, H', ⟨Nat.le_refl _⟩, by repeat (first | exact Drawn0.refl _ | apply Drawn0.step)⟩
 clear H'
 obtain ⟨b, a, rfl, rfl, HA, o, ⟨m1, rfl⟩⟩ := hrel
 rcases gk with _ | k1
 ·exact absurd HA.1 (by simp [laws_heldIntS.l0])
 have H := HA.1
 clear HA
 simp only [laws_heldIntS.l0] at H
 by_cases n : a < (g.length : Int)
 rotate_left
 ·rw [if_neg n] at H
  have q := decide_eq_false n
  clear n
  obtain rfl := Option.some.inj H
  go_wp2
  go_ret
  exact ⟨by first | rfl | (simp; done) | (simp [*]; done), by repeat (first | exact Drawn0.refl _ | apply Drawn0.step)⟩
 rw [if_pos n] at H
 have q := decide_eq_true n
 clear n
 by_cases x : 0 ≤ a
 rotate_left
 ·rw [if_neg x] at H
  exact nn_ H
 rw [if_pos x] at H
 have A := decide_eq_true x
 clear x
 by_cases m : (rd g a) = b
 rotate_left
 ·rw [if_neg m] at H
  have s : ((rd g a) == b) = false := beq_eq_false_iff_ne.mpr m
  have t : ((rd g a) != b) = true := bne_iff_ne.mpr m
  obtain rfl := Option.some.inj H
  have c : 0 ≤ (a : Int) := dt_
  have d : a < (g.length : Int) := dt_
  obtain ⟨l, i, j⟩ := Kd.at_int p.1 a c d
  cases i
  replace c := eq_true c
  replace d := eq_true d
  go_wp2
  go_ret
  exact ⟨by first | rfl | (simp; done) | (simp [*]; done), by repeat (first | exact Drawn0.refl _ | apply Drawn0.step)⟩
 rw [if_pos m] at H
 have s : ((rd g a) == b) = true := beq_iff_eq.mpr m
 have t : ((rd g a) != b) = false := bne_eq_false_iff_eq.mpr m
 clear m
 have H' := Q_ H
 clear H
 have c : 0 ≤ (a : Int) := dt_
 have d : a < (g.length : Int) := dt_
 obtain ⟨l, i, j⟩ := Kd.at_int p.1 a c d
 cases i
 replace c := eq_true c
 replace d := eq_true d
 go_wp2
 go_roundg k1
 case measure => have := o.1; omega
 case rel => exact ⟨(wrap64 (b + 1)), (wrap64 (a + 1)), el_, el_, H', ⟨by have := o.1; omega⟩, by repeat (first | exact Drawn0.refl _ | apply Drawn0.step)⟩

/-! ### laws_heldExtS: function 28 -/
def laws_heldExtS.l0 : Nat → List (S44) → Int → Int → Option (Int)
 | 0, _, _, _ => none
 | k + 1, c, d, b => if b < (c.length : Int) then (if 0 ≤ b then (if ((rd_T44 c b).f0) = d then ((laws_heldIntS.f k ((rd_T44 c b).f1) (wrap64 (d + 1))).bind fun a => (if a < 0 then (some (-1)) else (laws_heldExtS.l0 k c a (wrap64 (b + 1))))) else (some (-1))) else (none)) else (some d)
def laws_heldExtS.f (k : Nat) (b : List (S44)) (a : Int) : Option (Int) := laws_heldExtS.l0 k b a 0
theorem laws_heldExtS.mono_l : ∀ k, (∀ a b c, LeO (laws_heldExtS.l0 k a b c) (laws_heldExtS.l0 (k + 1) a b c))
 | 0 => fun _ _ _ r h => by simp [laws_heldExtS.l0] at h
 | k + 1 => by
  have ih0 := laws_heldExtS.mono_l k
  ·intro a b c
   unfold laws_heldExtS.l0
   exact mo2_ ih0 laws_heldIntS.mono
theorem laws_heldExtS.mono : ∀ a b k, LeO (laws_heldExtS.f k a b) (laws_heldExtS.f (k + 1) a b) := by
 intro a b k
 have ih0 := laws_heldExtS.mono_l k
 unfold laws_heldExtS.f
 exact mo2_ ih0 laws_heldIntS.mono
theorem laws_heldExtS.calls (k : Nat) (U : Option Addr) (V : Nat) (j : List (S44)) (R : Int) (r : Int) (w : World) (hr0 : Kd.C k44 w U j.length j) (O : j.length ≤ V) (h : laws_heldExtS.f k j R = some r) :
  Calls Try.prog 28 #[.slice U j.length V, .int .i64 R] w fun e w' => e = .returned (.int .i64 r) ∧ Drawn0 w w' := by
 have D := Q_ hr0
 have Y := Q_ O
 clear hr0 O
 have H : (laws_heldExtS.l0 k j R 0) = some r := h
 clear h
 have H' := Q_ H
 clear H
 go_enter Try.func28, Try.ntmps28
 go_wp2
 go_loopg [1, 5] k (fun kq Z v5 w' => ∃ (d : Int) (a : Int), Z = .int .i64 d ∧ v5 = .int .i64 a ∧ Aside0 (laws_heldExtS.l0 kq j d a = some r) ∧ Aside0 (kq ≤ k) ∧ Drawn0 w w')
 case atStart => exact ⟨(R), (0), el_, el_, H', ⟨Nat.le_refl _⟩, by repeat (first | exact Drawn0.refl _ | apply Drawn0.step)⟩
 clear H'
 obtain ⟨d, a, rfl, rfl, HA, J, ⟨m1, rfl⟩⟩ := hrel
 rcases gk with _ | k1
 ·exact absurd HA.1 (by simp [laws_heldExtS.l0])
 have H := HA.1
 clear HA
 simp only [laws_heldExtS.l0] at H
 by_cases G : a < (j.length : Int)
 rotate_left
 ·rw [if_neg G] at H
  have K := decide_eq_false G
  clear G
  obtain rfl := Option.some.inj H
  go_wp2
  go_ret
  exact ⟨by first | rfl | (simp; done) | (simp [*]; done), by repeat (first | exact Drawn0.refl _ | apply Drawn0.step)⟩
 rw [if_pos G] at H
 have K := decide_eq_true G
 clear G
 by_cases S : 0 ≤ a
 rotate_left
 ·rw [if_neg S] at H
  exact nn_ H
 rw [if_pos S] at H
 have W := decide_eq_true S
 clear S
 by_cases F : ((rd_T44 j a).f0) = d
 rotate_left
 ·rw [if_neg F] at H
  have L : (((rd_T44 j a).f0) == d) = false := beq_eq_false_iff_ne.mpr F
  have M : (((rd_T44 j a).f0) != d) = true := bne_iff_ne.mpr F
  obtain rfl := Option.some.inj H
  have g : 0 ≤ (a : Int) := dt_
  have i : a < (j.length : Int) := dt_
  obtain ⟨u, n, o, v, x, m, c, b⟩ := at_T44 D.1 a g i
  cases v
  have s := Q_ b
  have p := Q_ c
  clear b c
  replace g := eq_true g
  replace i := eq_true i
  go_wp2
  go_ret
  exact ⟨by first | rfl | (simp; done) | (simp [*]; done), by repeat (first | exact Drawn0.refl _ | apply Drawn0.step)⟩
 rw [if_pos F] at H
 have L : (((rd_T44 j a).f0) == d) = true := beq_iff_eq.mpr F
 have M : (((rd_T44 j a).f0) != d) = false := bne_eq_false_iff_eq.mpr F
 clear F
 obtain ⟨B, X, H⟩ := bs_ H
 (try dsimp only at H)
 have HS_ := Q_ H
 clear H
 have g : 0 ≤ (a : Int) := dt_
 have i : a < (j.length : Int) := dt_
 obtain ⟨u, n, o, v, x, m, c, b⟩ := at_T44 D.1 a g i
 cases v
 have s := Q_ b
 have p := Q_ c
 clear b c
 replace g := eq_true g
 replace i := eq_true i
 have z : 0 ≤ (a : Int) := dt_
 have A : a < (j.length : Int) := dt_
 obtain ⟨E, Q, T, N, P, y, q, t⟩ := at_U44 D.1 a z A
 obtain rfl : u = E := (by injection N)
 replace z := eq_true z
 replace A := eq_true A
 have ea_ := Option.some.inj (m.symm.trans y)
 injection ea_ with ea_ en_ ec_
 subst ea_
 subst ec_
 clear en_
 go_upto_if 29 with (first | ((with_reducible refine gate_callee (f := 27) rfl ?_); refine gl_ (some 27) Try.func27 #[.slice n ((rd_T44 j a).f1).length o, .int .i64 (wrap64 (d + 1))] ?_; (with_reducible refine (laws_heldIntS.calls k1 _ _ ((rd_T44 j a).f1) (wrap64 (d + 1)) B _ (pc_ t.1) q.1 X.1).mono ?_); rintro e w' ⟨rfl, ⟨nd, rfl⟩⟩; refine ⟨_, rfl, ?_⟩))
 (try simp only [Act.put, s1_, s2_, s3_])
 have H := HS_.1
 clear HS_
 by_cases I : B < 0
 rotate_left
 ·rw [if_neg I] at H
  have l := decide_eq_false I
  clear I
  (first | rw [l] | (simp only [i64_w, i32_w]; rw [l]) | skip)
  have H' := Q_ H
  clear H
  go_wp2
  go_roundg k1
  case measure => have := J.1; omega
  case rel => exact ⟨(B), (wrap64 (a + 1)), el_, el_, H', ⟨by have := J.1; omega⟩, by repeat (first | exact Drawn0.refl _ | apply Drawn0.step)⟩
 rw [if_pos I] at H
 have l := decide_eq_true I
 clear I
 (first | rw [l] | (simp only [i64_w, i32_w]; rw [l]) | skip)
 obtain rfl := Option.some.inj H
 go_wp2
 go_ret
 exact ⟨by first | rfl | (simp; done) | (simp [*]; done), by repeat (first | exact Drawn0.refl _ | apply Drawn0.step)⟩

/-! ### laws_heldHello: function 12 -/
def laws_heldHello.f (k : Nat) (c : List Int) (d : List (S44)) (e : Int) : Option (Int) := (laws_heldIntS.f k c e).bind fun a => (if a < 0 then (some (-1)) else ((laws_heldExtS.f k d a).bind fun b => (if b < 0 then (some (-1)) else (some b))))
theorem laws_heldHello.mono : ∀ a b c k, LeO (laws_heldHello.f k a b c) (laws_heldHello.f (k + 1) a b c) := by
 intro a b c k
 unfold laws_heldHello.f
 exact mo2_ laws_heldExtS.mono laws_heldIntS.mono
theorem laws_heldHello.calls (k : Nat) (l : Option Addr) (n : Nat) (a : List Int) (m : Option Addr) (o : Nat) (b : List (S44)) (B : Int) (r : Int) (w : World) (hr0_0 : Kd.C (Kd.int .i64) w l a.length a) (q : a.length ≤ n) (hr0_1 : Kd.C k44 w m b.length b) (s : b.length ≤ o) (h : laws_heldHello.f k a b B = some r) :
  Calls Try.prog 12 #[.agg #[.slice l a.length n, .slice m b.length o], .int .i64 B] w fun e w' => e = .returned (.int .i64 r) ∧ Below w.heap.size w w' := by
 have hu29 := Try.underlying29
 have x := Q_ hr0_0
 have u := Q_ q
 clear hr0_0 q
 have y := Q_ hr0_1
 have v := Q_ s
 clear hr0_1 s
 have HB := Q_ (Below.refl w.heap.size w)
 have H : ((laws_heldIntS.f k a B).bind fun c => (if c < 0 then (some (-1)) else ((laws_heldExtS.f k b c).bind fun d => (if d < 0 then (some (-1)) else (some d))))) = some r := h
 clear h
 have HS_ := Q_ H
 clear H
 go_enter Try.func12, Try.ntmps12
 go_upto_region 1 with (first | ((with_reducible refine gate_dst (N := 2) rfl ?_); refine bx_ 2 #[.slice l a.length n, .slice m b.length o] 29 ?_; intro D hg J hbox hb; have _ := Q_ (below_step (pb_ HB.1) hb); have p := Q_ (hbox); have t := Q_ (gw_ (w := w) hg (pb_ HB.1)); have g := t; clear HB; rename_i HB; clear hb hbox hg))
 (try simp only [Act.put, s1_, s2_, s3_])
 have H := HS_.1
 clear HS_
 obtain ⟨c, G, H⟩ := bs_ H
 (try dsimp only at H)
 have HS_ := Q_ H
 clear H
 have E := bc2_ p.1
 go_upto_if 10 with (first | ((with_reducible refine gate_callee (f := 27) rfl ?_); refine gl_ (some 8) Try.func27 #[.slice l a.length n, .int .i64 B] ?_; (with_reducible refine (laws_heldIntS.calls k _ _ a B c _ (cb_ x HB) u.1 G.1).mono ?_); rintro e w' ⟨rfl, ⟨nd, rfl⟩⟩; refine ⟨_, rfl, ?_⟩))
 (try simp only [Act.put, s1_, s2_, s3_])
 have H := HS_.1
 clear HS_
 by_cases z : c < 0
 ·rw [if_pos z] at H
  have i := decide_eq_true z
  clear z
  (first | rw [i] | (simp only [i64_w, i32_w]; rw [i]) | skip)
  obtain rfl := Option.some.inj H
  go_wp2
  go_ret
  exact ⟨er_, pb1_ HB.1 g.1⟩
 rw [if_neg z] at H
 have i := decide_eq_false z
 clear z
 (first | rw [i] | (simp only [i64_w, i32_w]; rw [i]) | skip)
 obtain ⟨d, I, H⟩ := bs_ H
 replace H : (if d < 0 then (some (-1)) else (some d)) = some r := H
 have HS_ := Q_ H
 clear H
 have F := bc2_ p.1
 go_upto_if 16 with (first | ((with_reducible refine gate_callee (f := 28) rfl ?_); refine gl_ (some 14) Try.func28 #[.slice m b.length o, .int .i64 c] ?_; (with_reducible refine (laws_heldExtS.calls k _ _ b c d _ ?side1 v.1 I.1).mono ?_); (case side1 => exact pc_ (Kd.C_below y.1 (pb1_ HB.1 g.1))); rintro e w' ⟨rfl, ⟨nd, rfl⟩⟩; refine ⟨_, rfl, ?_⟩))
 (try simp only [Act.put, s1_, s2_, s3_])
 have H := HS_.1
 clear HS_
 by_cases A : d < 0
 rotate_left
 ·rw [if_neg A] at H
  have j := decide_eq_false A
  clear A
  (first | rw [j] | (simp only [i64_w, i32_w]; rw [j]) | skip)
  obtain rfl := Option.some.inj H
  go_wp2
  go_ret
  exact ⟨er_, pb1_ HB.1 g.1⟩
 rw [if_pos A] at H
 have j := decide_eq_true A
 clear A
 (first | rw [j] | (simp only [i64_w, i32_w]; rw [j]) | skip)
 obtain rfl := Option.some.inj H
 go_wp2
 go_ret
 exact ⟨er_, pb1_ HB.1 g.1⟩

end Go.Proofs.Ytibmehnippjakaa.Print
