-- Written by a program of this session (printx.py) out of the translation; Lean checks it.
import Derived.Test.YtchnkakjjbfklaaPrint0
namespace Go.Proofs.Ytchnkakjjbfklaa.Print
open Go.RowKit Go.Proofs.YtchnkakjjbfklaaW.PrintWords Go.Proofs.YtchnkakjjbfklaaW.PrintLast Go.Proofs.YtchnkakjjbfklaaW.PrintMore Go.Proofs.Ytchnkakjjbfklaa.Short
attribute [local go_sem] max2_int min2_int max_two min_two max_three min_three max_four min_four   -- for this text's walks alone
set_option linter.unusedVariables false
set_option maxHeartbeats 8000000
set_option maxRecDepth 100000
set_option linter.unusedSimpArgs false

/-! ### laws_szIntS: function 12 -/
def laws_szIntS.f (b : List Int) (a : Int) : Option (Int) := if (wrap64 (a - (b.length : Int))) < 0 then (some (-1)) else (some (wrap64 (a - (b.length : Int))))
theorem laws_szIntS.calls (i : Option Addr) (j : Nat) (a : List Int) (c : Int) (r : Int) (w : World) (hr0 : Kd.C (Kd.int .i64) w i a.length a) (g : a.length ≤ j) (h : laws_szIntS.f a c = some r) :
  Calls Try.prog 12 #[.slice i a.length j, .int .i64 c] w fun e w' => e = .returned (.int .i64 r) ∧ Drawn0 w w' := by
 have l := Q_ hr0
 have k := Q_ g
 clear hr0 g
 have H : (if (wrap64 (c - (a.length : Int))) < 0 then (some (-1)) else (some (wrap64 (c - (a.length : Int))))) = some r := h
 clear h
 by_cases b : (wrap64 (c - (a.length : Int))) < 0
 rotate_left
 ·rw [if_neg b] at H
  have d := decide_eq_false b
  clear b
  obtain rfl := Option.some.inj H
  go_enter Try.func12, Try.ntmps12
  go_wp2
  go_ret
  exact ⟨by first | rfl | (simp; done) | (simp [*]; done), by repeat (first | exact Drawn0.refl _ | apply Drawn0.step)⟩
 rw [if_pos b] at H
 have d := decide_eq_true b
 clear b
 obtain rfl := Option.some.inj H
 go_enter Try.func12, Try.ntmps12
 go_wp2
 go_ret
 exact ⟨by first | rfl | (simp; done) | (simp [*]; done), by repeat (first | exact Drawn0.refl _ | apply Drawn0.step)⟩

/-! ### laws_szBox: function 100 -/
def laws_szBox.f (e : Int) (c : List Int) (d : List Int) (g : Bool) (h : Int) : Option (Int) := (laws_szIntS.f c h).bind fun a => (if a < 0 then (some (-1)) else ((laws_szIntS.f d a).bind fun b => (if b < 0 then (some (-1)) else (some b))))
theorem laws_szBox.calls (p : Int) (k : Option Addr) (m : Nat) (a : List Int) (l : Option Addr) (n : Nat) (b : List Int) (q : Bool) (D : Int) (r : Int) (w : World) (hr0_1 : Kd.C (Kd.int .i64) w k a.length a) (s : a.length ≤ m) (hr0_2 : Kd.C (Kd.int .i64) w l b.length b) (t : b.length ≤ n) (h : laws_szBox.f p a b q D = some r) :
  Calls Try.prog 100 #[.agg #[.int .i64 p, .slice k a.length m, .slice l b.length n, .bool q], .int .i64 D] w fun e w' => e = .returned (.int .i64 r) ∧ Below w.heap.size w w' := by
 have hu117 := Try.underlying117
 have y := Q_ hr0_1
 have v := Q_ s
 clear hr0_1 s
 have z := Q_ hr0_2
 have x := Q_ t
 clear hr0_2 t
 have HB := Q_ (Below.refl w.heap.size w)
 have H : ((laws_szIntS.f a D).bind fun c => (if c < 0 then (some (-1)) else ((laws_szIntS.f b c).bind fun d => (if d < 0 then (some (-1)) else (some d))))) = some r := h
 clear h
 have HS_ := Q_ H
 clear H
 go_enter Try.func100, Try.ntmps100
 go_upto_region 1 with (first | ((with_reducible refine gate_dst (N := 2) rfl ?_); refine bx_ 2 #[.int .i64 p, .slice k a.length m, .slice l b.length n, .bool q] 117 ?_; intro E hg K hbox hb; have _ := Q_ (below_step (pb_ HB.1) hb); have o := Q_ (hbox); have u := Q_ (gw_ (w := w) hg (pb_ HB.1)); have g := u; clear HB; rename_i HB; clear hb hbox hg))
 (try simp only [Act.put, s1_, s2_, s3_])
 have H := HS_.1
 clear HS_
 obtain ⟨c, I, H⟩ := bs_ H
 (try dsimp only at H)
 have HS_ := Q_ H
 clear H
 have F := bc4_ o.1
 go_upto_if 10 with (first | ((with_reducible refine gate_callee (f := 12) rfl ?_); refine gl_ (some 8) Try.func12 #[.slice k a.length m, .int .i64 D] ?_; (with_reducible refine (laws_szIntS.calls _ _ a D c _ (cb_ y HB) v.1 I.1).mono ?_); rintro e w' ⟨rfl, ⟨nd, rfl⟩⟩; refine ⟨_, rfl, ?_⟩))
 (try simp only [Act.put, s1_, s2_, s3_])
 have H := HS_.1
 clear HS_
 by_cases A : c < 0
 ·rw [if_pos A] at H
  have i := decide_eq_true A
  clear A
  (first | rw [i] | (simp only [i64_w, i32_w]; rw [i]) | skip)
  obtain rfl := Option.some.inj H
  go_wp2
  go_ret
  exact ⟨er_, pb1_ HB.1 g.1⟩
 rw [if_neg A] at H
 have i := decide_eq_false A
 clear A
 (first | rw [i] | (simp only [i64_w, i32_w]; rw [i]) | skip)
 obtain ⟨d, J, H⟩ := bs_ H
 replace H : (if d < 0 then (some (-1)) else (some d)) = some r := H
 have HS_ := Q_ H
 clear H
 have G := bc4_ o.1
 go_upto_if 16 with (first | ((with_reducible refine gate_callee (f := 12) rfl ?_); refine gl_ (some 14) Try.func12 #[.slice l b.length n, .int .i64 c] ?_; (with_reducible refine (laws_szIntS.calls _ _ b c d _ ?side1 x.1 J.1).mono ?_); (case side1 => exact pc_ (Kd.C_below z.1 (pb1_ HB.1 g.1))); rintro e w' ⟨rfl, ⟨nd, rfl⟩⟩; refine ⟨_, rfl, ?_⟩))
 (try simp only [Act.put, s1_, s2_, s3_])
 have H := HS_.1
 clear HS_
 by_cases B : d < 0
 rotate_left
 ·rw [if_neg B] at H
  have j := decide_eq_false B
  clear B
  (first | rw [j] | (simp only [i64_w, i32_w]; rw [j]) | skip)
  obtain rfl := Option.some.inj H
  go_wp2
  go_ret
  exact ⟨er_, pb1_ HB.1 g.1⟩
 rw [if_pos B] at H
 have j := decide_eq_true B
 clear B
 (first | rw [j] | (simp only [i64_w, i32_w]; rw [j]) | skip)
 obtain rfl := Option.some.inj H
 go_wp2
 go_ret
 exact ⟨er_, pb1_ HB.1 g.1⟩

/-! ### laws_szBoxS: function 86 -/
def laws_szBoxS.l0 : Nat → List (S117) → Int → Int → Option (Int)
 | 0, _, _, _ => none
 | k + 1, c, d, b => if b < (c.length : Int) then (if 0 ≤ b then ((laws_szBox.f ((rd_T117 c b).f0) ((rd_T117 c b).f1) ((rd_T117 c b).f2) ((rd_T117 c b).f3) d).bind fun a => (if a < 0 then (some (-1)) else (laws_szBoxS.l0 k c a (wrap64 (b + 1))))) else (none)) else (some d)
def laws_szBoxS.f (k : Nat) (a : List (S117)) (b : Int) : Option (Int) := if (wrap64 (b - (a.length : Int))) < 0 then (some (-1)) else (laws_szBoxS.l0 k a (wrap64 (b - (a.length : Int))) 0)
theorem laws_szBoxS.mono_l : ∀ k, (∀ a b c, LeO (laws_szBoxS.l0 k a b c) (laws_szBoxS.l0 (k + 1) a b c))
 | 0 => fun _ _ _ r h => by simp [laws_szBoxS.l0] at h
 | k + 1 => by
  have ih0 := laws_szBoxS.mono_l k
  ·intro a b c
   unfold laws_szBoxS.l0
   exact mo1_ ih0
theorem laws_szBoxS.mono : ∀ a b k, LeO (laws_szBoxS.f k a b) (laws_szBoxS.f (k + 1) a b) := by
 intro a b k
 have ih0 := laws_szBoxS.mono_l k
 unfold laws_szBoxS.f
 exact mo1_ ih0
theorem laws_szBoxS.calls (k : Nat) (N : Option Addr) (O : Nat) (b : List (S117)) (z : Int) (r : Int) (w : World) (hr0 : Kd.C k117 w N b.length b) (J : b.length ≤ O) (h : laws_szBoxS.f k b z = some r) :
  Calls Try.prog 86 #[.slice N b.length O, .int .i64 z] w fun e w' => e = .returned (.int .i64 r) ∧ Below w.heap.size w w' := by
 have hu117 := Try.underlying117
 have L := Q_ hr0
 have R := Q_ J
 clear hr0 J
 have HB := Q_ (Below.refl w.heap.size w)
 have H : (if (wrap64 (z - (b.length : Int))) < 0 then (some (-1)) else (laws_szBoxS.l0 k b (wrap64 (z - (b.length : Int))) 0)) = some r := h
 clear h
 by_cases A : (wrap64 (z - (b.length : Int))) < 0
 rotate_left
 ·rw [if_neg A] at H
  have F := decide_eq_false A
  clear A
  have H' := Q_ H
  clear H
  go_enter Try.func86, Try.ntmps86
  go_wp2
  go_loopg [1, 5] k (fun kq S T w' => ∃ (l : Int) (a : Int), S = .int .i64 l ∧ T = .int .i64 a ∧ Aside0 (laws_szBoxS.l0 kq b l a = some r) ∧ Aside0 (kq ≤ k) ∧ Aside0 (Below w.heap.size w w'))
  case atStart => exact ⟨(wrap64 (z - (b.length : Int))), (0), el_, el_, H', ⟨Nat.le_refl _⟩, ⟨pb_ HB.1⟩⟩
  clear H'
  obtain ⟨l, a, rfl, rfl, HA, E, HB⟩ := hrel
  rcases gk with _ | k1
  ·exact absurd HA.1 (by simp [laws_szBoxS.l0])
  have H := HA.1
  clear HA
  simp only [laws_szBoxS.l0] at H
  by_cases B : a < (b.length : Int)
  rotate_left
  ·rw [if_neg B] at H
   have G := decide_eq_false B
   clear B
   obtain rfl := Option.some.inj H
   go_wp2
   go_ret
   exact ⟨er_, pb_ HB.1⟩
  rw [if_pos B] at H
  have G := decide_eq_true B
  clear B
  by_cases K : 0 ≤ a
  rotate_left
  ·rw [if_neg K] at H
   exact nn_ H
  rw [if_pos K] at H
  have P := decide_eq_true K
  clear K
  obtain ⟨t, Q, H⟩ := bs_ H
  (try dsimp only at H)
  have HS_ := Q_ H
  clear H
  have q : 0 ≤ (a : Int) := dt_
  have s : a < (b.length : Int) := dt_
  obtain ⟨M, u, x, v, y, I, d, g, i, j, m, o, n, p⟩ := at_U117 L.1 a q s
  cases I
  replace d := bt_ HB d
  replace g := bt_ HB g
  replace i := bt_ HB i
  replace j := bt_ HB j
  replace q := eq_true q
  replace s := eq_true s
  go_upto_if 25 with (first | ((with_reducible refine gate_callee (f := 100) rfl ?_); refine gl_ (some 23) Try.func100 #[.agg #[.int .i64 ((rd_T117 b a).f0), .slice u ((rd_T117 b a).f1).length x, .slice v ((rd_T117 b a).f2).length y, .bool ((rd_T117 b a).f3)], .int .i64 l] ?_; (with_reducible refine (laws_szBox.calls ((rd_T117 b a).f0) _ _ ((rd_T117 b a).f1) _ _ ((rd_T117 b a).f2) ((rd_T117 b a).f3) l t _ (cb_ o HB) m.1 (cb_ p HB) n.1 Q.1).mono ?_); rintro e U ⟨rfl, hb⟩; refine ⟨_, rfl, ?_⟩; have _ := Q_ (below_step (pb_ HB.1) hb); clear HB; rename_i HB; (try clear hb)))
  (try simp only [Act.put, s1_, s2_, s3_])
  have H := HS_.1
  clear HS_
  by_cases D : t < 0
  rotate_left
  ·rw [if_neg D] at H
   have c := decide_eq_false D
   clear D
   (first | rw [c] | (simp only [i64_w, i32_w]; rw [c]) | skip)
   have H' := Q_ H
   clear H
   go_wp2
   go_roundg k1
   case measure => have := E.1; omega
   case rel => exact ⟨(t), (wrap64 (a + 1)), el_, el_, H', ⟨by have := E.1; omega⟩, ⟨pb_ HB.1⟩⟩
  rw [if_pos D] at H
  have c := decide_eq_true D
  clear D
  (first | rw [c] | (simp only [i64_w, i32_w]; rw [c]) | skip)
  obtain rfl := Option.some.inj H
  go_wp2
  go_ret
  exact ⟨er_, pb_ HB.1⟩
 rw [if_pos A] at H
 have F := decide_eq_true A
 clear A
 obtain rfl := Option.some.inj H
 go_enter Try.func86, Try.ntmps86
 go_wp2
 go_ret
 exact ⟨er_, pb_ HB.1⟩

/-! ### laws_szEndpoint: function 58 -/
def laws_szEndpoint.f (k : Nat) (d : List Int) (e : List Int) (g : List (S117)) (h : Int) (i : Int) : Option (Int) := (laws_szIntS.f d i).bind fun a => (if a < 0 then (some (-1)) else ((laws_szIntS.f e a).bind fun b => (if b < 0 then (some (-1)) else ((laws_szBoxS.f k g b).bind fun c => (if c < 0 then (some (-1)) else (some c))))))
theorem laws_szEndpoint.mono : ∀ a b c d e k, LeO (laws_szEndpoint.f k a b c d e) (laws_szEndpoint.f (k + 1) a b c d e) := by
 intro a b c d e k
 unfold laws_szEndpoint.f
 exact mo1_ laws_szBoxS.mono
theorem laws_szEndpoint.calls (k : Nat) (p : Option Addr) (t : Nat) (b : List Int) (q : Option Addr) (u : Nat) (c : List Int) (s : Option Addr) (v : Nat) (d : List (S117)) (y : Int) (O : Int) (r : Int) (w : World) (hr0_0 : Kd.C (Kd.int .i64) w p b.length b) (z : b.length ≤ t) (hr0_1 : Kd.C (Kd.int .i64) w q c.length c) (A : c.length ≤ u) (hr0_2 : Kd.C k117 w s d.length d) (B : d.length ≤ v) (h : laws_szEndpoint.f k b c d y O = some r) :
  Calls Try.prog 58 #[.agg #[.slice p b.length t, .slice q c.length u, .slice s d.length v, .int .i64 y], .int .i64 O] w fun e w' => e = .returned (.int .i64 r) ∧ Below w.heap.size w w' := by
 have hu85 := Try.underlying85
 have I := Q_ hr0_0
 have E := Q_ z
 clear hr0_0 z
 have J := Q_ hr0_1
 have F := Q_ A
 clear hr0_1 A
 have K := Q_ hr0_2
 have G := Q_ B
 clear hr0_2 B
 have HB := Q_ (Below.refl w.heap.size w)
 have H : ((laws_szIntS.f b O).bind fun j => (if j < 0 then (some (-1)) else ((laws_szIntS.f c j).bind fun l => (if l < 0 then (some (-1)) else ((laws_szBoxS.f k d l).bind fun m => (if m < 0 then (some (-1)) else (some m))))))) = some r := h
 clear h
 have HS_ := Q_ H
 clear H
 go_enter Try.func58, Try.ntmps58
 go_upto_region 1 with (first | ((with_reducible refine gate_dst (N := 2) rfl ?_); refine bx_ 2 #[.slice p b.length t, .slice q c.length u, .slice s d.length v, .int .i64 y] 85 ?_; intro Q hg X hbox hb; have _ := Q_ (below_step (pb_ HB.1) hb); have g := Q_ (hbox); have D := Q_ (gw_ (w := w) hg (pb_ HB.1)); have a := D; clear HB; rename_i HB; clear hb hbox hg))
 (try simp only [Act.put, s1_, s2_, s3_])
 have H := HS_.1
 clear HS_
 obtain ⟨j, U, H⟩ := bs_ H
 (try dsimp only at H)
 have HS_ := Q_ H
 clear H
 have S := bc4_ g.1
 go_upto_if 10 with (first | ((with_reducible refine gate_callee (f := 12) rfl ?_); refine gl_ (some 8) Try.func12 #[.slice p b.length t, .int .i64 O] ?_; (with_reducible refine (laws_szIntS.calls _ _ b O j _ (cb_ I HB) E.1 U.1).mono ?_); rintro e w' ⟨rfl, ⟨nd, rfl⟩⟩; refine ⟨_, rfl, ?_⟩))
 (try simp only [Act.put, s1_, s2_, s3_])
 have H := HS_.1
 clear HS_
 by_cases L : j < 0
 ·rw [if_pos L] at H
  have n := decide_eq_true L
  clear L
  (first | rw [n] | (simp only [i64_w, i32_w]; rw [n]) | skip)
  obtain rfl := Option.some.inj H
  go_wp2
  go_ret
  exact ⟨er_, pb1_ HB.1 a.1⟩
 rw [if_neg L] at H
 have n := decide_eq_false L
 clear L
 (first | rw [n] | (simp only [i64_w, i32_w]; rw [n]) | skip)
 obtain ⟨l, V, H⟩ := bs_ H
 (try dsimp only at H)
 have HS_ := Q_ H
 clear H
 have T := bc4_ g.1
 go_upto_if 16 with (first | ((with_reducible refine gate_callee (f := 12) rfl ?_); refine gl_ (some 14) Try.func12 #[.slice q c.length u, .int .i64 j] ?_; (with_reducible refine (laws_szIntS.calls _ _ c j l _ ?side1 F.1 V.1).mono ?_); (case side1 => exact pc_ (Kd.C_below J.1 (pb1_ HB.1 a.1))); rintro e w' ⟨rfl, ⟨nd, rfl⟩⟩; refine ⟨_, rfl, ?_⟩))
 (try simp only [Act.put, s1_, s2_, s3_])
 have H := HS_.1
 clear HS_
 by_cases M : l < 0
 ·rw [if_pos M] at H
  have o := decide_eq_true M
  clear M
  (first | rw [o] | (simp only [i64_w, i32_w]; rw [o]) | skip)
  obtain rfl := Option.some.inj H
  go_wp2
  go_ret
  exact ⟨er_, pb1_ HB.1 a.1⟩
 rw [if_neg M] at H
 have o := decide_eq_false M
 clear M
 (first | rw [o] | (simp only [i64_w, i32_w]; rw [o]) | skip)
 obtain ⟨m, P, H⟩ := bs_ H
 replace H : (if m < 0 then (some (-1)) else (some m)) = some r := H
 have HS_ := Q_ H
 clear H
 have R := bc4_ g.1
 go_upto_if 22 with (first | ((with_reducible refine gate_callee (f := 86) rfl ?_); refine gl_ (some 20) Try.func86 #[.slice s d.length v, .int .i64 l] ?_; (with_reducible refine (laws_szBoxS.calls k _ _ d l m _ ?side1 G.1 P.1).mono ?_); (case side1 => exact pc_ (Kd.C_below K.1 (pb1_ HB.1 a.1))); rintro e W ⟨rfl, hb⟩; refine ⟨_, rfl, ?_⟩; have _ := Q_ (bb_ g.1 hb); have _ := Q_ (below_step (pb1_ HB.1 a.1) hb); clear g HB; rename_i g HB; (try clear hb)))
 (try simp only [Act.put, s1_, s2_, s3_])
 have H := HS_.1
 clear HS_
 by_cases x : m < 0
 rotate_left
 ·rw [if_neg x] at H
  have i := decide_eq_false x
  clear x
  (first | rw [i] | (simp only [i64_w, i32_w]; rw [i]) | skip)
  obtain rfl := Option.some.inj H
  go_wp2
  go_ret
  exact ⟨er_, pb1_ HB.1 a.1⟩
 rw [if_pos x] at H
 have i := decide_eq_true x
 clear x
 (first | rw [i] | (simp only [i64_w, i32_w]; rw [i]) | skip)
 obtain rfl := Option.some.inj H
 go_wp2
 go_ret
 exact ⟨er_, pb1_ HB.1 a.1⟩

/-! ### laws_szEndpointS: function 13 -/
def laws_szEndpointS.l0 : Nat → List (S85) → Int → Int → Option (Int)
 | 0, _, _, _ => none
 | k + 1, c, d, b => if b < (c.length : Int) then (if 0 ≤ b then ((laws_szEndpoint.f k ((rd_T85 c b).f0) ((rd_T85 c b).f1) ((rd_T85 c b).f2) ((rd_T85 c b).f3) d).bind fun a => (if a < 0 then (some (-1)) else (laws_szEndpointS.l0 k c a (wrap64 (b + 1))))) else (none)) else (some d)
def laws_szEndpointS.f (k : Nat) (a : List (S85)) (b : Int) : Option (Int) := if (wrap64 (b - (a.length : Int))) < 0 then (some (-1)) else (laws_szEndpointS.l0 k a (wrap64 (b - (a.length : Int))) 0)
theorem laws_szEndpointS.mono_l : ∀ k, (∀ a b c, LeO (laws_szEndpointS.l0 k a b c) (laws_szEndpointS.l0 (k + 1) a b c))
 | 0 => fun _ _ _ r h => by simp [laws_szEndpointS.l0] at h
 | k + 1 => by
  have ih0 := laws_szEndpointS.mono_l k
  ·intro a b c
   unfold laws_szEndpointS.l0
   exact mo2_ ih0 laws_szEndpoint.mono
theorem laws_szEndpointS.mono : ∀ a b k, LeO (laws_szEndpointS.f k a b) (laws_szEndpointS.f (k + 1) a b) := by
 intro a b k
 have ih0 := laws_szEndpointS.mono_l k
 unfold laws_szEndpointS.f
 exact mo2_ ih0 laws_szEndpoint.mono
theorem laws_szEndpointS.calls (k : Nat) (R : Option Addr) (S : Nat) (b : List (S85)) (E : Int) (r : Int) (w : World) (hr0 : Kd.C k85 w R b.length b) (N : b.length ≤ S) (h : laws_szEndpointS.f k b E = some r) :
  Calls Try.prog 13 #[.slice R b.length S, .int .i64 E] w fun e w' => e = .returned (.int .i64 r) ∧ Below w.heap.size w w' := by
 have hu85 := Try.underlying85
 have P := Q_ hr0
 have V := Q_ N
 clear hr0 N
 have HB := Q_ (Below.refl w.heap.size w)
 have H : (if (wrap64 (E - (b.length : Int))) < 0 then (some (-1)) else (laws_szEndpointS.l0 k b (wrap64 (E - (b.length : Int))) 0)) = some r := h
 clear h
 by_cases F : (wrap64 (E - (b.length : Int))) < 0
 rotate_left
 ·rw [if_neg F] at H
  have K := decide_eq_false F
  clear F
  have H' := Q_ H
  clear H
  go_enter Try.func13, Try.ntmps13
  go_wp2
  go_loopg [1, 5] k (fun kq W X w' => ∃ (l : Int) (a : Int), W = .int .i64 l ∧ X = .int .i64 a ∧ Aside0 (laws_szEndpointS.l0 kq b l a = some r) ∧ Aside0 (kq ≤ k) ∧ Aside0 (Below w.heap.size w w'))
  case atStart => exact ⟨(wrap64 (E - (b.length : Int))), (0), el_, el_, H', ⟨Nat.le_refl _⟩, ⟨pb_ HB.1⟩⟩
  clear H'
  obtain ⟨l, a, rfl, rfl, HA, J, HB⟩ := hrel
  rcases gk with _ | k1
  ·exact absurd HA.1 (by simp [laws_szEndpointS.l0])
  have H := HA.1
  clear HA
  simp only [laws_szEndpointS.l0] at H
  by_cases G : a < (b.length : Int)
  rotate_left
  ·rw [if_neg G] at H
   have L := decide_eq_false G
   clear G
   obtain rfl := Option.some.inj H
   go_wp2
   go_ret
   exact ⟨er_, pb_ HB.1⟩
  rw [if_pos G] at H
  have L := decide_eq_true G
  clear G
  by_cases O : 0 ≤ a
  rotate_left
  ·rw [if_neg O] at H
   exact nn_ H
  rw [if_pos O] at H
  have T := decide_eq_true O
  clear O
  obtain ⟨v, U, H⟩ := bs_ H
  (try dsimp only at H)
  have HS_ := Q_ H
  clear H
  have t : 0 ≤ (a : Int) := dt_
  have u : a < (b.length : Int) := dt_
  obtain ⟨Q, x, A, y, B, z, D, M, d, g, i, j, m, p, n, q, o, s⟩ := at_U85 P.1 a t u
  cases M
  replace d := bt_ HB d
  replace g := bt_ HB g
  replace i := bt_ HB i
  replace j := bt_ HB j
  replace t := eq_true t
  replace u := eq_true u
  go_upto_if 25 with (first | ((with_reducible refine gate_callee (f := 58) rfl ?_); refine gl_ (some 23) Try.func58 #[.agg #[.slice x ((rd_T85 b a).f0).length A, .slice y ((rd_T85 b a).f1).length B, .slice z ((rd_T85 b a).f2).length D, .int .i64 ((rd_T85 b a).f3)], .int .i64 l] ?_; (with_reducible refine (laws_szEndpoint.calls k1 _ _ ((rd_T85 b a).f0) _ _ ((rd_T85 b a).f1) _ _ ((rd_T85 b a).f2) ((rd_T85 b a).f3) l v _ (cb_ p HB) m.1 (cb_ q HB) n.1 (cb_ s HB) o.1 U.1).mono ?_); rintro e Y ⟨rfl, hb⟩; refine ⟨_, rfl, ?_⟩; have _ := Q_ (below_step (pb_ HB.1) hb); clear HB; rename_i HB; (try clear hb)))
  (try simp only [Act.put, s1_, s2_, s3_])
  have H := HS_.1
  clear HS_
  by_cases I : v < 0
  rotate_left
  ·rw [if_neg I] at H
   have c := decide_eq_false I
   clear I
   (first | rw [c] | (simp only [i64_w, i32_w]; rw [c]) | skip)
   have H' := Q_ H
   clear H
   go_wp2
   go_roundg k1
   case measure => have := J.1; omega
   case rel => exact ⟨(v), (wrap64 (a + 1)), el_, el_, H', ⟨by have := J.1; omega⟩, ⟨pb_ HB.1⟩⟩
  rw [if_pos I] at H
  have c := decide_eq_true I
  clear I
  (first | rw [c] | (simp only [i64_w, i32_w]; rw [c]) | skip)
  obtain rfl := Option.some.inj H
  go_wp2
  go_ret
  exact ⟨er_, pb_ HB.1⟩
 rw [if_pos F] at H
 have K := decide_eq_true F
 clear F
 obtain rfl := Option.some.inj H
 go_enter Try.func13, Try.ntmps13
 go_wp2
 go_ret
 exact ⟨er_, pb_ HB.1⟩

/-! ### laws_szRollout: function 14 -/
def laws_szRollout.f (c : Int) (b : List Int) (d : Int) (e : Bool) (g : Int) : Option (Int) := (laws_szIntS.f b g).bind fun a => (if a < 0 then (some (-1)) else (some a))
theorem laws_szRollout.calls (j : Int) (d : Option Addr) (g : Nat) (a : List Int) (k : Int) (l : Bool) (t : Int) (r : Int) (w : World) (hr0_1 : Kd.C (Kd.int .i64) w d a.length a) (m : a.length ≤ g) (h : laws_szRollout.f j a k l t = some r) :
  Calls Try.prog 14 #[.agg #[.int .i64 j, .slice d a.length g, .int .i64 k, .bool l], .int .i64 t] w fun e w' => e = .returned (.int .i64 r) ∧ Below w.heap.size w w' := by
 have hu25 := Try.underlying25
 have q := Q_ hr0_1
 have p := Q_ m
 clear hr0_1 m
 have HB := Q_ (Below.refl w.heap.size w)
 have H : ((laws_szIntS.f a t).bind fun b => (if b < 0 then (some (-1)) else (some b))) = some r := h
 clear h
 have HS_ := Q_ H
 clear H
 go_enter Try.func14, Try.ntmps14
 go_upto_region 1 with (first | ((with_reducible refine gate_dst (N := 2) rfl ?_); refine bx_ 2 #[.int .i64 j, .slice d a.length g, .int .i64 k, .bool l] 25 ?_; intro u hg y hbox hb; have _ := Q_ (below_step (pb_ HB.1) hb); have n := Q_ (hbox); have o := Q_ (gw_ (w := w) hg (pb_ HB.1)); have i := o; clear HB; rename_i HB; clear hb hbox hg))
 (try simp only [Act.put, s1_, s2_, s3_])
 have H := HS_.1
 clear HS_
 obtain ⟨b, x, H⟩ := bs_ H
 replace H : (if b < 0 then (some (-1)) else (some b)) = some r := H
 have HS_ := Q_ H
 clear H
 have v := bc4_ n.1
 go_upto_if 10 with (first | ((with_reducible refine gate_callee (f := 12) rfl ?_); refine gl_ (some 8) Try.func12 #[.slice d a.length g, .int .i64 t] ?_; (with_reducible refine (laws_szIntS.calls _ _ a t b _ (cb_ q HB) p.1 x.1).mono ?_); rintro e w' ⟨rfl, ⟨nd, rfl⟩⟩; refine ⟨_, rfl, ?_⟩))
 (try simp only [Act.put, s1_, s2_, s3_])
 have H := HS_.1
 clear HS_
 by_cases s : b < 0
 rotate_left
 ·rw [if_neg s] at H
  have c := decide_eq_false s
  clear s
  (first | rw [c] | (simp only [i64_w, i32_w]; rw [c]) | skip)
  obtain rfl := Option.some.inj H
  go_wp2
  go_ret
  exact ⟨er_, pb1_ HB.1 i.1⟩
 rw [if_pos s] at H
 have c := decide_eq_true s
 clear s
 (first | rw [c] | (simp only [i64_w, i32_w]; rw [c]) | skip)
 obtain rfl := Option.some.inj H
 go_wp2
 go_ret
 exact ⟨er_, pb1_ HB.1 i.1⟩

/-! ### laws_szDeal: function 87 -/
def laws_szDeal.f (c : Bool) (d : Int) (b : List Int) (e : Int) : Option (Int) := (laws_szIntS.f b e).bind fun a => (if a < 0 then (some (-1)) else (some a))
theorem laws_szDeal.calls (j : Bool) (k : Int) (d : Option Addr) (g : Nat) (a : List Int) (s : Int) (r : Int) (w : World) (hr0_2 : Kd.C (Kd.int .i64) w d a.length a) (l : a.length ≤ g) (h : laws_szDeal.f j k a s = some r) :
  Calls Try.prog 87 #[.agg #[.bool j, .int .i64 k, .slice d a.length g], .int .i64 s] w fun e w' => e = .returned (.int .i64 r) ∧ Below w.heap.size w w' := by
 have hu87 := Try.underlying87
 have p := Q_ hr0_2
 have o := Q_ l
 clear hr0_2 l
 have HB := Q_ (Below.refl w.heap.size w)
 have H : ((laws_szIntS.f a s).bind fun b => (if b < 0 then (some (-1)) else (some b))) = some r := h
 clear h
 have HS_ := Q_ H
 clear H
 go_enter Try.func87, Try.ntmps87
 go_upto_region 1 with (first | ((with_reducible refine gate_dst (N := 2) rfl ?_); refine bx_ 2 #[.bool j, .int .i64 k, .slice d a.length g] 87 ?_; intro t hg x hbox hb; have _ := Q_ (below_step (pb_ HB.1) hb); have m := Q_ (hbox); have n := Q_ (gw_ (w := w) hg (pb_ HB.1)); have i := n; clear HB; rename_i HB; clear hb hbox hg))
 (try simp only [Act.put, s1_, s2_, s3_])
 have H := HS_.1
 clear HS_
 obtain ⟨b, v, H⟩ := bs_ H
 replace H : (if b < 0 then (some (-1)) else (some b)) = some r := H
 have HS_ := Q_ H
 clear H
 have u := bc3_ m.1
 go_upto_if 10 with (first | ((with_reducible refine gate_callee (f := 12) rfl ?_); refine gl_ (some 8) Try.func12 #[.slice d a.length g, .int .i64 s] ?_; (with_reducible refine (laws_szIntS.calls _ _ a s b _ (cb_ p HB) o.1 v.1).mono ?_); rintro e w' ⟨rfl, ⟨nd, rfl⟩⟩; refine ⟨_, rfl, ?_⟩))
 (try simp only [Act.put, s1_, s2_, s3_])
 have H := HS_.1
 clear HS_
 by_cases q : b < 0
 rotate_left
 ·rw [if_neg q] at H
  have c := decide_eq_false q
  clear q
  (first | rw [c] | (simp only [i64_w, i32_w]; rw [c]) | skip)
  obtain rfl := Option.some.inj H
  go_wp2
  go_ret
  exact ⟨er_, pb1_ HB.1 i.1⟩
 rw [if_pos q] at H
 have c := decide_eq_true q
 clear q
 (first | rw [c] | (simp only [i64_w, i32_w]; rw [c]) | skip)
 obtain rfl := Option.some.inj H
 go_wp2
 go_ret
 exact ⟨er_, pb1_ HB.1 i.1⟩

/-! ### laws_szDialed: function 59 -/
def laws_szDialed.f (c : Bool) (d : Int) (e : List Int) (h : Int) (g : List Int) (i : Int) : Option (Int) := (laws_szDeal.f c d e i).bind fun a => (if a < 0 then (some (-1)) else ((laws_szIntS.f g a).bind fun b => (if b < 0 then (some (-1)) else (some b))))
theorem laws_szDialed.calls (j : Bool) (k : Int) (n : Option Addr) (p : Nat) (a : List Int) (t : Int) (o : Option Addr) (q : Nat) (b : List Int) (E : Int) (r : Int) (w : World) (hr0_2 : Kd.C (Kd.int .i64) w n a.length a) (u : a.length ≤ p) (hr0_4 : Kd.C (Kd.int .i64) w o b.length b) (v : b.length ≤ q) (h : laws_szDialed.f j k a t b E = some r) :
  Calls Try.prog 59 #[.agg #[.bool j, .int .i64 k, .slice n a.length p, .int .i64 t, .slice o b.length q], .int .i64 E] w fun e w' => e = .returned (.int .i64 r) ∧ Below w.heap.size w w' := by
 have hu89 := Try.underlying89
 have hu87 := Try.underlying87
 have A := Q_ hr0_2
 have y := Q_ u
 clear hr0_2 u
 have B := Q_ hr0_4
 have z := Q_ v
 clear hr0_4 v
 have HB := Q_ (Below.refl w.heap.size w)
 have H : ((laws_szDeal.f j k a E).bind fun g => (if g < 0 then (some (-1)) else ((laws_szIntS.f b g).bind fun i => (if i < 0 then (some (-1)) else (some i))))) = some r := h
 clear h
 have HS_ := Q_ H
 clear H
 go_enter Try.func59, Try.ntmps59
 go_upto_region 1 with (first | ((with_reducible refine gate_dst (N := 2) rfl ?_); refine bx_ 2 #[.bool j, .int .i64 k, .slice n a.length p, .int .i64 t, .slice o b.length q] 89 ?_; intro F hg L hbox hb; have _ := Q_ (below_step (pb_ HB.1) hb); have c := Q_ (hbox); have x := Q_ (gw_ (w := w) hg (pb_ HB.1)); have l := x; clear HB; rename_i HB; clear hb hbox hg))
 (try simp only [Act.put, s1_, s2_, s3_])
 have H := HS_.1
 clear HS_
 obtain ⟨g, J, H⟩ := bs_ H
 (try dsimp only at H)
 have HS_ := Q_ H
 clear H
 have G := bc5_ c.1
 go_upto_if 10 with (first | ((with_reducible refine gate_callee (f := 87) rfl ?_); refine gl_ (some 8) Try.func87 #[.agg #[.bool j, .int .i64 k, .slice n a.length p], .int .i64 E] ?_; (with_reducible refine (laws_szDeal.calls j k _ _ a E g _ (cb_ A HB) y.1 J.1).mono ?_); rintro e M ⟨rfl, hb⟩; refine ⟨_, rfl, ?_⟩; have _ := Q_ (bb_ c.1 hb); have _ := Q_ (below_step (pb1_ HB.1 l.1) hb); clear c HB; rename_i c HB; (try clear hb)))
 (try simp only [Act.put, s1_, s2_, s3_])
 have H := HS_.1
 clear HS_
 by_cases D : g < 0
 ·rw [if_pos D] at H
  have m := decide_eq_true D
  clear D
  (first | rw [m] | (simp only [i64_w, i32_w]; rw [m]) | skip)
  obtain rfl := Option.some.inj H
  go_wp2
  go_ret
  exact ⟨er_, pb1_ HB.1 l.1⟩
 rw [if_neg D] at H
 have m := decide_eq_false D
 clear D
 (first | rw [m] | (simp only [i64_w, i32_w]; rw [m]) | skip)
 obtain ⟨i, K, H⟩ := bs_ H
 replace H : (if i < 0 then (some (-1)) else (some i)) = some r := H
 have HS_ := Q_ H
 clear H
 have I := bc5_ c.1
 go_upto_if 16 with (first | ((with_reducible refine gate_callee (f := 12) rfl ?_); refine gl_ (some 14) Try.func12 #[.slice o b.length q, .int .i64 g] ?_; (with_reducible refine (laws_szIntS.calls _ _ b g i _ (cb_ B HB) z.1 K.1).mono ?_); rintro e w' ⟨rfl, ⟨nd, rfl⟩⟩; refine ⟨_, rfl, ?_⟩))
 (try simp only [Act.put, s1_, s2_, s3_])
 have H := HS_.1
 clear HS_
 by_cases s : i < 0
 rotate_left
 ·rw [if_neg s] at H
  have d := decide_eq_false s
  clear s
  (first | rw [d] | (simp only [i64_w, i32_w]; rw [d]) | skip)
  obtain rfl := Option.some.inj H
  go_wp2
  go_ret
  exact ⟨er_, pb1_ HB.1 l.1⟩
 rw [if_pos s] at H
 have d := decide_eq_true s
 clear s
 (first | rw [d] | (simp only [i64_w, i32_w]; rw [d]) | skip)
 obtain rfl := Option.some.inj H
 go_wp2
 go_ret
 exact ⟨er_, pb1_ HB.1 l.1⟩

/-! ### laws_szDialedS: function 15 -/
def laws_szDialedS.l0 : Nat → List (S89) → Int → Int → Option (Int)
 | 0, _, _, _ => none
 | k + 1, c, d, b => if b < (c.length : Int) then (if 0 ≤ b then ((laws_szDialed.f ((rd_T89 c b).f0.f0) ((rd_T89 c b).f0.f1) ((rd_T89 c b).f0.f2) ((rd_T89 c b).f1) ((rd_T89 c b).f2) d).bind fun a => (if a < 0 then (some (-1)) else (laws_szDialedS.l0 k c a (wrap64 (b + 1))))) else (none)) else (some d)
def laws_szDialedS.f (k : Nat) (a : List (S89)) (b : Int) : Option (Int) := if (wrap64 (b - (a.length : Int))) < 0 then (some (-1)) else (laws_szDialedS.l0 k a (wrap64 (b - (a.length : Int))) 0)
theorem laws_szDialedS.mono_l : ∀ k, (∀ a b c, LeO (laws_szDialedS.l0 k a b c) (laws_szDialedS.l0 (k + 1) a b c))
 | 0 => fun _ _ _ r h => by simp [laws_szDialedS.l0] at h
 | k + 1 => by
  have ih0 := laws_szDialedS.mono_l k
  ·intro a b c
   unfold laws_szDialedS.l0
   exact mo1_ ih0
theorem laws_szDialedS.mono : ∀ a b k, LeO (laws_szDialedS.f k a b) (laws_szDialedS.f (k + 1) a b) := by
 intro a b k
 have ih0 := laws_szDialedS.mono_l k
 unfold laws_szDialedS.f
 exact mo1_ ih0
theorem laws_szDialedS.calls (k : Nat) (O : Option Addr) (P : Nat) (b : List (S89)) (A : Int) (r : Int) (w : World) (hr0 : Kd.C k89 w O b.length b) (K : b.length ≤ P) (h : laws_szDialedS.f k b A = some r) :
  Calls Try.prog 15 #[.slice O b.length P, .int .i64 A] w fun e w' => e = .returned (.int .i64 r) ∧ Below w.heap.size w w' := by
 have hu89 := Try.underlying89
 have M := Q_ hr0
 have S := Q_ K
 clear hr0 K
 have HB := Q_ (Below.refl w.heap.size w)
 have H : (if (wrap64 (A - (b.length : Int))) < 0 then (some (-1)) else (laws_szDialedS.l0 k b (wrap64 (A - (b.length : Int))) 0)) = some r := h
 clear h
 by_cases B : (wrap64 (A - (b.length : Int))) < 0
 rotate_left
 ·rw [if_neg B] at H
  have G := decide_eq_false B
  clear B
  have H' := Q_ H
  clear H
  go_enter Try.func15, Try.ntmps15
  go_wp2
  go_loopg [1, 5] k (fun kq T U w' => ∃ (m : Int) (a : Int), T = .int .i64 m ∧ U = .int .i64 a ∧ Aside0 (laws_szDialedS.l0 kq b m a = some r) ∧ Aside0 (kq ≤ k) ∧ Aside0 (Below w.heap.size w w'))
  case atStart => exact ⟨(wrap64 (A - (b.length : Int))), (0), el_, el_, H', ⟨Nat.le_refl _⟩, ⟨pb_ HB.1⟩⟩
  clear H'
  obtain ⟨m, a, rfl, rfl, HA, F, HB⟩ := hrel
  rcases gk with _ | k1
  ·exact absurd HA.1 (by simp [laws_szDialedS.l0])
  have H := HA.1
  clear HA
  simp only [laws_szDialedS.l0] at H
  by_cases D : a < (b.length : Int)
  rotate_left
  ·rw [if_neg D] at H
   have I := decide_eq_false D
   clear D
   obtain rfl := Option.some.inj H
   go_wp2
   go_ret
   exact ⟨er_, pb_ HB.1⟩
  rw [if_pos D] at H
  have I := decide_eq_true D
  clear D
  by_cases L : 0 ≤ a
  rotate_left
  ·rw [if_neg L] at H
   exact nn_ H
  rw [if_pos L] at H
  have Q := decide_eq_true L
  clear L
  obtain ⟨u, R, H⟩ := bs_ H
  (try dsimp only at H)
  have HS_ := Q_ H
  clear H
  have s : 0 ≤ (a : Int) := dt_
  have t : a < (b.length : Int) := dt_
  obtain ⟨N, v, y, x, z, J, d, g, i, j, l, n, p, o, q⟩ := at_U89 M.1 a s t
  cases J
  replace d := bt_ HB d
  replace g := bt_ HB g
  replace i := bt_ HB i
  replace j := bt_ HB j
  replace l := bt_ HB l
  replace s := eq_true s
  replace t := eq_true t
  go_upto_if 25 with (first | ((with_reducible refine gate_callee (f := 59) rfl ?_); refine gl_ (some 23) Try.func59 #[.agg #[.bool ((rd_T89 b a).f0.f0), .int .i64 ((rd_T89 b a).f0.f1), .slice v ((rd_T89 b a).f0.f2).length y, .int .i64 ((rd_T89 b a).f1), .slice x ((rd_T89 b a).f2).length z], .int .i64 m] ?_; (with_reducible refine (laws_szDialed.calls ((rd_T89 b a).f0.f0) ((rd_T89 b a).f0.f1) _ _ ((rd_T89 b a).f0.f2) ((rd_T89 b a).f1) _ _ ((rd_T89 b a).f2) m u _ (cb_ p HB) n.1 (cb_ q HB) o.1 R.1).mono ?_); rintro e V ⟨rfl, hb⟩; refine ⟨_, rfl, ?_⟩; have _ := Q_ (below_step (pb_ HB.1) hb); clear HB; rename_i HB; (try clear hb)))
  (try simp only [Act.put, s1_, s2_, s3_])
  have H := HS_.1
  clear HS_
  by_cases E : u < 0
  rotate_left
  ·rw [if_neg E] at H
   have c := decide_eq_false E
   clear E
   (first | rw [c] | (simp only [i64_w, i32_w]; rw [c]) | skip)
   have H' := Q_ H
   clear H
   go_wp2
   go_roundg k1
   case measure => have := F.1; omega
   case rel => exact ⟨(u), (wrap64 (a + 1)), el_, el_, H', ⟨by have := F.1; omega⟩, ⟨pb_ HB.1⟩⟩
  rw [if_pos E] at H
  have c := decide_eq_true E
  clear E
  (first | rw [c] | (simp only [i64_w, i32_w]; rw [c]) | skip)
  obtain rfl := Option.some.inj H
  go_wp2
  go_ret
  exact ⟨er_, pb_ HB.1⟩
 rw [if_pos B] at H
 have G := decide_eq_true B
 clear B
 obtain rfl := Option.some.inj H
 go_enter Try.func15, Try.ntmps15
 go_wp2
 go_ret
 exact ⟨er_, pb_ HB.1⟩

/-! ### laws_szLogged: function 60 -/
def laws_szLogged.f (h : Int) (i : Int) (j : Bool) (b : Bool) (c : Int) (e : List Int) (d : Int) (g : List Int) (k : Int) : Option (Int) := (laws_szDialed.f b c e d g k).bind fun a => (if a < 0 then (some (-1)) else (some a))
theorem laws_szLogged.calls (q : Int) (s : Int) (t : Bool) (d : Bool) (g : Int) (m : Option Addr) (o : Nat) (a : List Int) (i : Int) (n : Option Addr) (p : Nat) (b : List Int) (E : Int) (r : Int) (w : World) (hr0_5 : Kd.C (Kd.int .i64) w m a.length a) (u : a.length ≤ o) (hr0_7 : Kd.C (Kd.int .i64) w n b.length b) (v : b.length ≤ p) (h : laws_szLogged.f q s t d g a i b E = some r) :
  Calls Try.prog 60 #[.agg #[.int .i64 q, .int .i64 s, .bool t, .bool d, .int .i64 g, .slice m a.length o, .int .i64 i, .slice n b.length p], .int .i64 E] w fun e w' => e = .returned (.int .i64 r) ∧ Below w.heap.size w w' := by
 have hu92 := Try.underlying92
 have hu89 := Try.underlying89
 have A := Q_ hr0_5
 have y := Q_ u
 clear hr0_5 u
 have B := Q_ hr0_7
 have z := Q_ v
 clear hr0_7 v
 have HB := Q_ (Below.refl w.heap.size w)
 have H : ((laws_szDialed.f d g a i b E).bind fun c => (if c < 0 then (some (-1)) else (some c))) = some r := h
 clear h
 have HS_ := Q_ H
 clear H
 go_enter Try.func60, Try.ntmps60
 go_upto_region 1 with (first | ((with_reducible refine gate_dst (N := 2) rfl ?_); refine bx_ 2 #[.int .i64 q, .int .i64 s, .bool t, .bool d, .int .i64 g, .slice m a.length o, .int .i64 i, .slice n b.length p] 92 ?_; intro F hg J hbox hb; have _ := Q_ (below_step (pb_ HB.1) hb); have j := Q_ (hbox); have x := Q_ (gw_ (w := w) hg (pb_ HB.1)); have l := x; clear HB; rename_i HB; clear hb hbox hg))
 (try simp only [Act.put, s1_, s2_, s3_])
 have H := HS_.1
 clear HS_
 obtain ⟨c, I, H⟩ := bs_ H
 replace H : (if c < 0 then (some (-1)) else (some c)) = some r := H
 have HS_ := Q_ H
 clear H
 have G := bc8_ j.1
 go_upto_if 10 with (first | ((with_reducible refine gate_callee (f := 59) rfl ?_); refine gl_ (some 8) Try.func59 #[.agg #[.bool d, .int .i64 g, .slice m a.length o, .int .i64 i, .slice n b.length p], .int .i64 E] ?_; (with_reducible refine (laws_szDialed.calls d g _ _ a i _ _ b E c _ (cb_ A HB) y.1 (cb_ B HB) z.1 I.1).mono ?_); rintro e K ⟨rfl, hb⟩; refine ⟨_, rfl, ?_⟩; have _ := Q_ (bb_ j.1 hb); have _ := Q_ (below_step (pb1_ HB.1 l.1) hb); clear j HB; rename_i j HB; (try clear hb)))
 (try simp only [Act.put, s1_, s2_, s3_])
 have H := HS_.1
 clear HS_
 by_cases D : c < 0
 rotate_left
 ·rw [if_neg D] at H
  have k := decide_eq_false D
  clear D
  (first | rw [k] | (simp only [i64_w, i32_w]; rw [k]) | skip)
  obtain rfl := Option.some.inj H
  go_wp2
  go_ret
  exact ⟨er_, pb1_ HB.1 l.1⟩
 rw [if_pos D] at H
 have k := decide_eq_true D
 clear D
 (first | rw [k] | (simp only [i64_w, i32_w]; rw [k]) | skip)
 obtain rfl := Option.some.inj H
 go_wp2
 go_ret
 exact ⟨er_, pb1_ HB.1 l.1⟩

end Go.Proofs.Ytchnkakjjbfklaa.Print
