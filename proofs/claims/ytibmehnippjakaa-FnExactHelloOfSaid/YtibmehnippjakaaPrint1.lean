-- Written by a program of this session (printx.py) out of the translation; Lean checks it.
import Derived.Test.YtibmehnippjakaaPrint0
namespace Go.Proofs.Ytibmehnippjakaa.Print
open Go.RowKit Go.Proofs.YtibmehnippjakaaW.PrintWords Go.Proofs.YtibmehnippjakaaW.PrintLast Go.Proofs.YtibmehnippjakaaW.PrintMore Go.Proofs.Ytibmehnippjakaa.Short
attribute [local go_sem] max2_int min2_int max_two min_two max_three min_three max_four min_four   -- for this text's walks alone
set_option linter.unusedVariables false
set_option maxHeartbeats 8000000
set_option maxRecDepth 100000
set_option linter.unusedSimpArgs false

/-! ### laws_szIntS: function 13 -/
def laws_szIntS.f (b : List Int) (a : Int) : Option (Int) := if (wrap64 (a - (b.length : Int))) < 0 then (some (-1)) else (some (wrap64 (a - (b.length : Int))))
theorem laws_szIntS.calls (i : Option Addr) (j : Nat) (a : List Int) (c : Int) (r : Int) (w : World) (hr0 : Kd.C (Kd.int .i64) w i a.length a) (g : a.length ≤ j) (h : laws_szIntS.f a c = some r) :
  Calls Try.prog 13 #[.slice i a.length j, .int .i64 c] w fun e w' => e = .returned (.int .i64 r) ∧ Drawn0 w w' := by
 have l := Q_ hr0
 have k := Q_ g
 clear hr0 g
 have H : (if (wrap64 (c - (a.length : Int))) < 0 then (some (-1)) else (some (wrap64 (c - (a.length : Int))))) = some r := h
 clear h
 by_cases b : (wrap64 (c - (a.length : Int))) < 0
 rotate_left
 ·rw [if_neg b] at H
  have d := decide_eq_false b
  clear b
  obtain rfl := Option.some.inj H
  go_enter Try.func13, Try.ntmps13
  go_wp2
  go_ret
  exact ⟨by first | rfl | (simp; done) | (simp [*]; done), by repeat (first | exact Drawn0.refl _ | apply Drawn0.step)⟩
 rw [if_pos b] at H
 have d := decide_eq_true b
 clear b
 obtain rfl := Option.some.inj H
 go_enter Try.func13, Try.ntmps13
 go_wp2
 go_ret
 exact ⟨by first | rfl | (simp; done) | (simp [*]; done), by repeat (first | exact Drawn0.refl _ | apply Drawn0.step)⟩

/-! ### laws_szBox: function 29 -/
def laws_szBox.f (e : Int) (c : List Int) (d : List Int) (g : Bool) (h : Int) : Option (Int) := (laws_szIntS.f c h).bind fun a => (if a < 0 then (some (-1)) else ((laws_szIntS.f d a).bind fun b => (if b < 0 then (some (-1)) else (some b))))
theorem laws_szBox.calls (p : Int) (k : Option Addr) (m : Nat) (a : List Int) (l : Option Addr) (n : Nat) (b : List Int) (q : Bool) (D : Int) (r : Int) (w : World) (hr0_1 : Kd.C (Kd.int .i64) w k a.length a) (s : a.length ≤ m) (hr0_2 : Kd.C (Kd.int .i64) w l b.length b) (t : b.length ≤ n) (h : laws_szBox.f p a b q D = some r) :
  Calls Try.prog 29 #[.agg #[.int .i64 p, .slice k a.length m, .slice l b.length n, .bool q], .int .i64 D] w fun e w' => e = .returned (.int .i64 r) ∧ Below w.heap.size w w' := by
 have hu55 := Try.underlying55
 have y := Q_ hr0_1
 have v := Q_ s
 clear hr0_1 s
 have z := Q_ hr0_2
 have x := Q_ t
 clear hr0_2 t
 have HB := Q_ (Below.refl w.heap.size w)
 have H : ((laws_szIntS.f a D).bind fun c => (if c < 0 then (some (-1)) else ((laws_szIntS.f b c).bind fun d => (if d < 0 then (some (-1)) else (some d))))) = some r := h
 clear h
 have HS_ := Q_ H
 clear H
 go_enter Try.func29, Try.ntmps29
 go_upto_region 1 with (first | ((with_reducible refine gate_dst (N := 2) rfl ?_); refine bx_ 2 #[.int .i64 p, .slice k a.length m, .slice l b.length n, .bool q] 55 ?_; intro E hg K hbox hb; have _ := Q_ (below_step (pb_ HB.1) hb); have o := Q_ (hbox); have u := Q_ (gw_ (w := w) hg (pb_ HB.1)); have g := u; clear HB; rename_i HB; clear hb hbox hg))
 (try simp only [Act.put, s1_, s2_, s3_])
 have H := HS_.1
 clear HS_
 obtain ⟨c, I, H⟩ := bs_ H
 (try dsimp only at H)
 have HS_ := Q_ H
 clear H
 have F := bc4_ o.1
 go_upto_if 10 with (first | ((with_reducible refine gate_callee (f := 13) rfl ?_); refine gl_ (some 8) Try.func13 #[.slice k a.length m, .int .i64 D] ?_; (with_reducible refine (laws_szIntS.calls _ _ a D c _ (cb_ y HB) v.1 I.1).mono ?_); rintro e w' ⟨rfl, ⟨nd, rfl⟩⟩; refine ⟨_, rfl, ?_⟩))
 (try simp only [Act.put, s1_, s2_, s3_])
 have H := HS_.1
 clear HS_
 by_cases A : c < 0
 ·rw [if_pos A] at H
  have i := decide_eq_true A
  clear A
  (first | rw [i] | (simp only [i64_w, i32_w]; rw [i]) | skip)
  obtain rfl := Option.some.inj H
  go_wp2
  go_ret
  exact ⟨er_, pb1_ HB.1 g.1⟩
 rw [if_neg A] at H
 have i := decide_eq_false A
 clear A
 (first | rw [i] | (simp only [i64_w, i32_w]; rw [i]) | skip)
 obtain ⟨d, J, H⟩ := bs_ H
 replace H : (if d < 0 then (some (-1)) else (some d)) = some r := H
 have HS_ := Q_ H
 clear H
 have G := bc4_ o.1
 go_upto_if 16 with (first | ((with_reducible refine gate_callee (f := 13) rfl ?_); refine gl_ (some 14) Try.func13 #[.slice l b.length n, .int .i64 c] ?_; (with_reducible refine (laws_szIntS.calls _ _ b c d _ ?side1 x.1 J.1).mono ?_); (case side1 => exact pc_ (Kd.C_below z.1 (pb1_ HB.1 g.1))); rintro e w' ⟨rfl, ⟨nd, rfl⟩⟩; refine ⟨_, rfl, ?_⟩))
 (try simp only [Act.put, s1_, s2_, s3_])
 have H := HS_.1
 clear HS_
 by_cases B : d < 0
 rotate_left
 ·rw [if_neg B] at H
  have j := decide_eq_false B
  clear B
  (first | rw [j] | (simp only [i64_w, i32_w]; rw [j]) | skip)
  obtain rfl := Option.some.inj H
  go_wp2
  go_ret
  exact ⟨er_, pb1_ HB.1 g.1⟩
 rw [if_pos B] at H
 have j := decide_eq_true B
 clear B
 (first | rw [j] | (simp only [i64_w, i32_w]; rw [j]) | skip)
 obtain rfl := Option.some.inj H
 go_wp2
 go_ret
 exact ⟨er_, pb1_ HB.1 g.1⟩

/-! ### laws_szBoxS: function 14 -/
def laws_szBoxS.l0 : Nat → List (S55) → Int → Int → Option (Int)
 | 0, _, _, _ => none
 | k + 1, c, d, b => if b < (c.length : Int) then (if 0 ≤ b then ((laws_szBox.f ((rd_T55 c b).f0) ((rd_T55 c b).f1) ((rd_T55 c b).f2) ((rd_T55 c b).f3) d).bind fun a => (if a < 0 then (some (-1)) else (laws_szBoxS.l0 k c a (wrap64 (b + 1))))) else (none)) else (some d)
def laws_szBoxS.f (k : Nat) (a : List (S55)) (b : Int) : Option (Int) := if (wrap64 (b - (a.length : Int))) < 0 then (some (-1)) else (laws_szBoxS.l0 k a (wrap64 (b - (a.length : Int))) 0)
theorem laws_szBoxS.mono_l : ∀ k, (∀ a b c, LeO (laws_szBoxS.l0 k a b c) (laws_szBoxS.l0 (k + 1) a b c))
 | 0 => fun _ _ _ r h => by simp [laws_szBoxS.l0] at h
 | k + 1 => by
  have ih0 := laws_szBoxS.mono_l k
  ·intro a b c
   unfold laws_szBoxS.l0
   exact mo1_ ih0
theorem laws_szBoxS.mono : ∀ a b k, LeO (laws_szBoxS.f k a b) (laws_szBoxS.f (k + 1) a b) := by
 intro a b k
 have ih0 := laws_szBoxS.mono_l k
 unfold laws_szBoxS.f
 exact mo1_ ih0
theorem laws_szBoxS.calls (k : Nat) (N : Option Addr) (O : Nat) (b : List (S55)) (z : Int) (r : Int) (w : World) (hr0 : Kd.C k55 w N b.length b) (J : b.length ≤ O) (h : laws_szBoxS.f k b z = some r) :
  Calls Try.prog 14 #[.slice N b.length O, .int .i64 z] w fun e w' => e = .returned (.int .i64 r) ∧ Below w.heap.size w w' := by
 have hu55 := Try.underlying55
 have L := Q_ hr0
 have R := Q_ J
 clear hr0 J
 have HB := Q_ (Below.refl w.heap.size w)
 have H : (if (wrap64 (z - (b.length : Int))) < 0 then (some (-1)) else (laws_szBoxS.l0 k b (wrap64 (z - (b.length : Int))) 0)) = some r := h
 clear h
 by_cases A : (wrap64 (z - (b.length : Int))) < 0
 rotate_left
 ·rw [if_neg A] at H
  have F := decide_eq_false A
  clear A
  have H' := Q_ H
  clear H
  go_enter Try.func14, Try.ntmps14
  go_wp2
  go_loopg [1, 5] k (fun kq S T w' => ∃ (l : Int) (a : Int), S = .int .i64 l ∧ T = .int .i64 a ∧ Aside0 (laws_szBoxS.l0 kq b l a = some r) ∧ Aside0 (kq ≤ k) ∧ Aside0 (Below w.heap.size w w'))
  case atStart => exact ⟨(wrap64 (z - (b.length : Int))), (0), el_, el_, H', ⟨Nat.le_refl _⟩, ⟨pb_ HB.1⟩⟩
  clear H'
  obtain ⟨l, a, rfl, rfl, HA, E, HB⟩ := hrel
  rcases gk with _ | k1
  ·exact absurd HA.1 (by simp [laws_szBoxS.l0])
  have H := HA.1
  clear HA
  simp only [laws_szBoxS.l0] at H
  by_cases B : a < (b.length : Int)
  rotate_left
  ·rw [if_neg B] at H
   have G := decide_eq_false B
   clear B
   obtain rfl := Option.some.inj H
   go_wp2
   go_ret
   exact ⟨er_, pb_ HB.1⟩
  rw [if_pos B] at H
  have G := decide_eq_true B
  clear B
  by_cases K : 0 ≤ a
  rotate_left
  ·rw [if_neg K] at H
   exact nn_ H
  rw [if_pos K] at H
  have P := decide_eq_true K
  clear K
  obtain ⟨t, Q, H⟩ := bs_ H
  (try dsimp only at H)
  have HS_ := Q_ H
  clear H
  have q : 0 ≤ (a : Int) := dt_
  have s : a < (b.length : Int) := dt_
  obtain ⟨M, u, x, v, y, I, d, g, i, j, m, o, n, p⟩ := at_U55 L.1 a q s
  cases I
  replace d := bt_ HB d
  replace g := bt_ HB g
  replace i := bt_ HB i
  replace j := bt_ HB j
  replace q := eq_true q
  replace s := eq_true s
  go_upto_if 25 with (first | ((with_reducible refine gate_callee (f := 29) rfl ?_); refine gl_ (some 23) Try.func29 #[.agg #[.int .i64 ((rd_T55 b a).f0), .slice u ((rd_T55 b a).f1).length x, .slice v ((rd_T55 b a).f2).length y, .bool ((rd_T55 b a).f3)], .int .i64 l] ?_; (with_reducible refine (laws_szBox.calls ((rd_T55 b a).f0) _ _ ((rd_T55 b a).f1) _ _ ((rd_T55 b a).f2) ((rd_T55 b a).f3) l t _ (cb_ o HB) m.1 (cb_ p HB) n.1 Q.1).mono ?_); rintro e U ⟨rfl, hb⟩; refine ⟨_, rfl, ?_⟩; have _ := Q_ (below_step (pb_ HB.1) hb); clear HB; rename_i HB; (try clear hb)))
  (try simp only [Act.put, s1_, s2_, s3_])
  have H := HS_.1
  clear HS_
  by_cases D : t < 0
  rotate_left
  ·rw [if_neg D] at H
   have c := decide_eq_false D
   clear D
   (first | rw [c] | (simp only [i64_w, i32_w]; rw [c]) | skip)
   have H' := Q_ H
   clear H
   go_wp2
   go_roundg k1
   case measure => have := E.1; omega
   case rel => exact ⟨(t), (wrap64 (a + 1)), el_, el_, H', ⟨by have := E.1; omega⟩, ⟨pb_ HB.1⟩⟩
  rw [if_pos D] at H
  have c := decide_eq_true D
  clear D
  (first | rw [c] | (simp only [i64_w, i32_w]; rw [c]) | skip)
  obtain rfl := Option.some.inj H
  go_wp2
  go_ret
  exact ⟨er_, pb_ HB.1⟩
 rw [if_pos A] at H
 have F := decide_eq_true A
 clear A
 obtain rfl := Option.some.inj H
 go_enter Try.func14, Try.ntmps14
 go_wp2
 go_ret
 exact ⟨er_, pb_ HB.1⟩

/-! ### laws_szEndpoint: function 4 -/
def laws_szEndpoint.f (k : Nat) (d : List Int) (e : List Int) (g : List (S55)) (h : Int) (i : Int) : Option (Int) := (laws_szIntS.f d i).bind fun a => (if a < 0 then (some (-1)) else ((laws_szIntS.f e a).bind fun b => (if b < 0 then (some (-1)) else ((laws_szBoxS.f k g b).bind fun c => (if c < 0 then (some (-1)) else (some c))))))
theorem laws_szEndpoint.mono : ∀ a b c d e k, LeO (laws_szEndpoint.f k a b c d e) (laws_szEndpoint.f (k + 1) a b c d e) := by
 intro a b c d e k
 unfold laws_szEndpoint.f
 exact mo1_ laws_szBoxS.mono
theorem laws_szEndpoint.calls (k : Nat) (p : Option Addr) (t : Nat) (b : List Int) (q : Option Addr) (u : Nat) (c : List Int) (s : Option Addr) (v : Nat) (d : List (S55)) (y : Int) (O : Int) (r : Int) (w : World) (hr0_0 : Kd.C (Kd.int .i64) w p b.length b) (z : b.length ≤ t) (hr0_1 : Kd.C (Kd.int .i64) w q c.length c) (A : c.length ≤ u) (hr0_2 : Kd.C k55 w s d.length d) (B : d.length ≤ v) (h : laws_szEndpoint.f k b c d y O = some r) :
  Calls Try.prog 4 #[.agg #[.slice p b.length t, .slice q c.length u, .slice s d.length v, .int .i64 y], .int .i64 O] w fun e w' => e = .returned (.int .i64 r) ∧ Below w.heap.size w w' := by
 have hu25 := Try.underlying25
 have I := Q_ hr0_0
 have E := Q_ z
 clear hr0_0 z
 have J := Q_ hr0_1
 have F := Q_ A
 clear hr0_1 A
 have K := Q_ hr0_2
 have G := Q_ B
 clear hr0_2 B
 have HB := Q_ (Below.refl w.heap.size w)
 have H : ((laws_szIntS.f b O).bind fun j => (if j < 0 then (some (-1)) else ((laws_szIntS.f c j).bind fun l => (if l < 0 then (some (-1)) else ((laws_szBoxS.f k d l).bind fun m => (if m < 0 then (some (-1)) else (some m))))))) = some r := h
 clear h
 have HS_ := Q_ H
 clear H
 go_enter Try.func4, Try.ntmps4
 go_upto_region 1 with (first | ((with_reducible refine gate_dst (N := 2) rfl ?_); refine bx_ 2 #[.slice p b.length t, .slice q c.length u, .slice s d.length v, .int .i64 y] 25 ?_; intro Q hg X hbox hb; have _ := Q_ (below_step (pb_ HB.1) hb); have g := Q_ (hbox); have D := Q_ (gw_ (w := w) hg (pb_ HB.1)); have a := D; clear HB; rename_i HB; clear hb hbox hg))
 (try simp only [Act.put, s1_, s2_, s3_])
 have H := HS_.1
 clear HS_
 obtain ⟨j, U, H⟩ := bs_ H
 (try dsimp only at H)
 have HS_ := Q_ H
 clear H
 have S := bc4_ g.1
 go_upto_if 10 with (first | ((with_reducible refine gate_callee (f := 13) rfl ?_); refine gl_ (some 8) Try.func13 #[.slice p b.length t, .int .i64 O] ?_; (with_reducible refine (laws_szIntS.calls _ _ b O j _ (cb_ I HB) E.1 U.1).mono ?_); rintro e w' ⟨rfl, ⟨nd, rfl⟩⟩; refine ⟨_, rfl, ?_⟩))
 (try simp only [Act.put, s1_, s2_, s3_])
 have H := HS_.1
 clear HS_
 by_cases L : j < 0
 ·rw [if_pos L] at H
  have n := decide_eq_true L
  clear L
  (first | rw [n] | (simp only [i64_w, i32_w]; rw [n]) | skip)
  obtain rfl := Option.some.inj H
  go_wp2
  go_ret
  exact ⟨er_, pb1_ HB.1 a.1⟩
 rw [if_neg L] at H
 have n := decide_eq_false L
 clear L
 (first | rw [n] | (simp only [i64_w, i32_w]; rw [n]) | skip)
 obtain ⟨l, V, H⟩ := bs_ H
 (try dsimp only at H)
 have HS_ := Q_ H
 clear H
 have T := bc4_ g.1
 go_upto_if 16 with (first | ((with_reducible refine gate_callee (f := 13) rfl ?_); refine gl_ (some 14) Try.func13 #[.slice q c.length u, .int .i64 j] ?_; (with_reducible refine (laws_szIntS.calls _ _ c j l _ ?side1 F.1 V.1).mono ?_); (case side1 => exact pc_ (Kd.C_below J.1 (pb1_ HB.1 a.1))); rintro e w' ⟨rfl, ⟨nd, rfl⟩⟩; refine ⟨_, rfl, ?_⟩))
 (try simp only [Act.put, s1_, s2_, s3_])
 have H := HS_.1
 clear HS_
 by_cases M : l < 0
 ·rw [if_pos M] at H
  have o := decide_eq_true M
  clear M
  (first | rw [o] | (simp only [i64_w, i32_w]; rw [o]) | skip)
  obtain rfl := Option.some.inj H
  go_wp2
  go_ret
  exact ⟨er_, pb1_ HB.1 a.1⟩
 rw [if_neg M] at H
 have o := decide_eq_false M
 clear M
 (first | rw [o] | (simp only [i64_w, i32_w]; rw [o]) | skip)
 obtain ⟨m, P, H⟩ := bs_ H
 replace H : (if m < 0 then (some (-1)) else (some m)) = some r := H
 have HS_ := Q_ H
 clear H
 have R := bc4_ g.1
 go_upto_if 22 with (first | ((with_reducible refine gate_callee (f := 14) rfl ?_); refine gl_ (some 20) Try.func14 #[.slice s d.length v, .int .i64 l] ?_; (with_reducible refine (laws_szBoxS.calls k _ _ d l m _ ?side1 G.1 P.1).mono ?_); (case side1 => exact pc_ (Kd.C_below K.1 (pb1_ HB.1 a.1))); rintro e W ⟨rfl, hb⟩; refine ⟨_, rfl, ?_⟩; have _ := Q_ (bb_ g.1 hb); have _ := Q_ (below_step (pb1_ HB.1 a.1) hb); clear g HB; rename_i g HB; (try clear hb)))
 (try simp only [Act.put, s1_, s2_, s3_])
 have H := HS_.1
 clear HS_
 by_cases x : m < 0
 rotate_left
 ·rw [if_neg x] at H
  have i := decide_eq_false x
  clear x
  (first | rw [i] | (simp only [i64_w, i32_w]; rw [i]) | skip)
  obtain rfl := Option.some.inj H
  go_wp2
  go_ret
  exact ⟨er_, pb1_ HB.1 a.1⟩
 rw [if_pos x] at H
 have i := decide_eq_true x
 clear x
 (first | rw [i] | (simp only [i64_w, i32_w]; rw [i]) | skip)
 obtain rfl := Option.some.inj H
 go_wp2
 go_ret
 exact ⟨er_, pb1_ HB.1 a.1⟩

/-! ### spec_l1In: function 30 -/
def spec_l1In.f (a : Int) (b : Int) (c : Int) : Option (Bool) := if a ≥ b then (some (decide (a ≤ c))) else (some false)
theorem spec_l1In.calls (b : Int) (d : Int) (g : Int) (r : Bool) (w : World) (h : spec_l1In.f b d g = some r) :
  Calls Try.prog 30 #[.int .i64 b, .int .i64 d, .int .i64 g] w fun e w' => e = .returned (.bool r) ∧ Drawn0 w w' := by
 have H : (if b ≥ d then (some (decide (b ≤ g))) else (some false)) = some r := h
 clear h
 by_cases a : b ≥ d
 rotate_left
 ·rw [if_neg a] at H
  have c := decide_eq_false a
  clear a
  obtain rfl := Option.some.inj H
  go_enter Try.func30, Try.ntmps30
  go_wp2
  go_ret
  exact ⟨by first | rfl | (simp; done) | (simp [*]; done), by repeat (first | exact Drawn0.refl _ | apply Drawn0.step)⟩
 rw [if_pos a] at H
 have c := decide_eq_true a
 clear a
 obtain rfl := Option.some.inj H
 go_enter Try.func30, Try.ntmps30
 go_wp2
 go_ret
 exact ⟨by first | rfl | (simp; done) | (simp [*]; done), by repeat (first | exact Drawn0.refl _ | apply Drawn0.step)⟩

/-! ### spec_IsReserved: function 31 -/
def spec_IsReserved.f (b : Int) : Option (Bool) := (spec_l1In.f b 0 255).bind fun a => (if a = true then (some ((Int.tmod b 16) == 10)) else (some false))
theorem spec_IsReserved.calls (b : Int) (r : Bool) (w : World) (h : spec_IsReserved.f b = some r) :
  Calls Try.prog 31 #[.int .i64 b] w fun e w' => e = .returned (.bool r) ∧ Drawn0 w w' := by
 have H : ((spec_l1In.f b 0 255).bind fun a => (if a = true then (some ((Int.tmod b 16) == 10)) else (some false))) = some r := h
 clear h
 obtain ⟨a, d, H⟩ := bs_ H
 (try dsimp only at H)
 by_cases c : a = true
 rotate_left
 ·replace c := bf_ c
  subst c
  rw [if_neg ff_] at H
  obtain rfl := Option.some.inj H
  go_enter Try.func31, Try.ntmps31
  go_wp2_with (first | ((with_reducible refine gate_callee (f := 30) rfl ?_); refine gl_ (some 4) Try.func30 #[.int .i64 b, .int .i64 0, .int .i64 255] ?_; (with_reducible refine (spec_l1In.calls b 0 255 false _ d.1).mono ?_); rintro e w' ⟨rfl, ⟨nd, rfl⟩⟩; refine ⟨_, rfl, ?_⟩))
  go_ret
  exact ⟨by first | rfl | (simp; done) | (simp [*]; done), by repeat (first | exact Drawn0.refl _ | apply Drawn0.step)⟩
 subst c
 rw [if_pos rfl] at H
 obtain rfl := Option.some.inj H
 go_enter Try.func31, Try.ntmps31
 go_wp2_with (first | ((with_reducible refine gate_callee (f := 30) rfl ?_); refine gl_ (some 4) Try.func30 #[.int .i64 b, .int .i64 0, .int .i64 255] ?_; (with_reducible refine (spec_l1In.calls b 0 255 true _ d.1).mono ?_); rintro e w' ⟨rfl, ⟨nd, rfl⟩⟩; refine ⟨_, rfl, ?_⟩))
 go_ret
 exact ⟨by first | rfl | (simp; done) | (simp [*]; done), by repeat (first | exact Drawn0.refl _ | apply Drawn0.step)⟩

/-! ### spec_l9Byte: function 56 -/
def spec_l9Byte.l0 : Nat → List Int → Int → Option (Bool)
 | 0, _, _ => none
 | k + 1, c, b => if b < (c.length : Int) then (if 0 ≤ b then ((spec_l1In.f (rd c b) 0 255).bind fun a => (if a = true then (spec_l9Byte.l0 k c (wrap64 (b + 1))) else (some false))) else (none)) else (some true)
def spec_l9Byte.f (k : Nat) (a : List Int) : Option (Bool) := spec_l9Byte.l0 k a 0
theorem spec_l9Byte.mono_l : ∀ k, (∀ a b, LeO (spec_l9Byte.l0 k a b) (spec_l9Byte.l0 (k + 1) a b))
 | 0 => fun _ _ r h => by simp [spec_l9Byte.l0] at h
 | k + 1 => by
  have ih0 := spec_l9Byte.mono_l k
  ·intro a b
   unfold spec_l9Byte.l0
   exact mo1_ ih0
theorem spec_l9Byte.mono : ∀ a k, LeO (spec_l9Byte.f k a) (spec_l9Byte.f (k + 1) a) := by
 intro a k
 have ih0 := spec_l9Byte.mono_l k
 unfold spec_l9Byte.f
 exact mo1_ ih0
theorem spec_l9Byte.calls (k : Nat) (u : Option Addr) (v : Nat) (b : List Int) (r : Bool) (w : World) (hr0 : Kd.C (Kd.int .i64) w u b.length b) (n : b.length ≤ v) (h : spec_l9Byte.f k b = some r) :
  Calls Try.prog 56 #[.slice u b.length v] w fun e w' => e = .returned (.bool r) ∧ Drawn0 w w' := by
 have s := Q_ hr0
 have z := Q_ n
 clear hr0 n
 have H : (spec_l9Byte.l0 k b 0) = some r := h
 clear h
 have H' := Q_ H
 clear H
 go_enter Try.func56, Try.ntmps56
 go_wp2
 go_loopg [3] k (fun kq A w' => ∃ (a : Int), A = .int .i64 a ∧ Aside0 (spec_l9Byte.l0 kq b a = some r) ∧ Aside0 (kq ≤ k) ∧ Drawn0 w w')
 case atStart => exact ⟨(0), el_, H', ⟨Nat.le_refl _⟩, by repeat (first | exact Drawn0.refl _ | apply Drawn0.step)⟩
 clear H'
 obtain ⟨a, rfl, HA, j, ⟨m1, rfl⟩⟩ := hrel
 rcases gk with _ | k1
 ·exact absurd HA.1 (by simp [spec_l9Byte.l0])
 have H := HA.1
 clear HA
 simp only [spec_l9Byte.l0] at H
 by_cases i : a < (b.length : Int)
 rotate_left
 ·rw [if_neg i] at H
  have l := decide_eq_false i
  clear i
  obtain rfl := Option.some.inj H
  go_wp2
  go_ret
  exact ⟨by first | rfl | (simp; done) | (simp [*]; done), by repeat (first | exact Drawn0.refl _ | apply Drawn0.step)⟩
 rw [if_pos i] at H
 have l := decide_eq_true i
 clear i
 by_cases p : 0 ≤ a
 rotate_left
 ·rw [if_neg p] at H
  exact nn_ H
 rw [if_pos p] at H
 have x := decide_eq_true p
 clear p
 obtain ⟨g, y, H⟩ := bs_ H
 (try dsimp only at H)
 have HS_ := Q_ H
 clear H
 have c : 0 ≤ (a : Int) := dt_
 have d : a < (b.length : Int) := dt_
 obtain ⟨t, m, o⟩ := Kd.at_int s.1 a c d
 cases m
 replace c := eq_true c
 replace d := eq_true d
 go_upto_if 15 with (first | ((with_reducible refine gate_callee (f := 30) rfl ?_); refine gl_ (some 14) Try.func30 #[.int .i64 (rd b a), .int .i64 0, .int .i64 255] ?_; (with_reducible refine (spec_l1In.calls (rd b a) 0 255 g _ y.1).mono ?_); rintro e w' ⟨rfl, ⟨nd, rfl⟩⟩; refine ⟨_, rfl, ?_⟩))
 (try simp only [Act.put, s1_, s2_, s3_])
 have H := HS_.1
 clear HS_
 by_cases q : g = true
 rotate_left
 ·replace q := bf_ q
  subst q
  rw [if_neg ff_] at H
  obtain rfl := Option.some.inj H
  go_wp2
  go_ret
  exact ⟨by first | rfl | (simp; done) | (simp [*]; done), by repeat (first | exact Drawn0.refl _ | apply Drawn0.step)⟩
 subst q
 rw [if_pos rfl] at H
 have H' := Q_ H
 clear H
 go_wp2
 go_roundg k1
 case measure => have := j.1; omega
 case rel => exact ⟨(wrap64 (a + 1)), el_, H', ⟨by have := j.1; omega⟩, by repeat (first | exact Drawn0.refl _ | apply Drawn0.step)⟩

/-! ### spec_IsBox: function 32 -/
def spec_IsBox.f (k : Nat) (c : Int) (a : List Int) (b : List Int) (h : Bool) : Option (Bool) := (spec_l1In.f c 0 9).bind fun d => (if d = true then (if (a.length : Int) ≤ 6 then (if (b.length : Int) ≤ 6 then ((spec_l9Byte.f k a).bind fun e => (if e = true then ((spec_l9Byte.f k b).bind fun g => (some g)) else (some false))) else (some false)) else (some false)) else (some false))
theorem spec_IsBox.mono : ∀ a b c d k, LeO (spec_IsBox.f k a b c d) (spec_IsBox.f (k + 1) a b c d) := by
 intro a b c d k
 unfold spec_IsBox.f
 exact mo1_ spec_l9Byte.mono
theorem spec_IsBox.calls (k : Nat) (a : Int) (l : Option Addr) (q : Nat) (b : List Int) (m : Option Addr) (s : Nat) (c : List Int) (p : Bool) (r : Bool) (w : World) (hr0_1 : Kd.C (Kd.int .i64) w l b.length b) (u : b.length ≤ q) (hr0_2 : Kd.C (Kd.int .i64) w m c.length c) (v : c.length ≤ s) (h : spec_IsBox.f k a b c p = some r) :
  Calls Try.prog 32 #[.agg #[.int .i64 a, .slice l b.length q, .slice m c.length s, .bool p]] w fun e w' => e = .returned (.bool r) ∧ Below w.heap.size w w' := by
 have hu59 := Try.underlying59
 have o := Q_ hr0_1
 have n := Q_ u
 clear hr0_1 u
 have D := Q_ hr0_2
 have B := Q_ v
 clear hr0_2 v
 have HB := Q_ (Below.refl w.heap.size w)
 have H : ((spec_l1In.f a 0 9).bind fun x => (if x = true then (if (b.length : Int) ≤ 6 then (if (c.length : Int) ≤ 6 then ((spec_l9Byte.f k b).bind fun y => (if y = true then ((spec_l9Byte.f k c).bind fun j => (some j)) else (some false))) else (some false)) else (some false)) else (some false))) = some r := h
 clear h
 have HS_ := Q_ H
 clear H
 go_enter Try.func32, Try.ntmps32
 go_upto_region 1 with (first | ((with_reducible refine gate_dst (N := 1) rfl ?_); (try (refine gate_guard (by rfl) ?_; dsimp only)); refine bx_ 1 #[.int .i64 a, .slice l b.length q, .slice m c.length s, .bool p] 59 ?_; intro O hg U hbox hb; have _ := Q_ (below_step (pb_ HB.1) hb); have g := Q_ (hbox); have A := Q_ (gw_ (w := w) hg (pb_ HB.1)); have d := A; clear HB; rename_i HB; clear hb hbox hg))
 (try simp only [Act.put, s1_, s2_, s3_])
 have H := HS_.1
 clear HS_
 obtain ⟨x, I, H⟩ := bs_ H
 (try dsimp only at H)
 by_cases L : x = true
 rotate_left
 ·replace L := bf_ L
  subst L
  rw [if_neg ff_] at H
  obtain rfl := Option.some.inj H
  have R := bc4_ g.1
  go_wp2_with (first | ((with_reducible refine gate_callee (f := 30) rfl ?_); refine gl_ (some 5) Try.func30 #[.int .i64 a, .int .i64 0, .int .i64 9] ?_; (with_reducible refine (spec_l1In.calls a 0 9 false _ I.1).mono ?_); rintro e w' ⟨rfl, ⟨nd, rfl⟩⟩; refine ⟨_, rfl, ?_⟩))
  go_ret
  exact ⟨er_, pb1_ HB.1 d.1⟩
 subst L
 rw [if_pos rfl] at H
 by_cases E : (b.length : Int) ≤ 6
 rotate_left
 ·rw [if_neg E] at H
  have i := decide_eq_false E
  have t : decide (b.length ≤ 6) = false := decide_eq_false (by omega)
  clear E
  (first | rw [i] | (simp only [i64_w, i32_w]; rw [i]) | rw [t] | skip)
  obtain rfl := Option.some.inj H
  have S := bc4_ g.1
  go_wp2_with (first | ((with_reducible refine gate_callee (f := 30) rfl ?_); refine gl_ (some 5) Try.func30 #[.int .i64 a, .int .i64 0, .int .i64 9] ?_; (with_reducible refine (spec_l1In.calls a 0 9 true _ I.1).mono ?_); rintro e w' ⟨rfl, ⟨nd, rfl⟩⟩; refine ⟨_, rfl, ?_⟩))
  go_ret
  exact ⟨er_, pb1_ HB.1 d.1⟩
 rw [if_pos E] at H
 have i := decide_eq_true E
 have t : decide (b.length ≤ 6) = true := decide_eq_true (by omega)
 clear E
 (first | rw [i] | (simp only [i64_w, i32_w]; rw [i]) | rw [t] | skip)
 by_cases F : (c.length : Int) ≤ 6
 rotate_left
 ·rw [if_neg F] at H
  have J := decide_eq_false F
  have K : decide (c.length ≤ 6) = false := decide_eq_false (by omega)
  clear F
  obtain rfl := Option.some.inj H
  have T := bc4_ g.1
  go_wp2_with (first | ((with_reducible refine gate_callee (f := 30) rfl ?_); refine gl_ (some 5) Try.func30 #[.int .i64 a, .int .i64 0, .int .i64 9] ?_; (with_reducible refine (spec_l1In.calls a 0 9 true _ I.1).mono ?_); rintro e w' ⟨rfl, ⟨nd, rfl⟩⟩; refine ⟨_, rfl, ?_⟩))
  go_ret
  exact ⟨er_, pb1_ HB.1 d.1⟩
 rw [if_pos F] at H
 have J := decide_eq_true F
 have K : decide (c.length ≤ 6) = true := decide_eq_true (by omega)
 clear F
 obtain ⟨y, G, H⟩ := bs_ H
 (try dsimp only at H)
 by_cases z : y = true
 rotate_left
 ·replace z := bf_ z
  subst z
  rw [if_neg ff_] at H
  obtain rfl := Option.some.inj H
  have P := bc4_ g.1
  go_wp2_with (first | ((with_reducible refine gate_callee (f := 30) rfl ?_); refine gl_ (some 5) Try.func30 #[.int .i64 a, .int .i64 0, .int .i64 9] ?_; (with_reducible refine (spec_l1In.calls a 0 9 true _ I.1).mono ?_); rintro e w' ⟨rfl, ⟨nd, rfl⟩⟩; refine ⟨_, rfl, ?_⟩) | (go_at_call 56; (with_reducible refine (spec_l9Byte.calls k _ _ b false _ ?side1 n.1 G.1).mono ?_); (case side1 => exact pc_ (Kd.C_below o.1 (pb1_ HB.1 d.1))); rintro e w' ⟨rfl, ⟨nd, rfl⟩⟩))
  go_ret
  exact ⟨er_, pb1_ HB.1 d.1⟩
 subst z
 rw [if_pos rfl] at H
 obtain ⟨j, M, H⟩ := bs_ H
 replace H : (some j) = some r := H
 obtain rfl := Option.some.inj H
 have Q := bc4_ g.1
 go_wp2_with (first | ((with_reducible refine gate_callee (f := 30) rfl ?_); refine gl_ (some 5) Try.func30 #[.int .i64 a, .int .i64 0, .int .i64 9] ?_; (with_reducible refine (spec_l1In.calls a 0 9 true _ I.1).mono ?_); rintro e w' ⟨rfl, ⟨nd, rfl⟩⟩; refine ⟨_, rfl, ?_⟩) | (go_at_call 56; (with_reducible refine (spec_l9Byte.calls k _ _ b true _ ?side1 n.1 G.1).mono ?_); (case side1 => exact pc_ (Kd.C_below o.1 (pb1_ HB.1 d.1))); rintro e w' ⟨rfl, ⟨nd, rfl⟩⟩) | (go_at_call 56; (with_reducible refine (spec_l9Byte.calls k _ _ c j _ ?side1 B.1 M.1).mono ?_); (case side1 => exact pc_ (Kd.C_below D.1 (pb1_ HB.1 d.1))); rintro e w' ⟨rfl, ⟨nd, rfl⟩⟩))
 go_ret
 exact ⟨er_, pb1_ HB.1 d.1⟩

/-! ### spec_AreVersions: function 33 -/
def spec_AreVersions.l0 : Nat → List Int → Int → Option (Bool)
 | 0, _, _ => none
 | k + 1, b, a => if a < (b.length : Int) then (if 0 ≤ a then ((spec_l1In.f (rd b a) 1 9).bind fun c => (if c = true then (if a > 0 then (if 0 ≤ (wrap64 (a - 1)) then (if (wrap64 (a - 1)) < (b.length : Int) then (if (rd b (wrap64 (a - 1))) ≥ (rd b a) then (some false) else (spec_AreVersions.l0 k b (wrap64 (a + 1)))) else (none)) else (none)) else (spec_AreVersions.l0 k b (wrap64 (a + 1)))) else (some false))) else (none)) else (some (decide ((b.length : Int) > 0)))
def spec_AreVersions.f (k : Nat) (a : List Int) : Option (Bool) := spec_AreVersions.l0 k a 0
theorem spec_AreVersions.mono_l : ∀ k, (∀ a b, LeO (spec_AreVersions.l0 k a b) (spec_AreVersions.l0 (k + 1) a b))
 | 0 => fun _ _ r h => by simp [spec_AreVersions.l0] at h
 | k + 1 => by
  have ih0 := spec_AreVersions.mono_l k
  ·intro a b
   unfold spec_AreVersions.l0
   exact mo1_ ih0
theorem spec_AreVersions.mono : ∀ a k, LeO (spec_AreVersions.f k a) (spec_AreVersions.f (k + 1) a) := by
 intro a k
 have ih0 := spec_AreVersions.mono_l k
 unfold spec_AreVersions.f
 exact mo1_ ih0
theorem spec_AreVersions.calls (k : Nat) (P : Option Addr) (Q : Nat) (n : List Int) (r : Bool) (w : World) (hr0 : Kd.C (Kd.int .i64) w P n.length n) (J : n.length ≤ Q) (h : spec_AreVersions.f k n = some r) :
  Calls Try.prog 33 #[.slice P n.length Q] w fun e w' => e = .returned (.bool r) ∧ Drawn0 w w' := by
 have s := Q_ hr0
 have U := Q_ J
 clear hr0 J
 have H : (spec_AreVersions.l0 k n 0) = some r := h
 clear h
 have H' := Q_ H
 clear H
 go_enter Try.func33, Try.ntmps33
 go_wp2
 repeat (go_quiet (fail); try go_wp2)
 go_loopg [3] k (fun kq V w' => ∃ (a : Int), V = .int .i64 a ∧ Aside0 (spec_AreVersions.l0 kq n a = some r) ∧ Aside0 (kq ≤ k) ∧ Drawn0 w w')
 case atStart => exact ⟨(0), el_, H', ⟨Nat.le_refl _⟩, by repeat (first | exact Drawn0.refl _ | apply Drawn0.step)⟩
 clear H'
 obtain ⟨a, rfl, HA, D, ⟨m1, rfl⟩⟩ := hrel
 rcases gk with _ | k1
 ·exact absurd HA.1 (by simp [spec_AreVersions.l0])
 have H := HA.1
 clear HA
 simp only [spec_AreVersions.l0] at H
 by_cases E : a < (n.length : Int)
 rotate_left
 ·rw [if_neg E] at H
  have G := decide_eq_false E
  clear E
  obtain rfl := Option.some.inj H
  go_wp2
  repeat (go_quiet (fail); try go_wp2)
  go_ret
  exact ⟨by first | rfl | (simp; done) | (simp [*]; done), by repeat (first | exact Drawn0.refl _ | apply Drawn0.step)⟩
 rw [if_pos E] at H
 have G := decide_eq_true E
 clear E
 by_cases L : 0 ≤ a
 rotate_left
 ·rw [if_neg L] at H
  exact nn_ H
 rw [if_pos L] at H
 have R := decide_eq_true L
 clear L
 obtain ⟨K, B, H⟩ := bs_ H
 (try dsimp only at H)
 by_cases M : K = true
 rotate_left
 ·replace M := bf_ M
  subst M
  rw [if_neg ff_] at H
  obtain rfl := Option.some.inj H
  have c : 0 ≤ (a : Int) := dt_
  have i : a < (n.length : Int) := dt_
  obtain ⟨b, t, x⟩ := Kd.at_int s.1 a c i
  cases t
  replace c := eq_true c
  replace i := eq_true i
  go_wp2_with (first | (go_at_call 30; (with_reducible refine (spec_l1In.calls (rd n a) 1 9 false _ B.1).mono ?_); rintro e w' ⟨rfl, ⟨nd, rfl⟩⟩; (try first | exact ⟨rfl, _, World.drewN_drewN _ _ _⟩ | exact ⟨rfl, _, Eq.trans (World.drewN_drewN _ _ _) (congrArg (World.drewN _) (Nat.add_assoc _ _ _))⟩)))
  repeat (go_quiet (first | (go_at_call 30; (with_reducible refine (spec_l1In.calls (rd n a) 1 9 false _ B.1).mono ?_); rintro e w' ⟨rfl, ⟨nd, rfl⟩⟩; (try first | exact ⟨rfl, _, World.drewN_drewN _ _ _⟩ | exact ⟨rfl, _, Eq.trans (World.drewN_drewN _ _ _) (congrArg (World.drewN _) (Nat.add_assoc _ _ _))⟩))); try go_wp2_with (first | (go_at_call 30; (with_reducible refine (spec_l1In.calls (rd n a) 1 9 false _ B.1).mono ?_); rintro e w' ⟨rfl, ⟨nd, rfl⟩⟩; (try first | exact ⟨rfl, _, World.drewN_drewN _ _ _⟩ | exact ⟨rfl, _, Eq.trans (World.drewN_drewN _ _ _) (congrArg (World.drewN _) (Nat.add_assoc _ _ _))⟩))))
  go_ret
  exact ⟨by first | rfl | (simp; done) | (simp [*]; done), by repeat (first | exact Drawn0.refl _ | apply Drawn0.step)⟩
 subst M
 rw [if_pos rfl] at H
 by_cases F : a > 0
 rotate_left
 ·rw [if_neg F] at H
  have I := decide_eq_false F
  clear F
  have H' := Q_ H
  clear H
  have c : 0 ≤ (a : Int) := dt_
  have i : a < (n.length : Int) := dt_
  obtain ⟨b, t, x⟩ := Kd.at_int s.1 a c i
  cases t
  replace c := eq_true c
  replace i := eq_true i
  go_wp2_with (first | (go_at_call 30; (with_reducible refine (spec_l1In.calls (rd n a) 1 9 true _ B.1).mono ?_); rintro e w' ⟨rfl, ⟨nd, rfl⟩⟩; (try first | exact ⟨rfl, _, World.drewN_drewN _ _ _⟩ | exact ⟨rfl, _, Eq.trans (World.drewN_drewN _ _ _) (congrArg (World.drewN _) (Nat.add_assoc _ _ _))⟩)))
  repeat (go_quiet (first | (go_at_call 30; (with_reducible refine (spec_l1In.calls (rd n a) 1 9 true _ B.1).mono ?_); rintro e w' ⟨rfl, ⟨nd, rfl⟩⟩; (try first | exact ⟨rfl, _, World.drewN_drewN _ _ _⟩ | exact ⟨rfl, _, Eq.trans (World.drewN_drewN _ _ _) (congrArg (World.drewN _) (Nat.add_assoc _ _ _))⟩))); try go_wp2_with (first | (go_at_call 30; (with_reducible refine (spec_l1In.calls (rd n a) 1 9 true _ B.1).mono ?_); rintro e w' ⟨rfl, ⟨nd, rfl⟩⟩; (try first | exact ⟨rfl, _, World.drewN_drewN _ _ _⟩ | exact ⟨rfl, _, Eq.trans (World.drewN_drewN _ _ _) (congrArg (World.drewN _) (Nat.add_assoc _ _ _))⟩))))
  go_roundg k1
  case measure => have := D.1; omega
  case rel => exact ⟨(wrap64 (a + 1)), el_, H', ⟨by have := D.1; omega⟩, by repeat (first | exact Drawn0.refl _ | apply Drawn0.step)⟩
 rw [if_pos F] at H
 have I := decide_eq_true F
 clear F
 obtain ⟨m, hji7⟩ : ∃ j_ : Int, (wrap64 (a - 1)) = j_ := ⟨_, rfl⟩
 replace H : (if 0 ≤ (m) then (if (m) < (n.length : Int) then (if (rd n (m)) ≥ (rd n a) then (some false) else (spec_AreVersions.l0 k1 n (wrap64 (a + 1)))) else (none)) else (none)) = some r := by first | (rw [hji7] at H; exact H) | (simp only [hji7] at H ⊢; exact H)
 (try rw [hji7] at B)
 have hji7w : (IntKind.i64.wrap (a - 1)) = m := (i64_w _).trans hji7
 by_cases N : 0 ≤ (m)
 rotate_left
 ·rw [if_neg N] at H
  exact nn_ H
 rw [if_pos N] at H
 have S := decide_eq_true N
 clear N
 by_cases O : (m) < (n.length : Int)
 rotate_left
 ·rw [if_neg O] at H
  exact nn_ H
 rw [if_pos O] at H
 have T := decide_eq_true O
 clear O
 have HS_ := Q_ H
 clear H
 have c : 0 ≤ (a : Int) := dt_
 have i : a < (n.length : Int) := dt_
 obtain ⟨b, t, x⟩ := Kd.at_int s.1 a c i
 cases t
 replace c := eq_true c
 replace i := eq_true i
 go_upto_if 31 with (first | (go_at_call 30; (with_reducible refine (spec_l1In.calls (rd n a) 1 9 true _ B.1).mono ?_); rintro e w' ⟨rfl, ⟨nd, rfl⟩⟩; (try first | exact ⟨rfl, _, World.drewN_drewN _ _ _⟩ | exact ⟨rfl, _, Eq.trans (World.drewN_drewN _ _ _) (congrArg (World.drewN _) (Nat.add_assoc _ _ _))⟩); have d : 0 ≤ ((m) : Int) := dt_; have j : (m) < (n.length : Int) := dt_; obtain ⟨o, u, y⟩ := Kd.at_int s.1 (m) d j; obtain rfl : b = o := (by injection u); replace d := eq_true d; replace j := eq_true j; have g : 0 ≤ (a : Int) := dt_; have l : a < (n.length : Int) := dt_; obtain ⟨p, v, z⟩ := Kd.at_int s.1 a g l; obtain rfl : b = p := (by injection v); replace g := eq_true g; replace l := eq_true l))
 repeat (go_quiet (first | (go_at_call 30; (with_reducible refine (spec_l1In.calls (rd n a) 1 9 true _ B.1).mono ?_); rintro e w' ⟨rfl, ⟨nd, rfl⟩⟩; (try first | exact ⟨rfl, _, World.drewN_drewN _ _ _⟩ | exact ⟨rfl, _, Eq.trans (World.drewN_drewN _ _ _) (congrArg (World.drewN _) (Nat.add_assoc _ _ _))⟩); have d : 0 ≤ ((m) : Int) := dt_; have j : (m) < (n.length : Int) := dt_; obtain ⟨o, u, y⟩ := Kd.at_int s.1 (m) d j; obtain rfl : b = o := (by injection u); replace d := eq_true d; replace j := eq_true j; have g : 0 ≤ (a : Int) := dt_; have l : a < (n.length : Int) := dt_; obtain ⟨p, v, z⟩ := Kd.at_int s.1 a g l; obtain rfl : b = p := (by injection v); replace g := eq_true g; replace l := eq_true l)); go_upto_if 31 with (first | (go_at_call 30; (with_reducible refine (spec_l1In.calls (rd n a) 1 9 true _ B.1).mono ?_); rintro e w' ⟨rfl, ⟨nd, rfl⟩⟩; (try first | exact ⟨rfl, _, World.drewN_drewN _ _ _⟩ | exact ⟨rfl, _, Eq.trans (World.drewN_drewN _ _ _) (congrArg (World.drewN _) (Nat.add_assoc _ _ _))⟩); have d : 0 ≤ ((m) : Int) := dt_; have j : (m) < (n.length : Int) := dt_; obtain ⟨o, u, y⟩ := Kd.at_int s.1 (m) d j; obtain rfl : b = o := (by injection u); replace d := eq_true d; replace j := eq_true j; have g : 0 ≤ (a : Int) := dt_; have l : a < (n.length : Int) := dt_; obtain ⟨p, v, z⟩ := Kd.at_int s.1 a g l; obtain rfl : b = p := (by injection v); replace g := eq_true g; replace l := eq_true l)))
 (try simp only [Act.put, s1_, s2_, s3_])
 have H := HS_.1
 clear HS_
 by_cases A : (rd n (m)) ≥ (rd n a)
 rotate_left
 ·rw [if_neg A] at H
  have q := decide_eq_false A
  clear A
  (first | rw [q] | (simp only [i64_w, i32_w]; rw [q]) | skip)
  have H' := Q_ H
  clear H
  go_wp2
  repeat (go_quiet (fail); try go_wp2)
  go_roundg k1
  case measure => have := D.1; omega
  case rel => exact ⟨(wrap64 (a + 1)), el_, H', ⟨by have := D.1; omega⟩, by repeat (first | exact Drawn0.refl _ | apply Drawn0.step)⟩
 rw [if_pos A] at H
 have q := decide_eq_true A
 clear A
 (first | rw [q] | (simp only [i64_w, i32_w]; rw [q]) | skip)
 obtain rfl := Option.some.inj H
 go_wp2
 repeat (go_quiet (fail); try go_wp2)
 go_ret
 exact ⟨by first | rfl | (simp; done) | (simp only [← hji7] <;> (first | rfl | simp)) | (simp [*]; done), by repeat (first | exact Drawn0.refl _ | apply Drawn0.step)⟩

end Go.Proofs.Ytibmehnippjakaa.Print
