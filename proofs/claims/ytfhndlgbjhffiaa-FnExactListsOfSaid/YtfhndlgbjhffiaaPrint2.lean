-- Written by a program of this session (printx.py) out of the translation; Lean checks it.
import Derived.Test.YtfhndlgbjhffiaaPrint0
import Derived.Test.YtfhndlgbjhffiaaPrint1
namespace Go.Proofs.Ytfhndlgbjhffiaa.Print
open Go.RowKit Go.Proofs.YtfhndlgbjhffiaaW.PrintWords Go.Proofs.YtfhndlgbjhffiaaW.PrintLast Go.Proofs.YtfhndlgbjhffiaaW.PrintMore Go.Proofs.Ytfhndlgbjhffiaa.Short
attribute [local go_sem] max2_int min2_int max_two min_two max_three min_three max_four min_four   -- for this text's walks alone
set_option linter.unusedVariables false
set_option maxHeartbeats 8000000
set_option maxRecDepth 100000
set_option linter.unusedSimpArgs false

/-! ### laws_szLoggedS: function 23 -/
def laws_szLoggedS.l0 : Nat → List (S82) → Int → Int → Option (Int)
 | 0, _, _, _ => none
 | k + 1, b, d, a => if a < (b.length : Int) then (if 0 ≤ a then ((laws_szLogged.f ((rd_T82 b a).f0) ((rd_T82 b a).f1) ((rd_T82 b a).f2) ((rd_T82 b a).f3.f0.f0) ((rd_T82 b a).f3.f0.f1) ((rd_T82 b a).f3.f0.f2) ((rd_T82 b a).f3.f1) ((rd_T82 b a).f3.f2) d).bind fun c => (if c < 0 then (some (-1)) else (laws_szLoggedS.l0 k b c (wrap64 (a + 1))))) else (none)) else (some d)
def laws_szLoggedS.f (k : Nat) (a : List (S82)) (b : Int) : Option (Int) := if (wrap64 (b - (a.length : Int))) < 0 then (some (-1)) else (laws_szLoggedS.l0 k a (wrap64 (b - (a.length : Int))) 0)
theorem laws_szLoggedS.mono_l : ∀ k, (∀ a b c, LeO (laws_szLoggedS.l0 k a b c) (laws_szLoggedS.l0 (k + 1) a b c))
 | 0 => fun _ _ _ r h => by simp [laws_szLoggedS.l0] at h
 | k + 1 => by
  have ih0 := laws_szLoggedS.mono_l k
  ·intro a b c
   unfold laws_szLoggedS.l0
   exact mo1_ ih0
theorem laws_szLoggedS.mono : ∀ a b k, LeO (laws_szLoggedS.f k a b) (laws_szLoggedS.f (k + 1) a b) := by
 intro a b k
 have ih0 := laws_szLoggedS.mono_l k
 unfold laws_szLoggedS.f
 exact mo1_ ih0
theorem laws_szLoggedS.calls (k : Nat) (R : Option Addr) (S : Nat) (b : List (S82)) (E : Int) (r : Int) (w : World) (hr0 : Kd.C k82 w R b.length b) (N : b.length ≤ S) (h : laws_szLoggedS.f k b E = some r) :
  Calls Try.prog 23 #[.slice R b.length S, .int .i64 E] w fun e w' => e = .returned (.int .i64 r) ∧ Below w.heap.size w w' := by
 have hu82 := Try.underlying82
 have P := Q_ hr0
 have V := Q_ N
 clear hr0 N
 have HB := Q_ (Below.refl w.heap.size w)
 have H : (if (wrap64 (E - (b.length : Int))) < 0 then (some (-1)) else (laws_szLoggedS.l0 k b (wrap64 (E - (b.length : Int))) 0)) = some r := h
 clear h
 by_cases F : (wrap64 (E - (b.length : Int))) < 0
 rotate_left
 ·rw [if_neg F] at H
  have K := decide_eq_false F
  clear F
  have H' := Q_ H
  clear H
  go_enter Try.func23, Try.ntmps23
  go_wp2
  go_loopg [1, 5] k (fun kq W X w' => ∃ (p : Int) (a : Int), W = .int .i64 p ∧ X = .int .i64 a ∧ Aside0 (laws_szLoggedS.l0 kq b p a = some r) ∧ Aside0 (kq ≤ k) ∧ Aside0 (Below w.heap.size w w'))
  case atStart => exact ⟨(wrap64 (E - (b.length : Int))), (0), el_, el_, H', ⟨Nat.le_refl _⟩, ⟨pb_ HB.1⟩⟩
  clear H'
  obtain ⟨p, a, rfl, rfl, HA, J, HB⟩ := hrel
  rcases gk with _ | k1
  ·exact absurd HA.1 (by simp [laws_szLoggedS.l0])
  have H := HA.1
  clear HA
  simp only [laws_szLoggedS.l0] at H
  by_cases G : a < (b.length : Int)
  rotate_left
  ·rw [if_neg G] at H
   have L := decide_eq_false G
   clear G
   obtain rfl := Option.some.inj H
   go_wp2
   go_ret
   exact ⟨er_, pb_ HB.1⟩
  rw [if_pos G] at H
  have L := decide_eq_true G
  clear G
  by_cases O : 0 ≤ a
  rotate_left
  ·rw [if_neg O] at H
   exact nn_ H
  rw [if_pos O] at H
  have T := decide_eq_true O
  clear O
  obtain ⟨y, U, H⟩ := bs_ H
  (try dsimp only at H)
  have HS_ := Q_ H
  clear H
  have v : 0 ≤ (a : Int) := dt_
  have x : a < (b.length : Int) := dt_
  obtain ⟨Q, z, B, A, D, M, d, g, i, j, l, m, n, o, q, t, s, u⟩ := at_U82 P.1 a v x
  cases M
  replace d := bt_ HB d
  replace g := bt_ HB g
  replace i := bt_ HB i
  replace j := bt_ HB j
  replace l := bt_ HB l
  replace m := bt_ HB m
  replace n := bt_ HB n
  replace o := bt_ HB o
  replace v := eq_true v
  replace x := eq_true x
  go_upto_if 25 with (first | ((with_reducible refine gate_callee (f := 41) rfl ?_); refine gl_ (some 23) Try.func41 #[.agg #[.int .i64 ((rd_T82 b a).f0), .int .i64 ((rd_T82 b a).f1), .bool ((rd_T82 b a).f2), .bool ((rd_T82 b a).f3.f0.f0), .int .i64 ((rd_T82 b a).f3.f0.f1), .slice z ((rd_T82 b a).f3.f0.f2).length B, .int .i64 ((rd_T82 b a).f3.f1), .slice A ((rd_T82 b a).f3.f2).length D], .int .i64 p] ?_; (with_reducible refine (laws_szLogged.calls ((rd_T82 b a).f0) ((rd_T82 b a).f1) ((rd_T82 b a).f2) ((rd_T82 b a).f3.f0.f0) ((rd_T82 b a).f3.f0.f1) _ _ ((rd_T82 b a).f3.f0.f2) ((rd_T82 b a).f3.f1) _ _ ((rd_T82 b a).f3.f2) p y _ (cb_ t HB) q.1 (cb_ u HB) s.1 U.1).mono ?_); rintro e Y ⟨rfl, hb⟩; refine ⟨_, rfl, ?_⟩; have _ := Q_ (below_step (pb_ HB.1) hb); clear HB; rename_i HB; (try clear hb)))
  (try simp only [Act.put, s1_, s2_, s3_])
  have H := HS_.1
  clear HS_
  by_cases I : y < 0
  rotate_left
  ·rw [if_neg I] at H
   have c := decide_eq_false I
   clear I
   (first | rw [c] | (simp only [i64_w, i32_w]; rw [c]) | skip)
   have H' := Q_ H
   clear H
   go_wp2
   go_roundg k1
   case measure => have := J.1; omega
   case rel => exact ⟨(y), (wrap64 (a + 1)), el_, el_, H', ⟨by have := J.1; omega⟩, ⟨pb_ HB.1⟩⟩
  rw [if_pos I] at H
  have c := decide_eq_true I
  clear I
  (first | rw [c] | (simp only [i64_w, i32_w]; rw [c]) | skip)
  obtain rfl := Option.some.inj H
  go_wp2
  go_ret
  exact ⟨er_, pb_ HB.1⟩
 rw [if_pos F] at H
 have K := decide_eq_true F
 clear F
 obtain rfl := Option.some.inj H
 go_enter Try.func23, Try.ntmps23
 go_wp2
 go_ret
 exact ⟨er_, pb_ HB.1⟩

/-! ### laws_szWorld: function 5 -/
def laws_szWorld.f (k : Nat) (n : List Int) (o : List Int) (u : Int) (p : List (S74)) (j : Int) (q : List Int) (l : Int) (m : Bool) (v : Int) (w : Int) (h : List (S79)) (i : List (S82)) (r : Int) (s : Int) (t : Int) (x : Int) : Option (Int) := (laws_szIntS.f n x).bind fun a => (if a < 0 then (some (-1)) else ((laws_szIntS.f o a).bind fun b => (if b < 0 then (some (-1)) else ((laws_szEndpointS.f k p b).bind fun c => (if c < 0 then (some (-1)) else ((laws_szRollout.f j q l m c).bind fun d => (if d < 0 then (some (-1)) else ((laws_szDialedS.f k h d).bind fun e => (if e < 0 then (some (-1)) else ((laws_szLoggedS.f k i e).bind fun g => (if g < 0 then (some (-1)) else (some g))))))))))))
theorem laws_szWorld.mono : ∀ h i j l m n o p q r a b c d e g k, LeO (laws_szWorld.f k h i j l m n o p q r a b c d e g) (laws_szWorld.f (k + 1) h i j l m n o p q r a b c d e g) := by
 intro h i j l m n o p q r a b c d e g k
 unfold laws_szWorld.f
 exact mo3_ laws_szDialedS.mono laws_szEndpointS.mono laws_szLoggedS.mono
theorem laws_szWorld.calls (k : Nat) (M : Option Addr) (R : Nat) (g : List Int) (O : Option Addr) (S : Nat) (i : List Int) (ab : Int) (P : Option Addr) (T : Nat) (j : List (S74)) (y : Int) (Q : Option Addr) (U : Nat) (l : List Int) (z : Int) (A : Bool) (ac : Int) (ad : Int) (B : Option Addr) (E : Nat) (c : List (S79)) (D : Option Addr) (F : Nat) (d : List (S82)) (J : Int) (K : Int) (L : Int) (a1 : Int) (r : Int) (w : World) (hr0_0 : Kd.C (Kd.int .i64) w M g.length g) (ae : g.length ≤ R) (hr0_1 : Kd.C (Kd.int .i64) w O i.length i) (af : i.length ≤ S) (hr0_3 : Kd.C k74 w P j.length j) (ag : j.length ≤ T) (hr0_5 : Kd.C (Kd.int .i64) w Q l.length l) (ah : l.length ≤ U) (hr0_10 : Kd.C k79 w B c.length c) (V : c.length ≤ E) (hr0_11 : Kd.C k82 w D d.length d) (W : d.length ≤ F) (h : laws_szWorld.f k g i ab j y l z A ac ad c d J K L a1 = some r) :
  Calls Try.prog 5 #[.agg #[.slice M g.length R, .slice O i.length S, .int .i64 ab, .slice P j.length T, .int .i64 y, .slice Q l.length U, .int .i64 z, .bool A, .int .i64 ac, .int .i64 ad, .slice B c.length E, .slice D d.length F, .int .i64 J, .int .i64 K, .int .i64 L], .int .i64 a1] w fun e w' => e = .returned (.int .i64 r) ∧ Below w.heap.size w w' := by
 have hu29 := Try.underlying29
 have hu25 := Try.underlying25
 have ar := Q_ hr0_0
 have an := Q_ ae
 clear hr0_0 ae
 have au := Q_ hr0_1
 have ao := Q_ af
 clear hr0_1 af
 have av := Q_ hr0_3
 have ap := Q_ ag
 clear hr0_3 ag
 have aw := Q_ hr0_5
 have aq := Q_ ah
 clear hr0_5 ah
 have ak := Q_ hr0_10
 have ai := Q_ V
 clear hr0_10 V
 have al := Q_ hr0_11
 have aj := Q_ W
 clear hr0_11 W
 have HB := Q_ (Below.refl w.heap.size w)
 have H : ((laws_szIntS.f g a1).bind fun q => (if q < 0 then (some (-1)) else ((laws_szIntS.f i q).bind fun s => (if s < 0 then (some (-1)) else ((laws_szEndpointS.f k j s).bind fun t => (if t < 0 then (some (-1)) else ((laws_szRollout.f y l z A t).bind fun u => (if u < 0 then (some (-1)) else ((laws_szDialedS.f k c u).bind fun v => (if v < 0 then (some (-1)) else ((laws_szLoggedS.f k d v).bind fun x => (if x < 0 then (some (-1)) else (some x))))))))))))) = some r := h
 clear h
 have HS_ := Q_ H
 clear H
 go_enter Try.func5, Try.ntmps5
 go_upto_region 1 with (first | ((with_reducible refine gate_dst (N := 2) rfl ?_); refine bx_ 2 #[.slice M g.length R, .slice O i.length S, .int .i64 ab, .slice P j.length T, .int .i64 y, .slice Q l.length U, .int .i64 z, .bool A, .int .i64 ac, .int .i64 ad, .slice B c.length E, .slice D d.length F, .int .i64 J, .int .i64 K, .int .i64 L] 29 ?_; intro aE hg w3 hbox hb; have _ := Q_ (below_step (pb_ HB.1) hb); have a := Q_ (hbox); have am := Q_ (gw_ (w := w) hg (pb_ HB.1)); have b := am; clear HB; rename_i HB; clear hb hbox hg))
 (try simp only [Act.put, s1_, s2_, s3_])
 have H := HS_.1
 clear HS_
 obtain ⟨q, A4, H⟩ := bs_ H
 (try dsimp only at H)
 have HS_ := Q_ H
 clear H
 have aJ := bc15_ a.1
 go_upto_if 10 with (first | ((with_reducible refine gate_callee (f := 19) rfl ?_); refine gl_ (some 8) Try.func19 #[.slice M g.length R, .int .i64 a1] ?_; (with_reducible refine (laws_szIntS.calls _ _ g a1 q _ (cb_ ar HB) an.1 A4.1).mono ?_); rintro e w' ⟨rfl, ⟨nd, rfl⟩⟩; refine ⟨_, rfl, ?_⟩))
 (try simp only [Act.put, s1_, s2_, s3_])
 have H := HS_.1
 clear HS_
 by_cases c6 : q < 0
 ·rw [if_pos c6] at H
  have G := decide_eq_true c6
  clear c6
  (first | rw [G] | (simp only [i64_w, i32_w]; rw [G]) | skip)
  obtain rfl := Option.some.inj H
  go_wp2
  go_ret
  exact ⟨er_, pb1_ HB.1 b.1⟩
 rw [if_neg c6] at H
 have G := decide_eq_false c6
 clear c6
 (first | rw [G] | (simp only [i64_w, i32_w]; rw [G]) | skip)
 obtain ⟨s, A7, H⟩ := bs_ H
 (try dsimp only at H)
 have HS_ := Q_ H
 clear H
 have aK := bc15_ a.1
 go_upto_if 16 with (first | ((with_reducible refine gate_callee (f := 19) rfl ?_); refine gl_ (some 14) Try.func19 #[.slice O i.length S, .int .i64 q] ?_; (with_reducible refine (laws_szIntS.calls _ _ i q s _ ?side1 ao.1 A7.1).mono ?_); (case side1 => exact pc_ (Kd.C_below au.1 (pb1_ HB.1 b.1))); rintro e w' ⟨rfl, ⟨nd, rfl⟩⟩; refine ⟨_, rfl, ?_⟩))
 (try simp only [Act.put, s1_, s2_, s3_])
 have H := HS_.1
 clear HS_
 by_cases c9 : s < 0
 ·rw [if_pos c9] at H
  have I := decide_eq_true c9
  clear c9
  (first | rw [I] | (simp only [i64_w, i32_w]; rw [I]) | skip)
  obtain rfl := Option.some.inj H
  go_wp2
  go_ret
  exact ⟨er_, pb1_ HB.1 b.1⟩
 rw [if_neg c9] at H
 have I := decide_eq_false c9
 clear c9
 (first | rw [I] | (simp only [i64_w, i32_w]; rw [I]) | skip)
 obtain ⟨t, aA, H⟩ := bs_ H
 (try dsimp only at H)
 have HS_ := Q_ H
 clear H
 have aF := bc15_ a.1
 go_upto_if 22 with (first | ((with_reducible refine gate_callee (f := 20) rfl ?_); refine gl_ (some 20) Try.func20 #[.slice P j.length T, .int .i64 s] ?_; (with_reducible refine (laws_szEndpointS.calls k _ _ j s t _ ?side1 ap.1 aA.1).mono ?_); (case side1 => exact pc_ (Kd.C_below av.1 (pb1_ HB.1 b.1))); rintro e aN ⟨rfl, hb⟩; refine ⟨_, rfl, ?_⟩; have _ := Q_ (bb_ a.1 hb); have _ := Q_ (below_step (pb1_ HB.1 b.1) hb); clear a HB; rename_i a HB; (try clear hb)))
 (try simp only [Act.put, s1_, s2_, s3_])
 have H := HS_.1
 clear HS_
 by_cases X : t < 0
 ·rw [if_pos X] at H
  have m := decide_eq_true X
  clear X
  (first | rw [m] | (simp only [i64_w, i32_w]; rw [m]) | skip)
  obtain rfl := Option.some.inj H
  go_wp2
  go_ret
  exact ⟨er_, pb1_ HB.1 b.1⟩
 rw [if_neg X] at H
 have m := decide_eq_false X
 clear X
 (first | rw [m] | (simp only [i64_w, i32_w]; rw [m]) | skip)
 obtain ⟨u, aB, H⟩ := bs_ H
 (try dsimp only at H)
 have HS_ := Q_ H
 clear H
 have aG := bc15_ a.1
 go_upto_if 28 with (first | ((with_reducible refine gate_callee (f := 21) rfl ?_); refine gl_ (some 26) Try.func21 #[.agg #[.int .i64 y, .slice Q l.length U, .int .i64 z, .bool A], .int .i64 t] ?_; (with_reducible refine (laws_szRollout.calls y _ _ l z A t u _ (cb_ aw HB) aq.1 aB.1).mono ?_); rintro e aO ⟨rfl, hb⟩; refine ⟨_, rfl, ?_⟩; have _ := Q_ (bb_ a.1 hb); have _ := Q_ (below_step (pb1_ HB.1 b.1) hb); clear a HB; rename_i a HB; (try clear hb)))
 (try simp only [Act.put, s1_, s2_, s3_])
 have H := HS_.1
 clear HS_
 by_cases Y : u < 0
 ·rw [if_pos Y] at H
  have n := decide_eq_true Y
  clear Y
  (first | rw [n] | (simp only [i64_w, i32_w]; rw [n]) | skip)
  obtain rfl := Option.some.inj H
  go_wp2
  go_ret
  exact ⟨er_, pb1_ HB.1 b.1⟩
 rw [if_neg Y] at H
 have n := decide_eq_false Y
 clear Y
 (first | rw [n] | (simp only [i64_w, i32_w]; rw [n]) | skip)
 obtain ⟨v, aC, H⟩ := bs_ H
 (try dsimp only at H)
 have HS_ := Q_ H
 clear H
 have aH := bc15_ a.1
 go_upto_if 34 with (first | ((with_reducible refine gate_callee (f := 22) rfl ?_); refine gl_ (some 32) Try.func22 #[.slice B c.length E, .int .i64 u] ?_; (with_reducible refine (laws_szDialedS.calls k _ _ c u v _ (cb_ ak HB) ai.1 aC.1).mono ?_); rintro e aP ⟨rfl, hb⟩; refine ⟨_, rfl, ?_⟩; have _ := Q_ (bb_ a.1 hb); have _ := Q_ (below_step (pb1_ HB.1 b.1) hb); clear a HB; rename_i a HB; (try clear hb)))
 (try simp only [Act.put, s1_, s2_, s3_])
 have H := HS_.1
 clear HS_
 by_cases Z : v < 0
 ·rw [if_pos Z] at H
  have o := decide_eq_true Z
  clear Z
  (first | rw [o] | (simp only [i64_w, i32_w]; rw [o]) | skip)
  obtain rfl := Option.some.inj H
  go_wp2
  go_ret
  exact ⟨er_, pb1_ HB.1 b.1⟩
 rw [if_neg Z] at H
 have o := decide_eq_false Z
 clear Z
 (first | rw [o] | (simp only [i64_w, i32_w]; rw [o]) | skip)
 obtain ⟨x, aD, H⟩ := bs_ H
 replace H : (if x < 0 then (some (-1)) else (some x)) = some r := H
 have HS_ := Q_ H
 clear H
 have aI := bc15_ a.1
 go_upto_if 40 with (first | ((with_reducible refine gate_callee (f := 23) rfl ?_); refine gl_ (some 38) Try.func23 #[.slice D d.length F, .int .i64 v] ?_; (with_reducible refine (laws_szLoggedS.calls k _ _ d v x _ (cb_ al HB) aj.1 aD.1).mono ?_); rintro e aQ ⟨rfl, hb⟩; refine ⟨_, rfl, ?_⟩; have _ := Q_ (bb_ a.1 hb); have _ := Q_ (below_step (pb1_ HB.1 b.1) hb); clear a HB; rename_i a HB; (try clear hb)))
 (try simp only [Act.put, s1_, s2_, s3_])
 have H := HS_.1
 clear HS_
 by_cases aa : x < 0
 rotate_left
 ·rw [if_neg aa] at H
  have p := decide_eq_false aa
  clear aa
  (first | rw [p] | (simp only [i64_w, i32_w]; rw [p]) | skip)
  obtain rfl := Option.some.inj H
  go_wp2
  go_ret
  exact ⟨er_, pb1_ HB.1 b.1⟩
 rw [if_pos aa] at H
 have p := decide_eq_true aa
 clear aa
 (first | rw [p] | (simp only [i64_w, i32_w]; rw [p]) | skip)
 obtain rfl := Option.some.inj H
 go_wp2
 go_ret
 exact ⟨er_, pb1_ HB.1 b.1⟩

/-! ### laws_toIntS: function 25 -/
def laws_toIntS.l0 : Nat → List Int → List Int → Int → Option (List Int)
 | 0, _, _, _ => none
 | k + 1, b, c, a => if a < (b.length : Int) then (if 0 ≤ a then (if a < (c.length : Int) then (laws_toIntS.l0 k b (c.set (a : Int).toNat (rd b a)) (wrap64 (a + 1))) else (none)) else (none)) else (some c)
def laws_toIntS.f (k : Nat) (a : List Int) : Option (List Int) := if 0 ≤ (a.length : Int) then (if ((a.length : Int) : Int).toNat ≤ 35184372088832 then (laws_toIntS.l0 k a (List.replicate ((a.length : Int) : Int).toNat 0) 0) else (none)) else (none)
theorem laws_toIntS.mono_l : ∀ k, (∀ a b c, LeO (laws_toIntS.l0 k a b c) (laws_toIntS.l0 (k + 1) a b c))
 | 0 => fun _ _ _ r h => by simp [laws_toIntS.l0] at h
 | k + 1 => by
  have ih0 := laws_toIntS.mono_l k
  ·intro a b c
   unfold laws_toIntS.l0
   exact mo1_ ih0
theorem laws_toIntS.mono : ∀ a k, LeO (laws_toIntS.f k a) (laws_toIntS.f (k + 1) a) := by
 intro a k
 have ih0 := laws_toIntS.mono_l k
 unfold laws_toIntS.f
 exact mo1_ ih0
theorem laws_toIntS.calls (k : Nat) (W : Option Addr) (X : Nat) (b : List Int) (r : List Int) (w : World) (hr0 : Kd.C (Kd.int .i64) w W b.length b) (I : b.length ≤ X) (h : laws_toIntS.f k b = some r) :
  Calls Try.prog 25 #[.slice W b.length X] w fun e w' => ∃ v0_ : Value, e = .returned (v0_) ∧ Kd.R (Kd.int .i64) 3 w' w.heap.size (fun _ => True) v0_ r ∧ Below w.heap.size w w' := by
 have O := Q_ hr0
 have af := Q_ I
 clear hr0 I
 have HB := Q_ (Below.refl w.heap.size w)
 have H : (if 0 ≤ (b.length : Int) then (if ((b.length : Int) : Int).toNat ≤ 35184372088832 then (laws_toIntS.l0 k b (List.replicate ((b.length : Int) : Int).toNat 0) 0) else (none)) else (none)) = some r := h
 clear h
 by_cases A : 0 ≤ (b.length : Int)
 rotate_left
 ·rw [if_neg A] at H
  exact nn_ H
 rw [if_pos A] at H
 have Y := eq_true A
 have Z : decide (0 ≤ (b.length : Int)) = true := decide_eq_true A
 clear A
 by_cases B : ((b.length : Int) : Int).toNat ≤ 35184372088832
 rotate_left
 ·rw [if_neg B] at H
  exact nn_ H
 rw [if_pos B] at H
 have aa := eq_true B
 have ab : decide (((b.length : Int) : Int).toNat ≤ 35184372088832) = true := decide_eq_true B
 clear B
 obtain ⟨o, hy132⟩ : ∃ y_ : List Int, y_ = (List.replicate ((b.length : Int) : Int).toNat 0) := ⟨_, rfl⟩
 replace H : (laws_toIntS.l0 k b o 0) = some r := hb_ hy132 H
 have i := Q_ hy132
 clear hy132
 have H' := Q_ H
 clear H
 go_enter Try.func25, Try.ntmps25
 go_wp2_with (first | ((with_reducible refine gate_dst (N := 7) rfl ?_); refine Kd.R_make (Kd.int .i64) _ 3 rfl (N := 7) rfl 22 _ _ rfl (b.length : Int) rfl rfl Try.underlying22 (.int .i64 0) 8 info3 rfl (by decide) (by omega) 0 (ok := fun _ => True) (okp := fun _ => True) rfl (fun _ hk => hk) trivial dt_ (Nat.le_trans (Nat.mul_le_mul_right _ (dt_ : (b.length : Int).toNat ≤ 35184372088832)) (by omega)) (Below.refl _ _) (Nat.le_refl _) ?_; intro J w4 j hb hg_ hnew_; clear hg_ hnew_; (first | rw [← i.1] at j | (simp only [Int.reduceToNat] at j; rw [← i.1] at j)); have _ := Q_ (Kd.R_lower j (below_size (pb_ HB.1))); have _ := Q_ (below_step (pb_ HB.1) hb); clear HB; rename_i q HB; clear hb j))
 (try simp only [Act.put, s1_, s2_, s3_])
 go_loopg [4] k (fun kq v4 w' => ∃ (d : List Int) (a : Int), v4 = .int .i64 a ∧ Aside0 (laws_toIntS.l0 kq b d a = some r) ∧ Aside0 (kq ≤ k) ∧ Aside0 (Kd.R (Kd.int .i64) 3 w' w.heap.size (fun _ => True) J d) ∧ Aside0 (Below w.heap.size w w'))
 case atStart => exact ⟨(o), (0), el_, H', ⟨Nat.le_refl _⟩, ⟨pr_ q.1⟩, ⟨pb_ HB.1⟩⟩
 clear H'
 obtain ⟨d, a, rfl, HA, z, c, HB⟩ := hrel
 rcases gk with _ | k1
 ·exact absurd HA.1 (by simp [laws_toIntS.l0])
 have H := HA.1
 clear HA
 simp only [laws_toIntS.l0] at H
 by_cases y : a < (b.length : Int)
 rotate_left
 ·rw [if_neg y] at H
  have D := decide_eq_false y
  clear y
  obtain rfl := Option.some.inj H
  go_wp2
  go_ret
  exact ⟨_, er_, pr_ c.1, pb_ HB.1⟩
 rw [if_pos y] at H
 have D := decide_eq_true y
 clear y
 by_cases K : 0 ≤ a
 rotate_left
 ·rw [if_neg K] at H
  exact nn_ H
 rw [if_pos K] at H
 have ac := decide_eq_true K
 clear K
 by_cases L : a < (d.length : Int)
 rotate_left
 ·rw [if_neg L] at H
  exact nn_ H
 rw [if_pos L] at H
 have ad := decide_eq_true L
 clear L
 obtain ⟨n, hy136⟩ : ∃ y_ : List Int, y_ = (d.set (a : Int).toNat (rd b a)) := ⟨_, rfl⟩
 replace H : (laws_toIntS.l0 k1 b n (wrap64 (a + 1))) = some r := hb_ hy136 H
 have s := Q_ hy136
 clear hy136
 have H' := Q_ H
 clear H
 have l : 0 ≤ (a : Int) := dt_
 have m : a < (b.length : Int) := dt_
 obtain ⟨P, E, g⟩ := Kd.at_int O.1 a l m
 cases E
 replace g := bt_ HB g
 replace l := eq_true l
 replace m := eq_true m
 have U : 0 ≤ (a : Int) := dt_
 have V : (a : Int) < ((d.length : Int) : Int) := dt_
 obtain ⟨u, Q, F, G, gl9, ag, HG9⟩ := Kd.R_form c.1 (by omega)
 (first | cases F | (injection F with ea_ en_ ec_; (first | subst ea_ | (injection ea_ with ea_; subst ea_)); subst ec_; clear en_))
 have M := Q_ G
 have ae := Q_ HG9
 clear G gl9 HG9
 obtain ⟨T, S⟩ := Kd.R_celln 0 c.1 (a : Int) U V
 replace U := eq_true U
 replace V := eq_true V
 have HP10 := Kd.R_putg c.1 (a : Int) (rd b a)
 go_wp2_with (first | ((with_reducible refine gate_store (t := 3) (p := 20) rfl ?_); refine store_event (t := 3) (p := 20) (v := ?vo_w11) (w1 := (wr.setCell ⟨u, (a : Int).toNat, none⟩ (.int .i64 (rd b a)))) ?hg ?ho ?hn ?hr ?_; (case ho => rfl); (case hg => rfl); (case hn => rfl); (case hr => first | (go_simp; done) | (go_simp; rfl)); intro x hw; have hg : wr.grownBy x (some u) := (by rw [hw]; exact HP10.2); have hp_ : Kd.R (Kd.int .i64) 3 x w.heap.size (fun _ => True) (.slice (some ⟨u, 0, none⟩) d.length Q) n := (by rw [hw, s.1]; exact HP10.1); clear HP10; have _ := Q_ (hp_); have _ := Q_ ((by rw [hw]; exact below_set (HB.1) M.1 : Below w.heap.size w x)); clear c HB; rename_i c HB; clear hg hw hp_))
 go_roundg k1
 case measure => have := z.1; omega
 case rel => exact ⟨(n), (wrap64 (a + 1)), el_, H', ⟨by have := z.1; omega⟩, ⟨pr_ c.1⟩, ⟨pb_ HB.1⟩⟩

/-! ### laws_toBox: function 57 -/
def laws_toBox.f (k : Nat) (a : Int) (c : List Int) (d : List Int) (b : Bool) : Option (Int × List Int × List Int × Bool) := (laws_toIntS.f k c).bind fun e => ((laws_toIntS.f k d).bind fun g => (some (a, e, g, b)))
theorem laws_toBox.mono : ∀ a b c d k, LeO (laws_toBox.f k a b c d) (laws_toBox.f (k + 1) a b c d) := by
 intro a b c d k
 unfold laws_toBox.f
 exact mo1_ laws_toIntS.mono
theorem laws_toBox.calls (k : Nat) (l : Int) (A : Option Addr) (E : Nat) (q : List Int) (B : Option Addr) (F : Nat) (r : List Int) (m : Bool) (r1 : Int) (r2 : List Int) (r3 : List Int) (r4 : Bool) (w : World) (hr0_1 : Kd.C (Kd.int .i64) w A q.length q) (S : q.length ≤ E) (hr0_2 : Kd.C (Kd.int .i64) w B r.length r) (T : r.length ≤ F) (h : laws_toBox.f k l q r m = some (r1, r2, r3, r4)) :
  Calls Try.prog 57 #[.agg #[.int .i64 l, .slice A q.length E, .slice B r.length F, .bool m]] w fun e w' => ∃ v1_ v2_ : Value, e = .returned (.agg #[.int .i64 r1, v1_, v2_, .bool r4]) ∧ Kd.R (Kd.int .i64) 3 w' w.heap.size (fun k_ => some k_ ≠ (v2_ : Value).ownBlock) v1_ r2 ∧ Kd.R (Kd.int .i64) 3 w' w.heap.size (fun k_ => some k_ ≠ (v1_ : Value).ownBlock) v2_ r3 ∧ Below w.heap.size w w' := by
 have hu104 := Try.underlying104
 have hu102 := Try.underlying102
 have Z := Q_ hr0_1
 have X := Q_ S
 clear hr0_1 S
 have aa := Q_ hr0_2
 have Y := Q_ T
 clear hr0_2 T
 have HB := Q_ (Below.refl w.heap.size w)
 have H : ((laws_toIntS.f k q).bind fun s => ((laws_toIntS.f k r).bind fun u => (some (l, s, u, m)))) = some (r1, r2, r3, r4) := h
 clear h
 obtain ⟨s, A2, H⟩ := bs_ H
 (try dsimp only at H)
 obtain ⟨u, A3, H⟩ := bs_ H
 replace H : (some (l, s, u, m)) = some (r1, r2, r3, r4) := H
 simp only [Option.some.injEq, Prod.mk.injEq] at H
 obtain ⟨rfl, rfl, rfl, rfl⟩ := H
 go_enter Try.func57, Try.ntmps57
 go_wp2_with (first | ((with_reducible refine gate_dst (N := 1) rfl ?_); refine bx_ 1 #[.int .i64 l, .slice A q.length E, .slice B r.length F, .bool m] 104 ?_; intro Q hg w4 hbox hb; have _ := Q_ (below_step (pb_ HB.1) hb); have a := Q_ (hbox); have U := Q_ (gw_ (w := w) hg (pb_ HB.1)); have d := U; clear HB; rename_i HB; clear hb hbox hg) | ((with_reducible refine gate_dst (N := 2) rfl ?_); refine bx_ 2 #[.int .i64 0, .slice none 0 0, .slice none 0 0, .bool false] 102 ?_; intro i hg w5 hbox hb; have _ := Q_ (bb_ a.1 hb); have _ := Q_ (below_step (pb1_ HB.1 d.1) hb); have b := Q_ (hbox); have V := Q_ (gw_ (w := w) hg (pb1_ HB.1 d.1)); have j := V; have x := Q_ (nb_ hg a); have K := Q_ x.1.symm; clear a HB; rename_i a HB; clear hb hbox hg) | ((with_reducible refine gate_dst (N := 3) rfl ?_); refine bx_ 3 #[.int .i64 0, .slice none 0 0, .slice none 0 0, .bool false] 102 ?_; intro n hg w6 hbox hb; have _ := Q_ (bb_ a.1 hb); have _ := Q_ (bb_ b.1 hb); have _ := Q_ (below_step (pb2_ HB.1 d.1 j.1) hb); have c := Q_ (hbox); have W := Q_ (gw_ (w := w) hg (pb2_ HB.1 d.1 j.1)); have t := W; have y := Q_ (nb_ hg a); have L := Q_ y.1.symm; have z := Q_ (nb_ hg b); have M := Q_ z.1.symm; clear a b HB; rename_i a b HB; clear hb hbox hg; have aq := x.1; have au := K.1; have ar := y.1; have av := L.1; have ap := bc4_ a.1; have an := M.1; have ao := z.1; have ah := bc4_ c.1) | ((with_reducible refine gate_callee (f := 25) rfl ?_); refine gl_ (some 9) Try.func25 #[.slice A q.length E] ?_; (with_reducible refine (laws_toIntS.calls k _ _ q s _ ?side1 X.1 A2.1).mono ?_); (case side1 => exact Kd.C_below Z.1 (pb3_ HB.1 d.1 j.1 t.1)); rintro e aA ⟨aw, rfl, O, hb⟩; refine ⟨_, rfl, ?_⟩; have _ := Q_ (Kd.R_lower O (below_size (pb3_ HB.1 d.1 j.1 t.1))); have _ := Q_ (blk_below (g := Q) (o := .cells #[.int .i64 l, .slice A q.length E, .slice B r.length F, .bool m] 104 (0, 0)) (pp_ a.1) hb); have _ := Q_ (blk_below (g := i) (o := .cells #[.int .i64 0, .slice none 0 0, .slice none 0 0, .bool false] 102 (0, 0)) (pp_ b.1) hb); have _ := Q_ (blk_below (g := n) (o := .cells #[.int .i64 l, .slice none 0 0, .slice none 0 0, .bool false] 102 (0, 0)) (pp_ c.1) hb); have _ := Q_ (below_step (pb3_ HB.1 d.1 j.1 t.1) hb); clear a b c HB; rename_i v a b c HB; (try clear hb O); obtain ⟨D, G, ab⟩ := Kd.R_slice v.1; subst ab; have ai := bc4_ c.1; have aj := bc4_ a.1) | ((with_reducible refine gate_callee (f := 25) rfl ?_); refine gl_ (some 13) Try.func25 #[.slice B r.length F] ?_; (with_reducible refine (laws_toIntS.calls k _ _ r u _ ?side1 Y.1 A3.1).mono ?_); (case side1 => exact Kd.C_below aa.1 (pb3_ HB.1 d.1 j.1 t.1)); rintro e aB ⟨ax, rfl, O, hb⟩; refine ⟨_, rfl, ?_⟩; have _ := Q_ (Kd.R_elder' (pr_ (Kd.R_mono (Kd.R_far (p := ⟨n, 1, none⟩) (Kd.R_types v.1 c.1 (by decide)) (fun _ hk => hk.2) (.slice D s.length G)) (fun _ h_ => h_.1))) (Kd.R_base O) hb); have _ := Q_ (Kd.R_lower (Kd.R_new' O (Kd.R_lt (pr_ (Kd.R_mono (Kd.R_far (p := ⟨n, 1, none⟩) (Kd.R_types v.1 c.1 (by decide)) (fun _ hk => hk.2) (.slice D s.length G)) (fun _ h_ => h_.1))))) (below_size (pb3_ HB.1 d.1 j.1 t.1))); have _ := Q_ (blk_below (g := Q) (o := .cells #[.int .i64 l, .slice A q.length E, .slice B r.length F, .bool m] 104 (0, 0)) (pp_ a.1) hb); have _ := Q_ (blk_below (g := i) (o := .cells #[.int .i64 0, .slice none 0 0, .slice none 0 0, .bool false] 102 (0, 0)) (pp_ b.1) hb); have _ := Q_ (blk_below (g := n) (o := .cells #[.int .i64 l, .slice D s.length G, .slice none 0 0, .bool false] 102 (0, 0)) (pp_ c.1) hb); have _ := Q_ (below_step (pb3_ HB.1 d.1 j.1 t.1) hb); clear v a b c HB; rename_i v P a b c HB; (try clear hb O); obtain ⟨I, J, ac⟩ := Kd.R_slice P.1; subst ac; have ak := bc4_ c.1; have al := bc4_ a.1; have am := bc4_ b.1))
 refine bodyPost_ret (results_cell_row rfl _ _ i 102 #[.int .i64 l, .slice D s.length G, .slice I u.length J, .bool m] (0, 0) _ rfl (pp_ b.1) Try.underlying102 rfl (by kernel_rfl)) rfl ?_
 exact ⟨_, _, er_, pr_ (Kd.R_mono (Kd.R_far (p := ⟨i, 3, none⟩) (Kd.R_far (p := ⟨i, 2, none⟩) (Kd.R_far (p := ⟨i, 1, none⟩) (Kd.R_far (p := ⟨i, 0, none⟩) (Kd.R_far (p := ⟨n, 3, none⟩) (Kd.R_far (p := ⟨n, 2, none⟩) (Kd.R_types (Kd.R_types v.1 c.1 (by decide)) b.1 (by decide)) (fun _ hk => hk.1.2) (.slice I u.length J)) (fun _ hk => hk.1.2) (.bool m)) (fun _ hk => hk.2) (.int .i64 l)) (fun _ hk => hk.2) (.slice D s.length G)) (fun _ hk => hk.2) (.slice I u.length J)) (fun _ hk => hk.2) (.bool m)) (fun _ hk => hk.1.1.2)), pr_ (Kd.R_mono (Kd.R_far (p := ⟨i, 3, none⟩) (Kd.R_far (p := ⟨i, 2, none⟩) (Kd.R_far (p := ⟨i, 1, none⟩) (Kd.R_far (p := ⟨i, 0, none⟩) (Kd.R_far (p := ⟨n, 3, none⟩) (Kd.R_far (p := ⟨n, 2, none⟩) (Kd.R_types (Kd.R_types P.1 c.1 (by decide)) b.1 (by decide)) (fun _ hk => hk.1.2) (.slice I u.length J)) (fun _ hk => hk.1.2) (.bool m)) (fun _ hk => hk.2) (.int .i64 l)) (fun _ hk => hk.2) (.slice D s.length G)) (fun _ hk => hk.2) (.slice I u.length J)) (fun _ hk => hk.2) (.bool m)) (fun _ hk => hk.1.1.2)), pb3_ HB.1 d.1 j.1 t.1⟩

/-! ### laws_toBoxS: function 52 -/
def laws_toBoxS.l0 : Nat → List (S104) → List (S102) → Int → Option ((List (S102)))
 | 0, _, _, _ => none
 | k + 1, c, d, b => if b < (c.length : Int) then (if 0 ≤ b then ((laws_toBox.f k ((rd_T104 c b).f0) ((rd_T104 c b).f1) ((rd_T104 c b).f2) ((rd_T104 c b).f3)).bind fun a => (if b < (d.length : Int) then (laws_toBoxS.l0 k c (d.set (b : Int).toNat (⟨a.1, a.2.1, a.2.2.1, a.2.2.2⟩ : S102)) (wrap64 (b + 1))) else (none))) else (none)) else (some d)
def laws_toBoxS.f (k : Nat) (a : List (S104)) : Option ((List (S102))) := if 0 ≤ (a.length : Int) then (if ((a.length : Int) : Int).toNat ≤ 4398046511104 then (laws_toBoxS.l0 k a (List.replicate ((a.length : Int) : Int).toNat z102) 0) else (none)) else (none)
theorem laws_toBoxS.mono_l : ∀ k, (∀ a b c, LeO (laws_toBoxS.l0 k a b c) (laws_toBoxS.l0 (k + 1) a b c))
 | 0 => fun _ _ _ r h => by simp [laws_toBoxS.l0] at h
 | k + 1 => by
  have ih0 := laws_toBoxS.mono_l k
  ·intro a b c
   unfold laws_toBoxS.l0
   exact mo2_ ih0 laws_toBox.mono
theorem laws_toBoxS.mono : ∀ a k, LeO (laws_toBoxS.f k a) (laws_toBoxS.f (k + 1) a) := by
 intro a k
 have ih0 := laws_toBoxS.mono_l k
 unfold laws_toBoxS.f
 exact mo2_ ih0 laws_toBox.mono
theorem laws_toBoxS.calls (k : Nat) (A0 : Option Addr) (c0 : Nat) (g : List (S104)) (r : List (S102)) (w : World) (hr0 : Kd.C k104 w A0 g.length g) (aA : g.length ≤ c0) (h : laws_toBoxS.f k g = some r) :
  Calls Try.prog 52 #[.slice A0 g.length c0] w fun e w' => ∃ v0_ : Value, e = .returned (v0_) ∧ Kd.S k102 102 w' w.heap.size (fun _ => True) v0_ r ∧ Below w.heap.size w w' := by
 have hu104 := Try.underlying104
 have hu102 := Try.underlying102
 have aM := Q_ hr0
 have a0 := Q_ aA
 clear hr0 aA
 have HB := Q_ (Below.refl w.heap.size w)
 have H : (if 0 ≤ (g.length : Int) then (if ((g.length : Int) : Int).toNat ≤ 4398046511104 then (laws_toBoxS.l0 k g (List.replicate ((g.length : Int) : Int).toNat z102) 0) else (none)) else (none)) = some r := h
 clear h
 by_cases c2 : 0 ≤ (g.length : Int)
 rotate_left
 ·rw [if_neg c2] at H
  exact nn_ H
 rw [if_pos c2] at H
 have aS := eq_true c2
 have aT : decide (0 ≤ (g.length : Int)) = true := decide_eq_true c2
 clear c2
 by_cases c3 : ((g.length : Int) : Int).toNat ≤ 4398046511104
 rotate_left
 ·rw [if_neg c3] at H
  exact nn_ H
 rw [if_pos c3] at H
 have aU := eq_true c3
 have aV : decide (((g.length : Int) : Int).toNat ≤ 4398046511104) = true := decide_eq_true c3
 clear c3
 obtain ⟨aj, hy146⟩ : ∃ y_ : List (S102), y_ = (List.replicate ((g.length : Int) : Int).toNat z102) := ⟨_, rfl⟩
 replace H : (laws_toBoxS.l0 k g aj 0) = some r := hb_ hy146 H
 have L := Q_ hy146
 clear hy146
 have H' := Q_ H
 clear H
 go_enter Try.func52, Try.ntmps52
 go_wp2_with (first | ((with_reducible refine gate_dst (N := 7) rfl ?_); refine Kd.S_make k102 _ 102 rfl (N := 7) rfl 54 _ _ rfl (g.length : Int) rfl rfl Try.underlying54 (.agg #[(.int .i64 0), (.slice none 0 0), (.slice none 0 0), (.bool false)]) 64 info102 rfl (by decide) (by omega) z102 (ok := fun _ => True) (okp := fun _ => True) (k102_mkM _ _ _ z102 (Kd.R_nil _ _ _ _ _) (Kd.R_nil _ _ _ _ _)) (fun _ hk => hk) trivial dt_ (Nat.le_trans (Nat.mul_le_mul_right _ (dt_ : (g.length : Int).toNat ≤ 4398046511104)) (by omega)) (Below.refl _ _) (Nat.le_refl _) ?_; intro aB w4 M hb hg_ hnew_; clear hg_ hnew_; (first | rw [← L.1] at M | (simp only [Int.reduceToNat] at M; rw [← L.1] at M)); have _ := Q_ (Kd.S_lower M (below_size (pb_ HB.1))); have _ := Q_ (below_step (pb_ HB.1) hb); clear HB; rename_i ak HB; clear hb M))
 (try simp only [Act.put, s1_, s2_, s3_])
 go_loopg [4] k (fun kq v4 w' => ∃ (d : List (S102)) (a : Int), v4 = .int .i64 a ∧ Aside0 (laws_toBoxS.l0 kq g d a = some r) ∧ Aside0 (kq ≤ k) ∧ Aside0 (Kd.S k102 102 w' w.heap.size (fun _ => True) aB d) ∧ Aside0 (Below w.heap.size w w'))
 case atStart => exact ⟨(aj), (0), el_, H', ⟨Nat.le_refl _⟩, ⟨ps_ ak.1⟩, ⟨pb_ HB.1⟩⟩
 clear H'
 obtain ⟨d, a, rfl, HA, au, b, HB⟩ := hrel
 rcases gk with _ | k1
 ·exact absurd HA.1 (by simp [laws_toBoxS.l0])
 have H := HA.1
 clear HA
 simp only [laws_toBoxS.l0] at H
 by_cases c6 : a < (g.length : Int)
 rotate_left
 ·rw [if_neg c6] at H
  have ay := decide_eq_false c6
  clear c6
  obtain rfl := Option.some.inj H
  go_wp2
  go_ret
  exact ⟨_, er_, ps_ b.1, pb_ HB.1⟩
 rw [if_pos c6] at H
 have ay := decide_eq_true c6
 clear c6
 by_cases c7 : 0 ≤ a
 rotate_left
 ·rw [if_neg c7] at H
  exact nn_ H
 rw [if_pos c7] at H
 have aW := decide_eq_true c7
 clear c7
 obtain ⟨⟨n, B, D, o⟩, A8, H⟩ := bs_ H
 (try dsimp only at H)
 by_cases c9 : a < (d.length : Int)
 rotate_left
 ·rw [if_neg c9] at H
  exact nn_ H
 rw [if_pos c9] at H
 have aX := decide_eq_true c9
 clear c9
 obtain ⟨Q, hy158⟩ : ∃ y_ : List (S102), y_ = (d.set (a : Int).toNat (⟨n, B, D, o⟩ : S102)) := ⟨_, rfl⟩
 replace H : (laws_toBoxS.l0 k1 g Q (wrap64 (a + 1))) = some r := hb_ hy158 H
 have al := Q_ hy158
 clear hy158
 have H' := Q_ H
 clear H
 have O : 0 ≤ (a : Int) := dt_
 have P : a < (g.length : Int) := dt_
 obtain ⟨aN, R, U, T, V, az, u, x, y, z, G, J, I, K⟩ := at_U104 aM.1 a O P
 cases az
 replace u := bt_ HB u
 replace x := bt_ HB x
 replace y := bt_ HB y
 replace z := bt_ HB z
 replace O := eq_true O
 replace P := eq_true P
 go_wp2_with (first | ((with_reducible refine gate_callee (f := 57) rfl ?_); refine gl_ (some 20) Try.func57 #[.agg #[.int .i64 ((rd_T104 g a).f0), .slice R ((rd_T104 g a).f1).length U, .slice T ((rd_T104 g a).f2).length V, .bool ((rd_T104 g a).f3)]] ?_; (with_reducible refine (laws_toBox.calls k1 ((rd_T104 g a).f0) _ _ ((rd_T104 g a).f1) _ _ ((rd_T104 g a).f2) ((rd_T104 g a).f3) n B D o _ (cb_ J HB) G.1 (cb_ K HB) I.1 A8.1).mono ?_); rintro e m ⟨E, F, rfl, am, an, hb⟩; refine ⟨_, rfl, ?_⟩; have _ := Q_ (Kd.S_mono (Kd.S_told (Kd.S_told (Kd.S_old (ps_ b.1) hb) (Kd.R_base am)) (Kd.R_base an)) (fun _ h_ => h_.1)); have _ := Q_ (Kd.R_lower am (below_size (pb_ HB.1))); have _ := Q_ (Kd.R_lower an (below_size (pb_ HB.1))); have _ := Q_ (below_step (pb_ HB.1) hb); clear b HB; rename_i b q s HB; (try clear hb am an); have ao : 0 ≤ (a : Int) := dt_; have ap : (a : Int) < ((d.length : Int) : Int) := dt_; obtain ⟨c, ae, af, ag, gl10, aY, HG10⟩ := Kd.S_form b.1 (by omega); (first | cases af | (injection af with ea_ en_ ec_; (first | subst ea_ | (injection ea_ with ea_; subst ea_)); subst ec_; clear en_)); have A := Q_ ag; have aQ := Q_ HG10; clear ag gl10 HG10; obtain ⟨_, ce10, hcl10, ah, i, hfr10, _, _⟩ := Kd.S_elem b.1 z102 (a : Int) ao ap; obtain ⟨ve10_1, ve10_2, rfl, ge10_1, ge10_2⟩ := k102_openM ah; have aI : m.cell? ⟨c, (a : Int).toNat * 4, none⟩ = some (.int .i64 ((rd_T102 d a).f0)) := i 0 _ rfl; have aJ : m.cell? ⟨c, (a : Int).toNat * 4 + 1, none⟩ = some (ve10_1) := i 1 _ rfl; have aK : m.cell? ⟨c, (a : Int).toNat * 4 + 2, none⟩ = some (ve10_2) := i 2 _ rfl; have aL : m.cell? ⟨c, (a : Int).toNat * 4 + 3, none⟩ = some (.bool ((rd_T102 d a).f3)) := i 3 _ rfl; have aE : m.frozen? ⟨c, (a : Int).toNat * 4, none⟩ = false := hfr10 0; have aF : m.frozen? ⟨c, (a : Int).toNat * 4 + 1, none⟩ = false := hfr10 1; have aG : m.frozen? ⟨c, (a : Int).toNat * 4 + 2, none⟩ = false := hfr10 2; have aH : m.frozen? ⟨c, (a : Int).toNat * 4 + 3, none⟩ = false := hfr10 3; clear hcl10 i hfr10; (try clear ah); replace ao := eq_true ao; replace ap := eq_true ap; have n_ := Q_ (Kd.S_mono (ok' := (fun k_ => some k_ ≠ (E : Value).ownBlock ∧ some k_ ≠ (F : Value).ownBlock)) b.1 (fun k_ hk => ⟨hk.1.2, hk.2⟩)); clear b; have b := n_; clear n_; have av := Q_ (show Kd.S k102 102 m w.heap.size (fun k_ => ((fun _ => True)) k_ ∧ ¬ ((fun k_ => some k_ = (E : Value).ownBlock ∨ some k_ = (F : Value).ownBlock)) k_) (.slice (some ⟨c, 0, none⟩) d.length ae) d from (by (with_reducible repeat (first | apply Kd.S_alloc | apply Kd.S_drewN | apply Kd.S_drew)); exact Kd.S_mono b.1 (fun k_ hk => ⟨trivial, fun e_ => e_.elim (fun h_ => hk.1 h_) (fun h_ => hk.2 h_)⟩))); obtain ⟨aO, ce12, hcl12, ai, l, hfr12, hoki12, hH12⟩ := Kd.S_elem av.1 z102 (a : Int) dt_ (by have h_ : (a : Int) < ((d.length : Int) : Int) := dt_; first | exact h_ | (have e_ := (Kd.S_reads' b.1).1; omega) | simpa using h_); obtain ⟨ve12_1, ve12_2, rfl, ge12_1, ge12_2⟩ := k102_openM ai; have HP12 := Kd.S_seg hH12 dt_ (by have h_ : (a : Int) < ((d.length : Int) : Int) := dt_; first | exact h_ | (have e_ := (Kd.S_reads' b.1).1; omega) | simpa using h_) (seg := [.int .i64 n, E, F, .bool o]) (j := 0) (show 4 ≤ 4 from by decide) (x' := (⟨n, B, D, o⟩ : S102)) (k102_mkM _ _ _ (⟨n, B, D, o⟩ : S102) (Kd.R_mono (Kd.R_tight rfl (Kd.R_mono (ok' := fun k_ => ((fun _ => True)) k_ ∧ k_ ≠ c) (Kd.R_apart' (q.1) (Kd.S_typed b.1) (by decide)) (fun k_ hk => ⟨trivial, fun e_ => (hk.2) (by rw [e_]; rfl)⟩))) (fun _ h_ => Or.inr (Or.inl h_))) (Kd.R_mono (Kd.R_tight rfl (Kd.R_mono (ok' := fun k_ => ((fun _ => True)) k_ ∧ k_ ≠ c) (Kd.R_apart' (s.1) (Kd.S_typed b.1) (by decide)) (fun k_ hk => ⟨trivial, fun e_ => (hk.2) (by rw [e_]; rfl)⟩))) (fun _ h_ => Or.inr (Or.inr (h_))))) (fun _ hk => hk) (fun k_ hk_ => hk_.elim (fun h_ => ((Kd.R_mono (ok' := fun k_ => ((fun _ => True)) k_ ∧ k_ ≠ c) (Kd.R_apart' (q.1) (Kd.S_typed b.1) (by decide)) (fun k_ hk => ⟨trivial, fun e_ => (hk.2) (by rw [e_]; rfl)⟩))).1 k_ h_.symm) (fun h_ => ((Kd.R_mono (ok' := fun k_ => ((fun _ => True)) k_ ∧ k_ ≠ c) (Kd.R_apart' (s.1) (Kd.S_typed b.1) (by decide)) (fun k_ hk => ⟨trivial, fun e_ => (hk.2) (by rw [e_]; rfl)⟩))).1 k_ h_.symm)); have aa := l 0 _ rfl; (try simp only [show (k102).sz = 4 from rfl, Nat.mul_one, Nat.add_zero] at aa); have W := hfr12 0; (try simp only [show (k102).sz = 4 from rfl, Nat.mul_one, Nat.add_zero] at W); have ab := l 1 _ rfl; (try simp only [show (k102).sz = 4 from rfl, Nat.mul_one, Nat.add_zero] at ab); have X := hfr12 1; (try simp only [show (k102).sz = 4 from rfl, Nat.mul_one, Nat.add_zero] at X); have ac := l 2 _ rfl; (try simp only [show (k102).sz = 4 from rfl, Nat.mul_one, Nat.add_zero] at ac); have Y := hfr12 2; (try simp only [show (k102).sz = 4 from rfl, Nat.mul_one, Nat.add_zero] at Y); have ad := l 3 _ rfl; (try simp only [show (k102).sz = 4 from rfl, Nat.mul_one, Nat.add_zero] at ad); have Z := hfr12 3; (try simp only [show (k102).sz = 4 from rfl, Nat.mul_one, Nat.add_zero] at Z); clear hcl12 l hfr12 hoki12 hH12; (try clear ai)) | ((with_reducible refine gate_store (t := 102) (p := 21) rfl ?_); refine store_event (t := 102) (p := 21) (v := ?vo_w13) (w1 := ((((m.setCell ⟨c, (a : Int).toNat * 4, none⟩ (.int .i64 n)).setCell ⟨c, (a : Int).toNat * 4 + 1, none⟩ (E)).setCell ⟨c, (a : Int).toNat * 4 + 2, none⟩ (F)).setCell ⟨c, (a : Int).toNat * 4 + 3, none⟩ (.bool o))) ?hg ?ho ?hn ?hr ?_; (case ho => rfl); (case hg => rfl); (case hn => rfl); (case hr => first | (go_simp; done) | (go_simp; rfl) | (obtain ⟨Ae_, ce_, ee_⟩ := Kd.R_slice q.1; subst ee_; obtain ⟨Ae_, ce_, ee_⟩ := Kd.R_slice s.1; subst ee_; go_simp; first | done | rfl)); intro aq hw; have hg : m.grownBy aq (some c) := (by rw [hw]; exact HP12.2); have hp_ : Kd.S k102 102 aq w.heap.size (fun _ => True) (.slice (some ⟨c, 0, none⟩) d.length ae) Q := (by rw [hw, al.1]; exact HP12.1); clear HP12; have _ := Q_ (hp_); have _ := Q_ ((by rw [hw]; exact below_set (below_set (below_set (below_set (HB.1) A.1) A.1) A.1) A.1 : Below w.heap.size w aq)); clear b HB q s; rename_i b HB; clear hg hw hp_))
 go_roundg k1
 case measure => have := au.1; omega
 case rel => exact ⟨(Q), (wrap64 (a + 1)), el_, H', ⟨by have := au.1; omega⟩, ⟨ps_ b.1⟩, ⟨pb_ HB.1⟩⟩

/-! ### laws_toEndpoint: function 42 -/
def laws_toEndpoint.f (k : Nat) (b : List Int) (c : List Int) (d : List (S104)) (a : Int) : Option (List Int × List Int × (List (S102)) × Int) := (laws_toIntS.f k b).bind fun e => ((laws_toIntS.f k c).bind fun g => ((laws_toBoxS.f k d).bind fun h => (some (e, g, h, a))))
theorem laws_toEndpoint.mono : ∀ a b c d k, LeO (laws_toEndpoint.f k a b c d) (laws_toEndpoint.f (k + 1) a b c d) := by
 intro a b c d k
 unfold laws_toEndpoint.f
 exact mo2_ laws_toBoxS.mono laws_toIntS.mono
theorem laws_toEndpoint.calls (k : Nat) (I : Option Addr) (M : Nat) (s : List Int) (J : Option Addr) (O : Nat) (t : List Int) (K : Option Addr) (P : Nat) (u : List (S104)) (m : Int) (r1 : List Int) (r2 : List Int) (r3 : List (S102)) (r4 : Int) (w : World) (hr0_0 : Kd.C (Kd.int .i64) w I s.length s) (Z : s.length ≤ M) (hr0_1 : Kd.C (Kd.int .i64) w J t.length t) (aa : t.length ≤ O) (hr0_2 : Kd.C k104 w K u.length u) (ab : u.length ≤ P) (h : laws_toEndpoint.f k s t u m = some (r1, r2, r3, r4)) :
  Calls Try.prog 42 #[.agg #[.slice I s.length M, .slice J t.length O, .slice K u.length P, .int .i64 m]] w fun e w' => ∃ v0_ v1_ v2_ : Value, e = .returned (.agg #[v0_, v1_, v2_, .int .i64 r4]) ∧ Kd.R (Kd.int .i64) 3 w' w.heap.size (fun k_ => some k_ ≠ (v1_ : Value).ownBlock) v0_ r1 ∧ Kd.R (Kd.int .i64) 3 w' w.heap.size (fun k_ => some k_ ≠ (v0_ : Value).ownBlock) v1_ r2 ∧ Kd.S k102 102 w' w.heap.size (fun k_ => some k_ ≠ (v0_ : Value).ownBlock ∧ some k_ ≠ (v1_ : Value).ownBlock) v2_ r3 ∧ Below w.heap.size w w' := by
 have hu74 := Try.underlying74
 have hu56 := Try.underlying56
 have ai := Q_ hr0_0
 have af := Q_ Z
 clear hr0_0 Z
 have aj := Q_ hr0_1
 have ag := Q_ aa
 clear hr0_1 aa
 have ak := Q_ hr0_2
 have ah := Q_ ab
 clear hr0_2 ab
 have HB := Q_ (Below.refl w.heap.size w)
 have H : ((laws_toIntS.f k s).bind fun x => ((laws_toIntS.f k t).bind fun q => ((laws_toBoxS.f k u).bind fun v => (some (x, q, v, m))))) = some (r1, r2, r3, r4) := h
 clear h
 obtain ⟨x, A2, H⟩ := bs_ H
 (try dsimp only at H)
 obtain ⟨q, A3, H⟩ := bs_ H
 (try dsimp only at H)
 obtain ⟨v, A4, H⟩ := bs_ H
 replace H : (some (x, q, v, m)) = some (r1, r2, r3, r4) := H
 simp only [Option.some.injEq, Prod.mk.injEq] at H
 obtain ⟨rfl, rfl, rfl, rfl⟩ := H
 go_enter Try.func42, Try.ntmps42
 go_wp2_with (first | ((with_reducible refine gate_dst (N := 1) rfl ?_); refine bx_ 1 #[.slice I s.length M, .slice J t.length O, .slice K u.length P, .int .i64 m] 74 ?_; intro Y hg w5 hbox hb; have _ := Q_ (below_step (pb_ HB.1) hb); have a := Q_ (hbox); have ac := Q_ (gw_ (w := w) hg (pb_ HB.1)); have i := ac; clear HB; rename_i HB; clear hb hbox hg) | ((with_reducible refine gate_dst (N := 2) rfl ?_); refine bx_ 2 #[.slice none 0 0, .slice none 0 0, .slice none 0 0, .int .i64 0] 56 ?_; intro d hg w6 hbox hb; have _ := Q_ (bb_ a.1 hb); have _ := Q_ (below_step (pb1_ HB.1 i.1) hb); have c := Q_ (hbox); have ad := Q_ (gw_ (w := w) hg (pb1_ HB.1 i.1)); have l := ad; have D := Q_ (nb_ hg a); have U := Q_ D.1.symm; clear a HB; rename_i a HB; clear hb hbox hg) | ((with_reducible refine gate_dst (N := 3) rfl ?_); refine bx_ 3 #[.slice none 0 0, .slice none 0 0, .slice none 0 0, .int .i64 0] 56 ?_; intro j hg w7 hbox hb; have _ := Q_ (bb_ a.1 hb); have _ := Q_ (bb_ c.1 hb); have _ := Q_ (below_step (pb2_ HB.1 i.1 l.1) hb); have b := Q_ (hbox); have ae := Q_ (gw_ (w := w) hg (pb2_ HB.1 i.1 l.1)); have r := ae; have E := Q_ (nb_ hg a); have V := Q_ E.1.symm; have F := Q_ (nb_ hg c); have W := Q_ F.1.symm; clear a c HB; rename_i a c HB; clear hb hbox hg; have aE := D.1; have aG := U.1; have aF := E.1; have aH := V.1; have au := bc4_ a.1) | ((with_reducible refine gate_callee (f := 25) rfl ?_); refine gl_ (some 6) Try.func25 #[.slice I s.length M] ?_; (with_reducible refine (laws_toIntS.calls k _ _ s x _ (cb_ ai HB) af.1 A2.1).mono ?_); rintro e aO ⟨aI, rfl, T, hb⟩; refine ⟨_, rfl, ?_⟩; have _ := Q_ (Kd.R_lower T (below_size (pb3_ HB.1 i.1 l.1 r.1))); have _ := Q_ (bb_ a.1 hb); have _ := Q_ (bb_ c.1 hb); have _ := Q_ (bb_ b.1 hb); have _ := Q_ (below_step (pb3_ HB.1 i.1 l.1 r.1) hb); clear a c b HB; rename_i n a c b HB; (try clear hb T); obtain ⟨L, Q, al⟩ := Kd.R_slice n.1; subst al; have aC := W.1; have aD := F.1; have av := bc4_ b.1; have aw := bc4_ a.1) | ((with_reducible refine gate_callee (f := 25) rfl ?_); refine gl_ (some 10) Try.func25 #[.slice J t.length O] ?_; (with_reducible refine (laws_toIntS.calls k _ _ t q _ ?side1 ag.1 A3.1).mono ?_); (case side1 => exact Kd.C_below aj.1 (pb3_ HB.1 i.1 l.1 r.1)); rintro e aP ⟨aJ, rfl, T, hb⟩; refine ⟨_, rfl, ?_⟩; have _ := Q_ (Kd.R_elder' (pr_ (rf1_ n.1 b.1)) (Kd.R_base T) hb); have _ := Q_ (Kd.R_lower (Kd.R_new' T (Kd.R_lt (pr_ (rf1_ n.1 b.1)))) (below_size (pb3_ HB.1 i.1 l.1 r.1))); have _ := Q_ (blk_below (g := Y) (o := .cells #[.slice I s.length M, .slice J t.length O, .slice K u.length P, .int .i64 m] 74 (0, 0)) (pp_ a.1) hb); have _ := Q_ (blk_below (g := d) (o := .cells #[.slice none 0 0, .slice none 0 0, .slice none 0 0, .int .i64 0] 56 (0, 0)) (pp_ c.1) hb); have _ := Q_ (blk_below (g := j) (o := .cells #[.slice L x.length Q, .slice none 0 0, .slice none 0 0, .int .i64 0] 56 (0, 0)) (pp_ b.1) hb); have _ := Q_ (below_step (pb3_ HB.1 i.1 l.1 r.1) hb); clear n a c b HB; rename_i n A a c b HB; (try clear hb T); obtain ⟨y, z, am⟩ := Kd.R_slice A.1; subst am; have ax := bc4_ b.1; have ay := bc4_ a.1) | ((with_reducible refine gate_callee (f := 52) rfl ?_); refine gl_ (some 14) Try.func52 #[.slice K u.length P] ?_; (with_reducible refine (laws_toBoxS.calls k _ _ u v _ ?side1 ah.1 A4.1).mono ?_); (case side1 => exact Kd.C_below ak.1 (pb3_ HB.1 i.1 l.1 r.1)); rintro e aQ ⟨aK, rfl, T, hb⟩; refine ⟨_, rfl, ?_⟩; have _ := Q_ (Kd.R_below (pr_ (Kd.R_mono (Kd.R_far (p := ⟨j, 1, none⟩) (Kd.R_types n.1 b.1 (by decide)) (fun _ hk => hk.2) (.slice y q.length z)) (fun _ h_ => h_.1))) hb); have _ := Q_ (Kd.R_below (pr_ (Kd.R_mono (Kd.R_far (p := ⟨j, 1, none⟩) (Kd.R_types A.1 b.1 (by decide)) (fun _ hk => hk.2) (.slice y q.length z)) (fun _ h_ => h_.1))) hb); have _ := Q_ (Kd.S_lower (Kd.S_new' (Kd.S_new' T (Kd.R_lt (pr_ (Kd.R_mono (Kd.R_far (p := ⟨j, 1, none⟩) (Kd.R_types n.1 b.1 (by decide)) (fun _ hk => hk.2) (.slice y q.length z)) (fun _ h_ => h_.1))))) (Kd.R_lt (pr_ (Kd.R_mono (Kd.R_far (p := ⟨j, 1, none⟩) (Kd.R_types A.1 b.1 (by decide)) (fun _ hk => hk.2) (.slice y q.length z)) (fun _ h_ => h_.1))))) (below_size (pb3_ HB.1 i.1 l.1 r.1))); have _ := Q_ (blk_below (g := Y) (o := .cells #[.slice I s.length M, .slice J t.length O, .slice K u.length P, .int .i64 m] 74 (0, 0)) (pp_ a.1) hb); have _ := Q_ (blk_below (g := d) (o := .cells #[.slice none 0 0, .slice none 0 0, .slice none 0 0, .int .i64 0] 56 (0, 0)) (pp_ c.1) hb); have _ := Q_ (blk_below (g := j) (o := .cells #[.slice L x.length Q, .slice y q.length z, .slice none 0 0, .int .i64 0] 56 (0, 0)) (pp_ b.1) hb); have _ := Q_ (below_step (pb3_ HB.1 i.1 l.1 r.1) hb); clear n A a c b HB; rename_i n A X a c b HB; (try clear hb T); obtain ⟨B, G, an⟩ := Kd.S_slice X.1; subst an; have az := bc4_ b.1; have aA := bc4_ a.1; have aB := bc4_ c.1))
 refine bodyPost_ret (results_cell_row rfl _ _ d 56 #[.slice L x.length Q, .slice y q.length z, .slice B v.length G, .int .i64 m] (0, 0) _ rfl (pp_ c.1) Try.underlying56 rfl (by kernel_rfl)) rfl ?_
 exact ⟨_, _, _, er_, pr_ (Kd.R_mono (Kd.R_far (p := ⟨d, 3, none⟩) (Kd.R_far (p := ⟨d, 2, none⟩) (Kd.R_far (p := ⟨d, 1, none⟩) (Kd.R_far (p := ⟨d, 0, none⟩) (Kd.R_far (p := ⟨j, 3, none⟩) (Kd.R_far (p := ⟨j, 2, none⟩) (Kd.R_types (Kd.R_types n.1 b.1 (by decide)) c.1 (by decide)) (fun _ hk => hk.1.2) (.slice B v.length G)) (fun _ hk => hk.1.2) (.int .i64 m)) (fun _ hk => hk.2) (.slice L x.length Q)) (fun _ hk => hk.2) (.slice y q.length z)) (fun _ hk => hk.2) (.slice B v.length G)) (fun _ hk => hk.2) (.int .i64 m)) (fun _ hk => hk.1.1.2)), pr_ (Kd.R_mono (Kd.R_far (p := ⟨d, 3, none⟩) (Kd.R_far (p := ⟨d, 2, none⟩) (Kd.R_far (p := ⟨d, 1, none⟩) (Kd.R_far (p := ⟨d, 0, none⟩) (Kd.R_far (p := ⟨j, 3, none⟩) (Kd.R_far (p := ⟨j, 2, none⟩) (Kd.R_types (Kd.R_types A.1 b.1 (by decide)) c.1 (by decide)) (fun _ hk => hk.1.2) (.slice B v.length G)) (fun _ hk => hk.1.2) (.int .i64 m)) (fun _ hk => hk.2) (.slice L x.length Q)) (fun _ hk => hk.2) (.slice y q.length z)) (fun _ hk => hk.2) (.slice B v.length G)) (fun _ hk => hk.2) (.int .i64 m)) (fun _ hk => hk.1.1.2)), by (with_reducible repeat (first | apply Kd.S_alloc | apply Kd.S_drewN | apply Kd.S_drew)); exact Kd.S_mono (Kd.S_far (p := ⟨d, 3, none⟩) (Kd.S_far (p := ⟨d, 2, none⟩) (Kd.S_far (p := ⟨d, 1, none⟩) (Kd.S_far (p := ⟨d, 0, none⟩) (Kd.S_far (p := ⟨j, 3, none⟩) (Kd.S_far (p := ⟨j, 2, none⟩) (Kd.S_types (Kd.S_types X.1 b.1 (by decide)) c.1 (by decide)) (fun _ hk => hk.1.2) (.slice B v.length G)) (fun _ hk => hk.1.2) (.int .i64 m)) (fun _ hk => hk.2) (.slice L x.length Q)) (fun _ hk => hk.2) (.slice y q.length z)) (fun _ hk => hk.2) (.slice B v.length G)) (fun _ hk => hk.2) (.int .i64 m)) (fun _ hk => ⟨hk.1.1.1.2, hk.1.1.2⟩), pb3_ HB.1 i.1 l.1 r.1⟩

/-! ### laws_toEndpointS: function 26 -/
def laws_toEndpointS.l0 : Nat → List (S74) → List (S56) → Int → Option ((List (S56)))
 | 0, _, _, _ => none
 | k + 1, c, d, b => if b < (c.length : Int) then (if 0 ≤ b then ((laws_toEndpoint.f k ((rd_T74 c b).f0) ((rd_T74 c b).f1) ((rd_T74 c b).f2) ((rd_T74 c b).f3)).bind fun a => (if b < (d.length : Int) then (laws_toEndpointS.l0 k c (d.set (b : Int).toNat (⟨a.1, a.2.1, a.2.2.1, a.2.2.2⟩ : S56)) (wrap64 (b + 1))) else (none))) else (none)) else (some d)
def laws_toEndpointS.f (k : Nat) (a : List (S74)) : Option ((List (S56))) := if 0 ≤ (a.length : Int) then (if ((a.length : Int) : Int).toNat ≤ 3518437208883 then (laws_toEndpointS.l0 k a (List.replicate ((a.length : Int) : Int).toNat z56) 0) else (none)) else (none)
theorem laws_toEndpointS.mono_l : ∀ k, (∀ a b c, LeO (laws_toEndpointS.l0 k a b c) (laws_toEndpointS.l0 (k + 1) a b c))
 | 0 => fun _ _ _ r h => by simp [laws_toEndpointS.l0] at h
 | k + 1 => by
  have ih0 := laws_toEndpointS.mono_l k
  ·intro a b c
   unfold laws_toEndpointS.l0
   exact mo2_ ih0 laws_toEndpoint.mono
theorem laws_toEndpointS.mono : ∀ a k, LeO (laws_toEndpointS.f k a) (laws_toEndpointS.f (k + 1) a) := by
 intro a k
 have ih0 := laws_toEndpointS.mono_l k
 unfold laws_toEndpointS.f
 exact mo2_ ih0 laws_toEndpoint.mono
theorem laws_toEndpointS.calls (k : Nat) (A0 : Option Addr) (c0 : Nat) (g : List (S74)) (r : List (S56)) (w : World) (hr0 : Kd.C k74 w A0 g.length g) (aH : g.length ≤ c0) (h : laws_toEndpointS.f k g = some r) :
  Calls Try.prog 26 #[.slice A0 g.length c0] w fun e w' => ∃ v0_ : Value, e = .returned (v0_) ∧ Kd.R k56 56 w' w.heap.size (fun _ => True) v0_ r ∧ Below w.heap.size w w' := by
 have hu74 := Try.underlying74
 have hu56 := Try.underlying56
 have aT := Q_ hr0
 have a6 := Q_ aH
 clear hr0 aH
 have HB := Q_ (Below.refl w.heap.size w)
 have H : (if 0 ≤ (g.length : Int) then (if ((g.length : Int) : Int).toNat ≤ 3518437208883 then (laws_toEndpointS.l0 k g (List.replicate ((g.length : Int) : Int).toNat z56) 0) else (none)) else (none)) = some r := h
 clear h
 by_cases c2 : 0 ≤ (g.length : Int)
 rotate_left
 ·rw [if_neg c2] at H
  exact nn_ H
 rw [if_pos c2] at H
 have aY := eq_true c2
 have aZ : decide (0 ≤ (g.length : Int)) = true := decide_eq_true c2
 clear c2
 by_cases c3 : ((g.length : Int) : Int).toNat ≤ 3518437208883
 rotate_left
 ·rw [if_neg c3] at H
  exact nn_ H
 rw [if_pos c3] at H
 have a0 := eq_true c3
 have a1 : decide (((g.length : Int) : Int).toNat ≤ 3518437208883) = true := decide_eq_true c3
 clear c3
 obtain ⟨aq, hy171⟩ : ∃ y_ : List (S56), y_ = (List.replicate ((g.length : Int) : Int).toNat z56) := ⟨_, rfl⟩
 replace H : (laws_toEndpointS.l0 k g aq 0) = some r := hb_ hy171 H
 have M := Q_ hy171
 clear hy171
 have H' := Q_ H
 clear H
 go_enter Try.func26, Try.ntmps26
 go_wp2_with (first | ((with_reducible refine gate_dst (N := 7) rfl ?_); refine Kd.R_make k56 _ 56 rfl (N := 7) rfl 32 _ _ rfl (g.length : Int) rfl rfl Try.underlying32 (.agg #[(.slice none 0 0), (.slice none 0 0), (.slice none 0 0), (.int .i64 0)]) 80 info56 rfl (by decide) (by omega) z56 (ok := fun _ => True) (okp := fun _ => True) (k56_mkM _ _ _ z56 (Kd.R_nil _ _ _ _ _) (Kd.R_nil _ _ _ _ _) (Kd.R_nil _ _ _ _ _)) (fun _ hk => hk) trivial dt_ (Nat.le_trans (Nat.mul_le_mul_right _ (dt_ : (g.length : Int).toNat ≤ 3518437208883)) (by omega)) (Below.refl _ _) (Nat.le_refl _) ?_; intro aI w4 O hb hg_ hnew_; clear hg_ hnew_; (first | rw [← M.1] at O | (simp only [Int.reduceToNat] at O; rw [← M.1] at O)); have _ := Q_ (Kd.R_lower O (below_size (pb_ HB.1))); have _ := Q_ (below_step (pb_ HB.1) hb); clear HB; rename_i ar HB; clear hb O))
 (try simp only [Act.put, s1_, s2_, s3_])
 go_loopg [4] k (fun kq v4 w' => ∃ (d : List (S56)) (a : Int), v4 = .int .i64 a ∧ Aside0 (laws_toEndpointS.l0 kq g d a = some r) ∧ Aside0 (kq ≤ k) ∧ Aside0 (Kd.R k56 56 w' w.heap.size (fun _ => True) aI d) ∧ Aside0 (Below w.heap.size w w'))
 case atStart => exact ⟨(aq), (0), el_, H', ⟨Nat.le_refl _⟩, ⟨pr_ ar.1⟩, ⟨pb_ HB.1⟩⟩
 clear H'
 obtain ⟨d, a, rfl, HA, aC, b, HB⟩ := hrel
 rcases gk with _ | k1
 ·exact absurd HA.1 (by simp [laws_toEndpointS.l0])
 have H := HA.1
 clear HA
 simp only [laws_toEndpointS.l0] at H
 by_cases c6 : a < (g.length : Int)
 rotate_left
 ·rw [if_neg c6] at H
  have aF := decide_eq_false c6
  clear c6
  obtain rfl := Option.some.inj H
  go_wp2
  go_ret
  exact ⟨_, er_, pr_ b.1, pb_ HB.1⟩
 rw [if_pos c6] at H
 have aF := decide_eq_true c6
 clear c6
 by_cases c7 : 0 ≤ a
 rotate_left
 ·rw [if_neg c7] at H
  exact nn_ H
 rw [if_pos c7] at H
 have a2 := decide_eq_true c7
 clear c7
 obtain ⟨⟨B, D, E, n⟩, A8, H⟩ := bs_ H
 (try dsimp only at H)
 by_cases c9 : a < (d.length : Int)
 rotate_left
 ·rw [if_neg c9] at H
  exact nn_ H
 rw [if_pos c9] at H
 have a3 := decide_eq_true c9
 clear c9
 obtain ⟨V, hy185⟩ : ∃ y_ : List (S56), y_ = (d.set (a : Int).toNat (⟨B, D, E, n⟩ : S56)) := ⟨_, rfl⟩
 replace H : (laws_toEndpointS.l0 k1 g V (wrap64 (a + 1))) = some r := hb_ hy185 H
 have au := Q_ hy185
 clear hy185
 have H' := Q_ H
 clear H
 have P : 0 ≤ (a : Int) := dt_
 have Q : a < (g.length : Int) := dt_
 obtain ⟨aU, W, Z, X, aa, Y, ab, aG, o, q, s, u, F, J, G, K, I, L⟩ := at_U74 aT.1 a P Q
 cases aG
 replace o := bt_ HB o
 replace q := bt_ HB q
 replace s := bt_ HB s
 replace u := bt_ HB u
 replace P := eq_true P
 replace Q := eq_true Q
 go_wp2_with (first | ((with_reducible refine gate_callee (f := 42) rfl ?_); refine gl_ (some 20) Try.func42 #[.agg #[.slice W ((rd_T74 g a).f0).length Z, .slice X ((rd_T74 g a).f1).length aa, .slice Y ((rd_T74 g a).f2).length ab, .int .i64 ((rd_T74 g a).f3)]] ?_; (with_reducible refine (laws_toEndpoint.calls k1 _ _ ((rd_T74 g a).f0) _ _ ((rd_T74 g a).f1) _ _ ((rd_T74 g a).f2) ((rd_T74 g a).f3) B D E n _ (cb_ J HB) F.1 (cb_ K HB) G.1 (cb_ L HB) I.1 A8.1).mono ?_); rintro e m ⟨S, T, U, rfl, av, aw, ax, hb⟩; refine ⟨_, rfl, ?_⟩; have _ := Q_ (Kd.R_mono (Kd.R_told (Kd.R_told (Kd.R_told (Kd.R_old (pr_ b.1) hb) (Kd.R_base av)) (Kd.R_base aw)) (Kd.S_base ax)) (fun _ h_ => h_.1)); have _ := Q_ (Kd.R_lower av (below_size (pb_ HB.1))); have _ := Q_ (Kd.R_lower aw (below_size (pb_ HB.1))); have _ := Q_ (Kd.S_lower ax (below_size (pb_ HB.1))); have _ := Q_ (below_step (pb_ HB.1) hb); clear b HB; rename_i b x y z HB; (try clear hb av aw ax); have ay : 0 ≤ (a : Int) := dt_; have az : (a : Int) < ((d.length : Int) : Int) := dt_; obtain ⟨c, al, am, an, gl10, a4, HG10⟩ := Kd.R_form b.1 (by omega); (first | cases am | (injection am with ea_ en_ ec_; (first | subst ea_ | (injection ea_ with ea_; subst ea_)); subst ec_; clear en_)); have A := Q_ an; have aW := Q_ HG10; clear an gl10 HG10; obtain ⟨ce10, hcl10, ao, l, hfr10⟩ := Kd.R_elem b.1 z56 (a : Int) ay az; obtain ⟨ve10_0, ve10_1, ve10_2, rfl, ge10_0, ge10_1, ge10_2⟩ := k56_openM ao; have aP : m.cell? ⟨c, (a : Int).toNat * 4, none⟩ = some (ve10_0) := l 0 _ rfl; have aQ : m.cell? ⟨c, (a : Int).toNat * 4 + 1, none⟩ = some (ve10_1) := l 1 _ rfl; have aR : m.cell? ⟨c, (a : Int).toNat * 4 + 2, none⟩ = some (ve10_2) := l 2 _ rfl; have aS : m.cell? ⟨c, (a : Int).toNat * 4 + 3, none⟩ = some (.int .i64 ((rd_T56 d a).f3)) := l 3 _ rfl; have aL : m.frozen? ⟨c, (a : Int).toNat * 4, none⟩ = false := hfr10 0; have aM : m.frozen? ⟨c, (a : Int).toNat * 4 + 1, none⟩ = false := hfr10 1; have aN : m.frozen? ⟨c, (a : Int).toNat * 4 + 2, none⟩ = false := hfr10 2; have aO : m.frozen? ⟨c, (a : Int).toNat * 4 + 3, none⟩ = false := hfr10 3; clear hcl10 l hfr10; (try clear ao); replace ay := eq_true ay; replace az := eq_true az; have n_ := Q_ (Kd.R_mono (ok' := (fun k_ => some k_ ≠ (S : Value).ownBlock ∧ some k_ ≠ (T : Value).ownBlock ∧ some k_ ≠ (U : Value).ownBlock)) b.1 (fun k_ hk => ⟨hk.1.1.2, ⟨hk.1.2, hk.2⟩⟩)); clear b; have b := n_; clear n_; have ak := Q_ (show Kd.R k56 56 m w.heap.size (fun _ => True) (.slice (some ⟨c, 0, none⟩) d.length al) d from (pr_ (Kd.R_mono b.1 (fun _ hk => trivial)))); obtain ⟨ce12, hcl12, ap, i, hfr12⟩ := Kd.R_elem ak.1 z56 (a : Int) dt_ (by have h_ : (a : Int) < ((d.length : Int) : Int) := dt_; first | exact h_ | (have e_ := (Kd.R_reads' b.1).1; omega) | simpa using h_); obtain ⟨ve12_0, ve12_1, ve12_2, rfl, ge12_0, ge12_1, ge12_2⟩ := k56_openM ap; have HP12 := Kd.R_seg ak.1 (a : Int) dt_ (by have h_ : (a : Int) < ((d.length : Int) : Int) := dt_; first | exact h_ | (have e_ := (Kd.R_reads' b.1).1; omega) | simpa using h_) (seg := [S, T, U, .int .i64 n]) (j := 0) hcl12 i (show 4 ≤ 4 from by decide) (x' := (⟨B, D, E, n⟩ : S56)) (k56_mkM _ _ _ (⟨B, D, E, n⟩ : S56) (Kd.R_mono (Kd.R_apart' (x.1) (Kd.R_typed b.1) (by decide)) (fun k_ hk => ⟨trivial, fun e_ => (hk.2) (by rw [e_]; rfl)⟩)) (Kd.R_mono (Kd.R_apart' (y.1) (Kd.R_typed b.1) (by decide)) (fun k_ hk => ⟨trivial, fun e_ => (hk.2) (by rw [e_]; rfl)⟩)) (Kd.R_mono (Kd.R_apart' ((Kd.S_R z.1)) (Kd.R_typed b.1) (by decide)) (fun k_ hk => ⟨trivial, fun e_ => (hk.2) (by rw [e_]; rfl)⟩))) (fun _ hk => hk); have ag := i 0 _ rfl; (try simp only [show (k56).sz = 4 from rfl, Nat.mul_one, Nat.add_zero] at ag); have ac := hfr12 0; (try simp only [show (k56).sz = 4 from rfl, Nat.mul_one, Nat.add_zero] at ac); have ah := i 1 _ rfl; (try simp only [show (k56).sz = 4 from rfl, Nat.mul_one, Nat.add_zero] at ah); have ad := hfr12 1; (try simp only [show (k56).sz = 4 from rfl, Nat.mul_one, Nat.add_zero] at ad); have ai := i 2 _ rfl; (try simp only [show (k56).sz = 4 from rfl, Nat.mul_one, Nat.add_zero] at ai); have ae := hfr12 2; (try simp only [show (k56).sz = 4 from rfl, Nat.mul_one, Nat.add_zero] at ae); have aj := i 3 _ rfl; (try simp only [show (k56).sz = 4 from rfl, Nat.mul_one, Nat.add_zero] at aj); have af := hfr12 3; (try simp only [show (k56).sz = 4 from rfl, Nat.mul_one, Nat.add_zero] at af); clear hcl12 i hfr12; (try clear ap)) | ((with_reducible refine gate_store (t := 56) (p := 21) rfl ?_); refine store_event (t := 56) (p := 21) (v := ?vo_w13) (w1 := ((((m.setCell ⟨c, (a : Int).toNat * 4, none⟩ (S)).setCell ⟨c, (a : Int).toNat * 4 + 1, none⟩ (T)).setCell ⟨c, (a : Int).toNat * 4 + 2, none⟩ (U)).setCell ⟨c, (a : Int).toNat * 4 + 3, none⟩ (.int .i64 n))) ?hg ?ho ?hn ?hr ?_; (case ho => rfl); (case hg => rfl); (case hn => rfl); (case hr => first | (go_simp; done) | (go_simp; rfl) | (obtain ⟨Ae_, ce_, ee_⟩ := Kd.R_slice x.1; subst ee_; obtain ⟨Ae_, ce_, ee_⟩ := Kd.R_slice y.1; subst ee_; obtain ⟨Ae_, ce_, ee_⟩ := Kd.S_slice z.1; subst ee_; go_simp; first | done | rfl)); intro aA hw; have hg : m.grownBy aA (some c) := (by rw [hw]; exact HP12.2); have hp_ : Kd.R k56 56 aA w.heap.size (fun _ => True) (.slice (some ⟨c, 0, none⟩) d.length al) V := (by rw [hw, au.1]; exact HP12.1); clear HP12; have _ := Q_ (hp_); have _ := Q_ ((by rw [hw]; exact below_set (below_set (below_set (below_set (HB.1) A.1) A.1) A.1) A.1 : Below w.heap.size w aA)); clear b HB x y z; rename_i b HB; clear hg hw hp_))
 go_roundg k1
 case measure => have := aC.1; omega
 case rel => exact ⟨(V), (wrap64 (a + 1)), el_, H', ⟨by have := aC.1; omega⟩, ⟨pr_ b.1⟩, ⟨pb_ HB.1⟩⟩

end Go.Proofs.Ytfhndlgbjhffiaa.Print
