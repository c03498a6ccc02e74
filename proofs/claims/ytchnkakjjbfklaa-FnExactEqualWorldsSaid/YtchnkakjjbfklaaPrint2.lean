-- Written by a program of this session (printx.py) out of the translation; Lean checks it.
import Derived.Test.YtchnkakjjbfklaaPrint0
import Derived.Test.YtchnkakjjbfklaaPrint1
namespace Go.Proofs.Ytchnkakjjbfklaa.Print
open Go.RowKit Go.Proofs.YtchnkakjjbfklaaW.PrintWords Go.Proofs.YtchnkakjjbfklaaW.PrintLast Go.Proofs.YtchnkakjjbfklaaW.PrintMore Go.Proofs.Ytchnkakjjbfklaa.Short
attribute [local go_sem] max2_int min2_int max_two min_two max_three min_three max_four min_four   -- for this text's walks alone
set_option linter.unusedVariables false
set_option maxHeartbeats 8000000
set_option maxRecDepth 100000
set_option linter.unusedSimpArgs false

/-! ### laws_szLoggedS: function 16 -/
def laws_szLoggedS.l0 : Nat → List (S92) → Int → Int → Option (Int)
 | 0, _, _, _ => none
 | k + 1, b, d, a => if a < (b.length : Int) then (if 0 ≤ a then ((laws_szLogged.f ((rd_T92 b a).f0) ((rd_T92 b a).f1) ((rd_T92 b a).f2) ((rd_T92 b a).f3.f0.f0) ((rd_T92 b a).f3.f0.f1) ((rd_T92 b a).f3.f0.f2) ((rd_T92 b a).f3.f1) ((rd_T92 b a).f3.f2) d).bind fun c => (if c < 0 then (some (-1)) else (laws_szLoggedS.l0 k b c (wrap64 (a + 1))))) else (none)) else (some d)
def laws_szLoggedS.f (k : Nat) (a : List (S92)) (b : Int) : Option (Int) := if (wrap64 (b - (a.length : Int))) < 0 then (some (-1)) else (laws_szLoggedS.l0 k a (wrap64 (b - (a.length : Int))) 0)
theorem laws_szLoggedS.mono_l : ∀ k, (∀ a b c, LeO (laws_szLoggedS.l0 k a b c) (laws_szLoggedS.l0 (k + 1) a b c))
 | 0 => fun _ _ _ r h => by simp [laws_szLoggedS.l0] at h
 | k + 1 => by
  have ih0 := laws_szLoggedS.mono_l k
  ·intro a b c
   unfold laws_szLoggedS.l0
   exact mo1_ ih0
theorem laws_szLoggedS.mono : ∀ a b k, LeO (laws_szLoggedS.f k a b) (laws_szLoggedS.f (k + 1) a b) := by
 intro a b k
 have ih0 := laws_szLoggedS.mono_l k
 unfold laws_szLoggedS.f
 exact mo1_ ih0
theorem laws_szLoggedS.calls (k : Nat) (R : Option Addr) (S : Nat) (b : List (S92)) (E : Int) (r : Int) (w : World) (hr0 : Kd.C k92 w R b.length b) (N : b.length ≤ S) (h : laws_szLoggedS.f k b E = some r) :
  Calls Try.prog 16 #[.slice R b.length S, .int .i64 E] w fun e w' => e = .returned (.int .i64 r) ∧ Below w.heap.size w w' := by
 have hu92 := Try.underlying92
 have P := Q_ hr0
 have V := Q_ N
 clear hr0 N
 have HB := Q_ (Below.refl w.heap.size w)
 have H : (if (wrap64 (E - (b.length : Int))) < 0 then (some (-1)) else (laws_szLoggedS.l0 k b (wrap64 (E - (b.length : Int))) 0)) = some r := h
 clear h
 by_cases F : (wrap64 (E - (b.length : Int))) < 0
 rotate_left
 ·rw [if_neg F] at H
  have K := decide_eq_false F
  clear F
  have H' := Q_ H
  clear H
  go_enter Try.func16, Try.ntmps16
  go_wp2
  go_loopg [1, 5] k (fun kq W X w' => ∃ (p : Int) (a : Int), W = .int .i64 p ∧ X = .int .i64 a ∧ Aside0 (laws_szLoggedS.l0 kq b p a = some r) ∧ Aside0 (kq ≤ k) ∧ Aside0 (Below w.heap.size w w'))
  case atStart => exact ⟨(wrap64 (E - (b.length : Int))), (0), el_, el_, H', ⟨Nat.le_refl _⟩, ⟨pb_ HB.1⟩⟩
  clear H'
  obtain ⟨p, a, rfl, rfl, HA, J, HB⟩ := hrel
  rcases gk with _ | k1
  ·exact absurd HA.1 (by simp [laws_szLoggedS.l0])
  have H := HA.1
  clear HA
  simp only [laws_szLoggedS.l0] at H
  by_cases G : a < (b.length : Int)
  rotate_left
  ·rw [if_neg G] at H
   have L := decide_eq_false G
   clear G
   obtain rfl := Option.some.inj H
   go_wp2
   go_ret
   exact ⟨er_, pb_ HB.1⟩
  rw [if_pos G] at H
  have L := decide_eq_true G
  clear G
  by_cases O : 0 ≤ a
  rotate_left
  ·rw [if_neg O] at H
   exact nn_ H
  rw [if_pos O] at H
  have T := decide_eq_true O
  clear O
  obtain ⟨y, U, H⟩ := bs_ H
  (try dsimp only at H)
  have HS_ := Q_ H
  clear H
  have v : 0 ≤ (a : Int) := dt_
  have x : a < (b.length : Int) := dt_
  obtain ⟨Q, z, B, A, D, M, d, g, i, j, l, m, n, o, q, t, s, u⟩ := at_U92 P.1 a v x
  cases M
  replace d := bt_ HB d
  replace g := bt_ HB g
  replace i := bt_ HB i
  replace j := bt_ HB j
  replace l := bt_ HB l
  replace m := bt_ HB m
  replace n := bt_ HB n
  replace o := bt_ HB o
  replace v := eq_true v
  replace x := eq_true x
  go_upto_if 25 with (first | ((with_reducible refine gate_callee (f := 60) rfl ?_); refine gl_ (some 23) Try.func60 #[.agg #[.int .i64 ((rd_T92 b a).f0), .int .i64 ((rd_T92 b a).f1), .bool ((rd_T92 b a).f2), .bool ((rd_T92 b a).f3.f0.f0), .int .i64 ((rd_T92 b a).f3.f0.f1), .slice z ((rd_T92 b a).f3.f0.f2).length B, .int .i64 ((rd_T92 b a).f3.f1), .slice A ((rd_T92 b a).f3.f2).length D], .int .i64 p] ?_; (with_reducible refine (laws_szLogged.calls ((rd_T92 b a).f0) ((rd_T92 b a).f1) ((rd_T92 b a).f2) ((rd_T92 b a).f3.f0.f0) ((rd_T92 b a).f3.f0.f1) _ _ ((rd_T92 b a).f3.f0.f2) ((rd_T92 b a).f3.f1) _ _ ((rd_T92 b a).f3.f2) p y _ (cb_ t HB) q.1 (cb_ u HB) s.1 U.1).mono ?_); rintro e Y ⟨rfl, hb⟩; refine ⟨_, rfl, ?_⟩; have _ := Q_ (below_step (pb_ HB.1) hb); clear HB; rename_i HB; (try clear hb)))
  (try simp only [Act.put, s1_, s2_, s3_])
  have H := HS_.1
  clear HS_
  by_cases I : y < 0
  rotate_left
  ·rw [if_neg I] at H
   have c := decide_eq_false I
   clear I
   (first | rw [c] | (simp only [i64_w, i32_w]; rw [c]) | skip)
   have H' := Q_ H
   clear H
   go_wp2
   go_roundg k1
   case measure => have := J.1; omega
   case rel => exact ⟨(y), (wrap64 (a + 1)), el_, el_, H', ⟨by have := J.1; omega⟩, ⟨pb_ HB.1⟩⟩
  rw [if_pos I] at H
  have c := decide_eq_true I
  clear I
  (first | rw [c] | (simp only [i64_w, i32_w]; rw [c]) | skip)
  obtain rfl := Option.some.inj H
  go_wp2
  go_ret
  exact ⟨er_, pb_ HB.1⟩
 rw [if_pos F] at H
 have K := decide_eq_true F
 clear F
 obtain rfl := Option.some.inj H
 go_enter Try.func16, Try.ntmps16
 go_wp2
 go_ret
 exact ⟨er_, pb_ HB.1⟩

/-! ### laws_szWorld: function 5 -/
def laws_szWorld.f (k : Nat) (n : List Int) (o : List Int) (u : Int) (p : List (S85)) (j : Int) (q : List Int) (l : Int) (m : Bool) (v : Int) (w : Int) (h : List (S89)) (i : List (S92)) (r : Int) (s : Int) (t : Int) (x : Int) : Option (Int) := (laws_szIntS.f n x).bind fun a => (if a < 0 then (some (-1)) else ((laws_szIntS.f o a).bind fun b => (if b < 0 then (some (-1)) else ((laws_szEndpointS.f k p b).bind fun c => (if c < 0 then (some (-1)) else ((laws_szRollout.f j q l m c).bind fun d => (if d < 0 then (some (-1)) else ((laws_szDialedS.f k h d).bind fun e => (if e < 0 then (some (-1)) else ((laws_szLoggedS.f k i e).bind fun g => (if g < 0 then (some (-1)) else (some g))))))))))))
theorem laws_szWorld.mono : ∀ h i j l m n o p q r a b c d e g k, LeO (laws_szWorld.f k h i j l m n o p q r a b c d e g) (laws_szWorld.f (k + 1) h i j l m n o p q r a b c d e g) := by
 intro h i j l m n o p q r a b c d e g k
 unfold laws_szWorld.f
 exact mo3_ laws_szDialedS.mono laws_szEndpointS.mono laws_szLoggedS.mono
theorem laws_szWorld.calls (k : Nat) (M : Option Addr) (R : Nat) (g : List Int) (O : Option Addr) (S : Nat) (i : List Int) (ab : Int) (P : Option Addr) (T : Nat) (j : List (S85)) (y : Int) (Q : Option Addr) (U : Nat) (l : List Int) (z : Int) (A : Bool) (ac : Int) (ad : Int) (B : Option Addr) (E : Nat) (c : List (S89)) (D : Option Addr) (F : Nat) (d : List (S92)) (J : Int) (K : Int) (L : Int) (a1 : Int) (r : Int) (w : World) (hr0_0 : Kd.C (Kd.int .i64) w M g.length g) (ae : g.length ≤ R) (hr0_1 : Kd.C (Kd.int .i64) w O i.length i) (af : i.length ≤ S) (hr0_3 : Kd.C k85 w P j.length j) (ag : j.length ≤ T) (hr0_5 : Kd.C (Kd.int .i64) w Q l.length l) (ah : l.length ≤ U) (hr0_10 : Kd.C k89 w B c.length c) (V : c.length ≤ E) (hr0_11 : Kd.C k92 w D d.length d) (W : d.length ≤ F) (h : laws_szWorld.f k g i ab j y l z A ac ad c d J K L a1 = some r) :
  Calls Try.prog 5 #[.agg #[.slice M g.length R, .slice O i.length S, .int .i64 ab, .slice P j.length T, .int .i64 y, .slice Q l.length U, .int .i64 z, .bool A, .int .i64 ac, .int .i64 ad, .slice B c.length E, .slice D d.length F, .int .i64 J, .int .i64 K, .int .i64 L], .int .i64 a1] w fun e w' => e = .returned (.int .i64 r) ∧ Below w.heap.size w w' := by
 have hu29 := Try.underlying29
 have hu25 := Try.underlying25
 have ar := Q_ hr0_0
 have an := Q_ ae
 clear hr0_0 ae
 have au := Q_ hr0_1
 have ao := Q_ af
 clear hr0_1 af
 have av := Q_ hr0_3
 have ap := Q_ ag
 clear hr0_3 ag
 have aw := Q_ hr0_5
 have aq := Q_ ah
 clear hr0_5 ah
 have ak := Q_ hr0_10
 have ai := Q_ V
 clear hr0_10 V
 have al := Q_ hr0_11
 have aj := Q_ W
 clear hr0_11 W
 have HB := Q_ (Below.refl w.heap.size w)
 have H : ((laws_szIntS.f g a1).bind fun q => (if q < 0 then (some (-1)) else ((laws_szIntS.f i q).bind fun s => (if s < 0 then (some (-1)) else ((laws_szEndpointS.f k j s).bind fun t => (if t < 0 then (some (-1)) else ((laws_szRollout.f y l z A t).bind fun u => (if u < 0 then (some (-1)) else ((laws_szDialedS.f k c u).bind fun v => (if v < 0 then (some (-1)) else ((laws_szLoggedS.f k d v).bind fun x => (if x < 0 then (some (-1)) else (some x))))))))))))) = some r := h
 clear h
 have HS_ := Q_ H
 clear H
 go_enter Try.func5, Try.ntmps5
 go_upto_region 1 with (first | ((with_reducible refine gate_dst (N := 2) rfl ?_); refine bx_ 2 #[.slice M g.length R, .slice O i.length S, .int .i64 ab, .slice P j.length T, .int .i64 y, .slice Q l.length U, .int .i64 z, .bool A, .int .i64 ac, .int .i64 ad, .slice B c.length E, .slice D d.length F, .int .i64 J, .int .i64 K, .int .i64 L] 29 ?_; intro aE hg w3 hbox hb; have _ := Q_ (below_step (pb_ HB.1) hb); have a := Q_ (hbox); have am := Q_ (gw_ (w := w) hg (pb_ HB.1)); have b := am; clear HB; rename_i HB; clear hb hbox hg))
 (try simp only [Act.put, s1_, s2_, s3_])
 have H := HS_.1
 clear HS_
 obtain ⟨q, A4, H⟩ := bs_ H
 (try dsimp only at H)
 have HS_ := Q_ H
 clear H
 have aJ := bc15_ a.1
 go_upto_if 10 with (first | ((with_reducible refine gate_callee (f := 12) rfl ?_); refine gl_ (some 8) Try.func12 #[.slice M g.length R, .int .i64 a1] ?_; (with_reducible refine (laws_szIntS.calls _ _ g a1 q _ (cb_ ar HB) an.1 A4.1).mono ?_); rintro e w' ⟨rfl, ⟨nd, rfl⟩⟩; refine ⟨_, rfl, ?_⟩))
 (try simp only [Act.put, s1_, s2_, s3_])
 have H := HS_.1
 clear HS_
 by_cases c6 : q < 0
 ·rw [if_pos c6] at H
  have G := decide_eq_true c6
  clear c6
  (first | rw [G] | (simp only [i64_w, i32_w]; rw [G]) | skip)
  obtain rfl := Option.some.inj H
  go_wp2
  go_ret
  exact ⟨er_, pb1_ HB.1 b.1⟩
 rw [if_neg c6] at H
 have G := decide_eq_false c6
 clear c6
 (first | rw [G] | (simp only [i64_w, i32_w]; rw [G]) | skip)
 obtain ⟨s, A7, H⟩ := bs_ H
 (try dsimp only at H)
 have HS_ := Q_ H
 clear H
 have aK := bc15_ a.1
 go_upto_if 16 with (first | ((with_reducible refine gate_callee (f := 12) rfl ?_); refine gl_ (some 14) Try.func12 #[.slice O i.length S, .int .i64 q] ?_; (with_reducible refine (laws_szIntS.calls _ _ i q s _ ?side1 ao.1 A7.1).mono ?_); (case side1 => exact pc_ (Kd.C_below au.1 (pb1_ HB.1 b.1))); rintro e w' ⟨rfl, ⟨nd, rfl⟩⟩; refine ⟨_, rfl, ?_⟩))
 (try simp only [Act.put, s1_, s2_, s3_])
 have H := HS_.1
 clear HS_
 by_cases c9 : s < 0
 ·rw [if_pos c9] at H
  have I := decide_eq_true c9
  clear c9
  (first | rw [I] | (simp only [i64_w, i32_w]; rw [I]) | skip)
  obtain rfl := Option.some.inj H
  go_wp2
  go_ret
  exact ⟨er_, pb1_ HB.1 b.1⟩
 rw [if_neg c9] at H
 have I := decide_eq_false c9
 clear c9
 (first | rw [I] | (simp only [i64_w, i32_w]; rw [I]) | skip)
 obtain ⟨t, aA, H⟩ := bs_ H
 (try dsimp only at H)
 have HS_ := Q_ H
 clear H
 have aF := bc15_ a.1
 go_upto_if 22 with (first | ((with_reducible refine gate_callee (f := 13) rfl ?_); refine gl_ (some 20) Try.func13 #[.slice P j.length T, .int .i64 s] ?_; (with_reducible refine (laws_szEndpointS.calls k _ _ j s t _ ?side1 ap.1 aA.1).mono ?_); (case side1 => exact pc_ (Kd.C_below av.1 (pb1_ HB.1 b.1))); rintro e aN ⟨rfl, hb⟩; refine ⟨_, rfl, ?_⟩; have _ := Q_ (bb_ a.1 hb); have _ := Q_ (below_step (pb1_ HB.1 b.1) hb); clear a HB; rename_i a HB; (try clear hb)))
 (try simp only [Act.put, s1_, s2_, s3_])
 have H := HS_.1
 clear HS_
 by_cases X : t < 0
 ·rw [if_pos X] at H
  have m := decide_eq_true X
  clear X
  (first | rw [m] | (simp only [i64_w, i32_w]; rw [m]) | skip)
  obtain rfl := Option.some.inj H
  go_wp2
  go_ret
  exact ⟨er_, pb1_ HB.1 b.1⟩
 rw [if_neg X] at H
 have m := decide_eq_false X
 clear X
 (first | rw [m] | (simp only [i64_w, i32_w]; rw [m]) | skip)
 obtain ⟨u, aB, H⟩ := bs_ H
 (try dsimp only at H)
 have HS_ := Q_ H
 clear H
 have aG := bc15_ a.1
 go_upto_if 28 with (first | ((with_reducible refine gate_callee (f := 14) rfl ?_); refine gl_ (some 26) Try.func14 #[.agg #[.int .i64 y, .slice Q l.length U, .int .i64 z, .bool A], .int .i64 t] ?_; (with_reducible refine (laws_szRollout.calls y _ _ l z A t u _ (cb_ aw HB) aq.1 aB.1).mono ?_); rintro e aO ⟨rfl, hb⟩; refine ⟨_, rfl, ?_⟩; have _ := Q_ (bb_ a.1 hb); have _ := Q_ (below_step (pb1_ HB.1 b.1) hb); clear a HB; rename_i a HB; (try clear hb)))
 (try simp only [Act.put, s1_, s2_, s3_])
 have H := HS_.1
 clear HS_
 by_cases Y : u < 0
 ·rw [if_pos Y] at H
  have n := decide_eq_true Y
  clear Y
  (first | rw [n] | (simp only [i64_w, i32_w]; rw [n]) | skip)
  obtain rfl := Option.some.inj H
  go_wp2
  go_ret
  exact ⟨er_, pb1_ HB.1 b.1⟩
 rw [if_neg Y] at H
 have n := decide_eq_false Y
 clear Y
 (first | rw [n] | (simp only [i64_w, i32_w]; rw [n]) | skip)
 obtain ⟨v, aC, H⟩ := bs_ H
 (try dsimp only at H)
 have HS_ := Q_ H
 clear H
 have aH := bc15_ a.1
 go_upto_if 34 with (first | ((with_reducible refine gate_callee (f := 15) rfl ?_); refine gl_ (some 32) Try.func15 #[.slice B c.length E, .int .i64 u] ?_; (with_reducible refine (laws_szDialedS.calls k _ _ c u v _ (cb_ ak HB) ai.1 aC.1).mono ?_); rintro e aP ⟨rfl, hb⟩; refine ⟨_, rfl, ?_⟩; have _ := Q_ (bb_ a.1 hb); have _ := Q_ (below_step (pb1_ HB.1 b.1) hb); clear a HB; rename_i a HB; (try clear hb)))
 (try simp only [Act.put, s1_, s2_, s3_])
 have H := HS_.1
 clear HS_
 by_cases Z : v < 0
 ·rw [if_pos Z] at H
  have o := decide_eq_true Z
  clear Z
  (first | rw [o] | (simp only [i64_w, i32_w]; rw [o]) | skip)
  obtain rfl := Option.some.inj H
  go_wp2
  go_ret
  exact ⟨er_, pb1_ HB.1 b.1⟩
 rw [if_neg Z] at H
 have o := decide_eq_false Z
 clear Z
 (first | rw [o] | (simp only [i64_w, i32_w]; rw [o]) | skip)
 obtain ⟨x, aD, H⟩ := bs_ H
 replace H : (if x < 0 then (some (-1)) else (some x)) = some r := H
 have HS_ := Q_ H
 clear H
 have aI := bc15_ a.1
 go_upto_if 40 with (first | ((with_reducible refine gate_callee (f := 16) rfl ?_); refine gl_ (some 38) Try.func16 #[.slice D d.length F, .int .i64 v] ?_; (with_reducible refine (laws_szLoggedS.calls k _ _ d v x _ (cb_ al HB) aj.1 aD.1).mono ?_); rintro e aQ ⟨rfl, hb⟩; refine ⟨_, rfl, ?_⟩; have _ := Q_ (bb_ a.1 hb); have _ := Q_ (below_step (pb1_ HB.1 b.1) hb); clear a HB; rename_i a HB; (try clear hb)))
 (try simp only [Act.put, s1_, s2_, s3_])
 have H := HS_.1
 clear HS_
 by_cases aa : x < 0
 rotate_left
 ·rw [if_neg aa] at H
  have p := decide_eq_false aa
  clear aa
  (first | rw [p] | (simp only [i64_w, i32_w]; rw [p]) | skip)
  obtain rfl := Option.some.inj H
  go_wp2
  go_ret
  exact ⟨er_, pb1_ HB.1 b.1⟩
 rw [if_pos aa] at H
 have p := decide_eq_true aa
 clear aa
 (first | rw [p] | (simp only [i64_w, i32_w]; rw [p]) | skip)
 obtain rfl := Option.some.inj H
 go_wp2
 go_ret
 exact ⟨er_, pb1_ HB.1 b.1⟩

/-! ### spec_EqualInts: function 19 -/
def spec_EqualInts.l0 : Nat → List Int → List Int → Int → Option (Bool)
 | 0, _, _, _ => none
 | k + 1, b, c, a => if a < (b.length : Int) then (if 0 ≤ a then (if a < (c.length : Int) then (if (rd b a) = (rd c a) then (spec_EqualInts.l0 k b c (wrap64 (a + 1))) else (some false)) else (none)) else (none)) else (some true)
def spec_EqualInts.f (k : Nat) (a : List Int) (b : List Int) : Option (Bool) := if (a.length : Int) = (b.length : Int) then (spec_EqualInts.l0 k a b 0) else (some false)
theorem spec_EqualInts.mono_l : ∀ k, (∀ a b c, LeO (spec_EqualInts.l0 k a b c) (spec_EqualInts.l0 (k + 1) a b c))
 | 0 => fun _ _ _ r h => by simp [spec_EqualInts.l0] at h
 | k + 1 => by
  have ih0 := spec_EqualInts.mono_l k
  ·intro a b c
   unfold spec_EqualInts.l0
   exact mo1_ ih0
theorem spec_EqualInts.mono : ∀ a b k, LeO (spec_EqualInts.f k a b) (spec_EqualInts.f (k + 1) a b) := by
 intro a b k
 have ih0 := spec_EqualInts.mono_l k
 unfold spec_EqualInts.f
 exact mo1_ ih0
theorem spec_EqualInts.calls (k : Nat) (L : Option Addr) (N : Nat) (b : List Int) (M : Option Addr) (O : Nat) (c : List Int) (r : Bool) (w : World) (hr0 : Kd.C (Kd.int .i64) w L b.length b) (G : b.length ≤ N) (hr1 : Kd.C (Kd.int .i64) w M c.length c) (I : c.length ≤ O) (h : spec_EqualInts.f k b c = some r) :
  Calls Try.prog 19 #[.slice L b.length N, .slice M c.length O] w fun e w' => e = .returned (.bool r) ∧ Drawn0 w w' := by
 have x := Q_ hr0
 have R := Q_ G
 clear hr0 G
 have y := Q_ hr1
 have S := Q_ I
 clear hr1 I
 have H : (if (b.length : Int) = (c.length : Int) then (spec_EqualInts.l0 k b c 0) else (some false)) = some r := h
 clear h
 by_cases l : (b.length : Int) = (c.length : Int)
 rotate_left
 ·rw [if_neg l] at H
  have z : ((b.length : Int) == (c.length : Int)) = false := beq_eq_false_iff_ne.mpr l
  have A : ((b.length : Int) != (c.length : Int)) = true := bne_iff_ne.mpr l
  have B : (b.length == c.length) = false := by first | simpa using l | (simp at l ⊢; omega)
  obtain rfl := Option.some.inj H
  go_enter Try.func19, Try.ntmps19
  go_wp2
  repeat (go_quiet (fail); try go_wp2)
  go_ret
  exact ⟨by first | rfl | (simp; done) | (simp [*]; done), by repeat (first | exact Drawn0.refl _ | apply Drawn0.step)⟩
 rw [if_pos l] at H
 have z : ((b.length : Int) == (c.length : Int)) = true := beq_iff_eq.mpr l
 have A : ((b.length : Int) != (c.length : Int)) = false := bne_eq_false_iff_eq.mpr l
 have B : (b.length == c.length) = true := by first | simpa using l | (simp at l ⊢; omega)
 clear l
 have H' := Q_ H
 clear H
 go_enter Try.func19, Try.ntmps19
 go_wp2
 repeat (go_quiet (fail); try go_wp2)
 go_loopg [5] k (fun kq T w' => ∃ (a : Int), T = .int .i64 a ∧ Aside0 (spec_EqualInts.l0 kq b c a = some r) ∧ Aside0 (kq ≤ k) ∧ Drawn0 w w')
 case atStart => exact ⟨(0), el_, H', ⟨Nat.le_refl _⟩, by repeat (first | exact Drawn0.refl _ | apply Drawn0.step)⟩
 clear H'
 obtain ⟨a, rfl, HA, v, ⟨m1, rfl⟩⟩ := hrel
 rcases gk with _ | k1
 ·exact absurd HA.1 (by simp [spec_EqualInts.l0])
 have H := HA.1
 clear HA
 simp only [spec_EqualInts.l0] at H
 by_cases u : a < (b.length : Int)
 rotate_left
 ·rw [if_neg u] at H
  have D := decide_eq_false u
  clear u
  obtain rfl := Option.some.inj H
  go_wp2
  repeat (go_quiet (fail); try go_wp2)
  go_ret
  exact ⟨by first | rfl | (simp; done) | (simp [*]; done), by repeat (first | exact Drawn0.refl _ | apply Drawn0.step)⟩
 rw [if_pos u] at H
 have D := decide_eq_true u
 clear u
 by_cases J : 0 ≤ a
 rotate_left
 ·rw [if_neg J] at H
  exact nn_ H
 rw [if_pos J] at H
 have P := decide_eq_true J
 clear J
 by_cases K : a < (c.length : Int)
 rotate_left
 ·rw [if_neg K] at H
  exact nn_ H
 rw [if_pos K] at H
 have Q := decide_eq_true K
 clear K
 by_cases t : (rd b a) = (rd c a)
 rotate_left
 ·rw [if_neg t] at H
  have E : ((rd b a) == (rd c a)) = false := beq_eq_false_iff_ne.mpr t
  have F : ((rd b a) != (rd c a)) = true := bne_iff_ne.mpr t
  obtain rfl := Option.some.inj H
  have d : 0 ≤ (a : Int) := dt_
  have i : a < (b.length : Int) := dt_
  obtain ⟨q, m, o⟩ := Kd.at_int x.1 a d i
  cases m
  replace d := eq_true d
  replace i := eq_true i
  have g : 0 ≤ (a : Int) := dt_
  have j : a < (c.length : Int) := dt_
  obtain ⟨s, n, p⟩ := Kd.at_int y.1 a g j
  cases n
  replace g := eq_true g
  replace j := eq_true j
  go_wp2
  repeat (go_quiet (fail); try go_wp2)
  go_ret
  exact ⟨by first | rfl | (simp; done) | (simp [*]; done), by repeat (first | exact Drawn0.refl _ | apply Drawn0.step)⟩
 rw [if_pos t] at H
 have E : ((rd b a) == (rd c a)) = true := beq_iff_eq.mpr t
 have F : ((rd b a) != (rd c a)) = false := bne_eq_false_iff_eq.mpr t
 clear t
 have H' := Q_ H
 clear H
 have d : 0 ≤ (a : Int) := dt_
 have i : a < (b.length : Int) := dt_
 obtain ⟨q, m, o⟩ := Kd.at_int x.1 a d i
 cases m
 replace d := eq_true d
 replace i := eq_true i
 have g : 0 ≤ (a : Int) := dt_
 have j : a < (c.length : Int) := dt_
 obtain ⟨s, n, p⟩ := Kd.at_int y.1 a g j
 cases n
 replace g := eq_true g
 replace j := eq_true j
 go_wp2
 repeat (go_quiet (fail); try go_wp2)
 go_roundg k1
 case measure => have := v.1; omega
 case rel => exact ⟨(wrap64 (a + 1)), el_, H', ⟨by have := v.1; omega⟩, by repeat (first | exact Drawn0.refl _ | apply Drawn0.step)⟩

/-! ### spec_EqualBoxes: function 61 -/
def spec_EqualBoxes.f (k : Nat) (g : Int) (b : List Int) (c : List Int) (h : Bool) (i : Int) (d : List Int) (e : List Int) (a : Bool) : Option (Bool) := if g = i then (if h = true then (if a = true then ((spec_EqualInts.f k b d).bind fun j => (if j = true then ((spec_EqualInts.f k c e).bind fun l => (some l)) else (some false))) else (some false)) else (if a = true then (some false) else ((spec_EqualInts.f k b d).bind fun m => (if m = true then ((spec_EqualInts.f k c e).bind fun n => (some n)) else (some false))))) else (some false)
theorem spec_EqualBoxes.mono : ∀ a b c d e g h i k, LeO (spec_EqualBoxes.f k a b c d e g h i) (spec_EqualBoxes.f (k + 1) a b c d e g h i) := by
 intro a b c d e g h i k
 unfold spec_EqualBoxes.f
 exact mo1_ spec_EqualInts.mono
theorem spec_EqualBoxes.calls (k : Nat) (o : Int) (D : Option Addr) (M : Nat) (i : List Int) (E : Option Addr) (O : Nat) (l : List Int) (x : Bool) (p : Int) (F : Option Addr) (P : Nat) (j : List Int) (G : Option Addr) (Q : Nat) (m : List Int) (q : Bool) (r : Bool) (w : World) (hr0_1 : Kd.C (Kd.int .i64) w D i.length i) (R : i.length ≤ M) (hr0_2 : Kd.C (Kd.int .i64) w E l.length l) (S : l.length ≤ O) (hr1_1 : Kd.C (Kd.int .i64) w F j.length j) (T : j.length ≤ P) (hr1_2 : Kd.C (Kd.int .i64) w G m.length m) (U : m.length ≤ Q) (h : spec_EqualBoxes.f k o i l x p j m q = some r) :
  Calls Try.prog 61 #[.agg #[.int .i64 o, .slice D i.length M, .slice E l.length O, .bool x], .agg #[.int .i64 p, .slice F j.length P, .slice G m.length Q, .bool q]] w fun e w' => e = .returned (.bool r) ∧ Below w.heap.size w w' := by
 have hu95 := Try.underlying95
 have u := Q_ hr0_1
 have s := Q_ R
 clear hr0_1 R
 have K := Q_ hr0_2
 have I := Q_ S
 clear hr0_2 S
 have v := Q_ hr1_1
 have t := Q_ T
 clear hr1_1 T
 have L := Q_ hr1_2
 have J := Q_ U
 clear hr1_2 U
 have HB := Q_ (Below.refl w.heap.size w)
 have H : (if o = p then (if x = true then (if q = true then ((spec_EqualInts.f k i j).bind fun V => (if V = true then ((spec_EqualInts.f k l m).bind fun A => (some A)) else (some false))) else (some false)) else (if q = true then (some false) else ((spec_EqualInts.f k i j).bind fun W => (if W = true then ((spec_EqualInts.f k l m).bind fun B => (some B)) else (some false))))) else (some false)) = some r := h
 clear h
 have HS_ := Q_ H
 clear H
 go_enter Try.func61, Try.ntmps61
 go_upto_region 1 with (first | ((with_reducible refine gate_dst (N := 2) rfl ?_); refine bx_ 2 #[.int .i64 o, .slice D i.length M, .slice E l.length O, .bool x] 95 ?_; intro aj hg w3 hbox hb; have _ := Q_ (below_step (pb_ HB.1) hb); have d := Q_ (hbox); have ab := Q_ (gw_ (w := w) hg (pb_ HB.1)); have c := ab; clear HB; rename_i HB; clear hb hbox hg) | ((with_reducible refine gate_dst (N := 3) rfl ?_); refine bx_ 3 #[.int .i64 p, .slice F j.length P, .slice G m.length Q, .bool q] 95 ?_; intro ak hg w4 hbox hb; have _ := Q_ (bb_ d.1 hb); have _ := Q_ (below_step (pb1_ HB.1 c.1) hb); have n := Q_ (hbox); have ac := Q_ (gw_ (w := w) hg (pb1_ HB.1 c.1)); have g := ac; have a := Q_ (nb_ hg d); have b := Q_ a.1.symm; clear d HB; rename_i d HB; clear hb hbox hg))
 (try simp only [Act.put, s1_, s2_, s3_])
 have H := HS_.1
 clear HS_
 by_cases c5 : o = p
 rotate_left
 ·rw [if_neg c5] at H
  have y : (o == p) = false := beq_eq_false_iff_ne.mpr c5
  have z : (o != p) = true := bne_iff_ne.mpr c5
  (first | rw [y] | (simp only [i64_w, i32_w]; rw [y]) | rw [z] | (have c_ := z; rw [bne] at c_; rw [c_]; clear c_) | skip)
  obtain rfl := Option.some.inj H
  have aN := a.1
  have aO := b.1
  have aL := bc4_ d.1
  have aM := bc4_ n.1
  go_wp2
  go_ret
  exact ⟨er_, pb2_ HB.1 c.1 g.1⟩
 rw [if_pos c5] at H
 have y : (o == p) = true := beq_iff_eq.mpr c5
 have z : (o != p) = false := bne_eq_false_iff_eq.mpr c5
 clear c5
 (first | rw [y] | (simp only [i64_w, i32_w]; rw [y]) | rw [z] | (have c_ := z; rw [bne] at c_; rw [c_]; clear c_) | skip)
 by_cases c9 : x = true
 rotate_left
 ·replace c9 := bf_ c9
  subst c9
  rw [if_neg ff_] at H
  by_cases X : q = true
  ·subst X
   rw [if_pos rfl] at H
   obtain rfl := Option.some.inj H
   have az := a.1
   have aF := b.1
   have al := bc4_ d.1
   have am := bc4_ n.1
   go_wp2
   go_ret
   exact ⟨er_, pb2_ HB.1 c.1 g.1⟩
  replace X := bf_ X
  subst X
  rw [if_neg ff_] at H
  obtain ⟨W, ae, H⟩ := bs_ H
  (try dsimp only at H)
  by_cases Y : W = true
  rotate_left
  ·replace Y := bf_ Y
   subst Y
   rw [if_neg ff_] at H
   obtain rfl := Option.some.inj H
   have aA := a.1
   have aG := b.1
   have an := bc4_ d.1
   have ao := bc4_ n.1
   go_wp2_with (first | (go_at_call 19; (with_reducible refine (spec_EqualInts.calls k _ _ i _ _ j false _ (cb_ u HB) s.1 (cb_ v HB) t.1 ae.1).mono ?_); rintro e w' ⟨rfl, ⟨nd, rfl⟩⟩))
   go_ret
   exact ⟨er_, pb2_ HB.1 c.1 g.1⟩
  subst Y
  rw [if_pos rfl] at H
  obtain ⟨B, ah, H⟩ := bs_ H
  replace H : (some B) = some r := H
  obtain rfl := Option.some.inj H
  have aB := a.1
  have aH := b.1
  have ap := bc4_ d.1
  have aq := bc4_ n.1
  go_wp2_with (first | (go_at_call 19; (with_reducible refine (spec_EqualInts.calls k _ _ i _ _ j true _ (cb_ u HB) s.1 (cb_ v HB) t.1 ae.1).mono ?_); rintro e w' ⟨rfl, ⟨nd, rfl⟩⟩) | (go_at_call 19; (with_reducible refine (spec_EqualInts.calls k _ _ l _ _ m B _ ?side1 I.1 ?side3 J.1 ah.1).mono ?_); (case side1 => exact pc_ (Kd.C_below K.1 (pb2_ HB.1 c.1 g.1))); (case side3 => exact pc_ (Kd.C_below L.1 (pb2_ HB.1 c.1 g.1))); rintro e w' ⟨rfl, ⟨nd, rfl⟩⟩))
  go_ret
  exact ⟨er_, pb2_ HB.1 c.1 g.1⟩
 subst c9
 rw [if_pos rfl] at H
 by_cases Z : q = true
 rotate_left
 ·replace Z := bf_ Z
  subst Z
  rw [if_neg ff_] at H
  obtain rfl := Option.some.inj H
  have aC := a.1
  have aI := b.1
  have ar := bc4_ d.1
  have au := bc4_ n.1
  go_wp2
  go_ret
  exact ⟨er_, pb2_ HB.1 c.1 g.1⟩
 subst Z
 rw [if_pos rfl] at H
 obtain ⟨V, af, H⟩ := bs_ H
 (try dsimp only at H)
 by_cases aa : V = true
 rotate_left
 ·replace aa := bf_ aa
  subst aa
  rw [if_neg ff_] at H
  obtain rfl := Option.some.inj H
  have aD := a.1
  have aJ := b.1
  have av := bc4_ d.1
  have aw := bc4_ n.1
  go_wp2_with (first | (go_at_call 19; (with_reducible refine (spec_EqualInts.calls k _ _ i _ _ j false _ (cb_ u HB) s.1 (cb_ v HB) t.1 af.1).mono ?_); rintro e w' ⟨rfl, ⟨nd, rfl⟩⟩))
  go_ret
  exact ⟨er_, pb2_ HB.1 c.1 g.1⟩
 subst aa
 rw [if_pos rfl] at H
 obtain ⟨A, ai, H⟩ := bs_ H
 replace H : (some A) = some r := H
 obtain rfl := Option.some.inj H
 have aE := a.1
 have aK := b.1
 have ax := bc4_ d.1
 have ay := bc4_ n.1
 go_wp2_with (first | (go_at_call 19; (with_reducible refine (spec_EqualInts.calls k _ _ i _ _ j true _ (cb_ u HB) s.1 (cb_ v HB) t.1 af.1).mono ?_); rintro e w' ⟨rfl, ⟨nd, rfl⟩⟩) | (go_at_call 19; (with_reducible refine (spec_EqualInts.calls k _ _ l _ _ m A _ ?side1 I.1 ?side3 J.1 ai.1).mono ?_); (case side1 => exact pc_ (Kd.C_below K.1 (pb2_ HB.1 c.1 g.1))); (case side3 => exact pc_ (Kd.C_below L.1 (pb2_ HB.1 c.1 g.1))); rintro e w' ⟨rfl, ⟨nd, rfl⟩⟩))
 go_ret
 exact ⟨er_, pb2_ HB.1 c.1 g.1⟩

end Go.Proofs.Ytchnkakjjbfklaa.Print
