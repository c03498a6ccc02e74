-- Written by a program of this session (printx.py) out of the translation; Lean checks it.
import Derived.Test.YtchnkakjjbfklaaPrint0
import Derived.Test.YtchnkakjjbfklaaPrint6
namespace Go.Proofs.Ytchnkakjjbfklaa.Print
open Go.RowKit Go.Proofs.YtchnkakjjbfklaaW.PrintWords Go.Proofs.YtchnkakjjbfklaaW.PrintLast Go.Proofs.YtchnkakjjbfklaaW.PrintMore Go.Proofs.Ytchnkakjjbfklaa.Short
attribute [local go_sem] max2_int min2_int max_two min_two max_three min_three max_four min_four   -- for this text's walks alone
set_option linter.unusedVariables false
set_option maxHeartbeats 8000000
set_option maxRecDepth 100000
set_option linter.unusedSimpArgs false

/-! ### impl_EqualRollouts: function 29 -/
def impl_EqualRollouts.f (k : Nat) (b : Int) (h : List Int) (c : Int) (d : Bool) (e : Int) (i : List Int) (g : Int) (a : Bool) : Option (Bool) := if b = e then ((slices_Equal_int_int.f k h i).bind fun j => (if j = true then (if c = g then (if d = true then (if a = true then (some true) else (some false)) else (if a = true then (some false) else (some true))) else (some false)) else (some false))) else (some false)
theorem impl_EqualRollouts.mono : ∀ a b c d e g h i k, LeO (impl_EqualRollouts.f k a b c d e g h i) (impl_EqualRollouts.f (k + 1) a b c d e g h i) := by
 intro a b c d e g h i k
 unfold impl_EqualRollouts.f
 exact mo1_ slices_Equal_int_int.mono
theorem impl_EqualRollouts.calls (k : Nat) (m : Int) (B : Option Addr) (E : Nat) (d : List Int) (n : Int) (x : Bool) (o : Int) (D : Option Addr) (F : Nat) (g : List Int) (p : Int) (v : Bool) (r : Bool) (w : World) (hr0_1 : Kd.C (Kd.int .i64) w B d.length d) (G : d.length ≤ E) (hr1_1 : Kd.C (Kd.int .i64) w D g.length g) (I : g.length ≤ F) (h : impl_EqualRollouts.f k m d n x o g p v = some r) :
  Calls Try.prog 29 #[.agg #[.int .i64 m, .slice B d.length E, .int .i64 n, .bool x], .agg #[.int .i64 o, .slice D g.length F, .int .i64 p, .bool v]] w fun e w' => e = .returned (.bool r) ∧ Below w.heap.size w w' := by
 have hu33 := Try.underlying33
 have t := Q_ hr0_1
 have q := Q_ G
 clear hr0_1 G
 have u := Q_ hr1_1
 have s := Q_ I
 clear hr1_1 I
 have HB := Q_ (Below.refl w.heap.size w)
 have H : (if m = o then ((slices_Equal_int_int.f k d g).bind fun J => (if J = true then (if n = p then (if x = true then (if v = true then (some true) else (some false)) else (if v = true then (some false) else (some true))) else (some false)) else (some false))) else (some false)) = some r := h
 clear h
 have HS_ := Q_ H
 clear H
 go_enter Try.func29, Try.ntmps29
 go_upto_region 1 with (first | ((with_reducible refine gate_dst (N := 2) rfl ?_); refine bx_ 2 #[.int .i64 m, .slice B d.length E, .int .i64 n, .bool x] 33 ?_; intro V hg w3 hbox hb; have _ := Q_ (below_step (pb_ HB.1) hb); have c := Q_ (hbox); have P := Q_ (gw_ (w := w) hg (pb_ HB.1)); have i := P; clear HB; rename_i HB; clear hb hbox hg) | ((with_reducible refine gate_dst (N := 3) rfl ?_); refine bx_ 3 #[.int .i64 o, .slice D g.length F, .int .i64 p, .bool v] 33 ?_; intro W hg w4 hbox hb; have _ := Q_ (bb_ c.1 hb); have _ := Q_ (below_step (pb1_ HB.1 i.1) hb); have j := Q_ (hbox); have Q := Q_ (gw_ (w := w) hg (pb1_ HB.1 i.1)); have l := Q; have a := Q_ (nb_ hg c); have b := Q_ a.1.symm; clear c HB; rename_i c HB; clear hb hbox hg))
 (try simp only [Act.put, s1_, s2_, s3_])
 have H := HS_.1
 clear HS_
 by_cases T : m = o
 rotate_left
 ·rw [if_neg T] at H
  have y : (m == o) = false := beq_eq_false_iff_ne.mpr T
  have z : (m != o) = true := bne_iff_ne.mpr T
  (first | rw [y] | (simp only [i64_w, i32_w]; rw [y]) | rw [z] | (have c_ := z; rw [bne] at c_; rw [c_]; clear c_) | skip)
  obtain rfl := Option.some.inj H
  have az := a.1
  have aA := b.1
  have ax := bc4_ c.1
  have ay := bc4_ j.1
  go_wp2
  go_ret
  exact ⟨er_, pb2_ HB.1 i.1 l.1⟩
 rw [if_pos T] at H
 have y : (m == o) = true := beq_iff_eq.mpr T
 have z : (m != o) = false := bne_eq_false_iff_eq.mpr T
 clear T
 (first | rw [y] | (simp only [i64_w, i32_w]; rw [y]) | rw [z] | (have c_ := z; rw [bne] at c_; rw [c_]; clear c_) | skip)
 obtain ⟨J, U, H⟩ := bs_ H
 (try dsimp only at H)
 by_cases K : J = true
 rotate_left
 ·replace K := bf_ K
  subst K
  rw [if_neg ff_] at H
  obtain rfl := Option.some.inj H
  have aj := a.1
  have ap := b.1
  have X := bc4_ c.1
  have Y := bc4_ j.1
  go_wp2_with (first | (go_at_call 26; (with_reducible refine (slices_Equal_int_int.calls k _ _ d _ _ g false _ (cb_ t HB) q.1 (cb_ u HB) s.1 U.1).mono ?_); rintro e w' ⟨rfl, ⟨nd, rfl⟩⟩))
  go_ret
  exact ⟨er_, pb2_ HB.1 i.1 l.1⟩
 subst K
 rw [if_pos rfl] at H
 by_cases A : n = p
 rotate_left
 ·rw [if_neg A] at H
  have R : (n == p) = false := beq_eq_false_iff_ne.mpr A
  have S : (n != p) = true := bne_iff_ne.mpr A
  obtain rfl := Option.some.inj H
  have ak := a.1
  have aq := b.1
  have Z := bc4_ c.1
  have aa := bc4_ j.1
  go_wp2_with (first | (go_at_call 26; (with_reducible refine (slices_Equal_int_int.calls k _ _ d _ _ g true _ (cb_ t HB) q.1 (cb_ u HB) s.1 U.1).mono ?_); rintro e w' ⟨rfl, ⟨nd, rfl⟩⟩))
  go_ret
  exact ⟨er_, pb2_ HB.1 i.1 l.1⟩
 rw [if_pos A] at H
 have R : (n == p) = true := beq_iff_eq.mpr A
 have S : (n != p) = false := bne_eq_false_iff_eq.mpr A
 clear A
 by_cases L : x = true
 rotate_left
 ·replace L := bf_ L
  subst L
  rw [if_neg ff_] at H
  by_cases M : v = true
  rotate_left
  ·replace M := bf_ M
   subst M
   rw [if_neg ff_] at H
   obtain rfl := Option.some.inj H
   have al := a.1
   have ar := b.1
   have ab := bc4_ c.1
   have ac := bc4_ j.1
   go_wp2_with (first | (go_at_call 26; (with_reducible refine (slices_Equal_int_int.calls k _ _ d _ _ g true _ (cb_ t HB) q.1 (cb_ u HB) s.1 U.1).mono ?_); rintro e w' ⟨rfl, ⟨nd, rfl⟩⟩))
   go_ret
   exact ⟨er_, pb2_ HB.1 i.1 l.1⟩
  subst M
  rw [if_pos rfl] at H
  obtain rfl := Option.some.inj H
  have am := a.1
  have au := b.1
  have ad := bc4_ c.1
  have ae := bc4_ j.1
  go_wp2_with (first | (go_at_call 26; (with_reducible refine (slices_Equal_int_int.calls k _ _ d _ _ g true _ (cb_ t HB) q.1 (cb_ u HB) s.1 U.1).mono ?_); rintro e w' ⟨rfl, ⟨nd, rfl⟩⟩))
  go_ret
  exact ⟨er_, pb2_ HB.1 i.1 l.1⟩
 subst L
 rw [if_pos rfl] at H
 by_cases O : v = true
 rotate_left
 ·replace O := bf_ O
  subst O
  rw [if_neg ff_] at H
  obtain rfl := Option.some.inj H
  have an := a.1
  have av := b.1
  have af := bc4_ c.1
  have ag := bc4_ j.1
  go_wp2_with (first | (go_at_call 26; (with_reducible refine (slices_Equal_int_int.calls k _ _ d _ _ g true _ (cb_ t HB) q.1 (cb_ u HB) s.1 U.1).mono ?_); rintro e w' ⟨rfl, ⟨nd, rfl⟩⟩))
  go_ret
  exact ⟨er_, pb2_ HB.1 i.1 l.1⟩
 subst O
 rw [if_pos rfl] at H
 obtain rfl := Option.some.inj H
 have ao := a.1
 have aw := b.1
 have ah := bc4_ c.1
 have ai := bc4_ j.1
 go_wp2_with (first | (go_at_call 26; (with_reducible refine (slices_Equal_int_int.calls k _ _ d _ _ g true _ (cb_ t HB) q.1 (cb_ u HB) s.1 U.1).mono ?_); rintro e w' ⟨rfl, ⟨nd, rfl⟩⟩))
 go_ret
 exact ⟨er_, pb2_ HB.1 i.1 l.1⟩

/-! ### impl_EqualDeals: function 68 -/
def impl_EqualDeals.f (k : Nat) (g : Bool) (a : Int) (d : List Int) (b : Bool) (c : Int) (e : List Int) : Option (Bool) := if g = true then (if b = true then (if a = c then ((slices_Equal_int_int.f k d e).bind fun h => (some h)) else (some false)) else (some false)) else (if b = true then (some false) else (if a = c then ((slices_Equal_int_int.f k d e).bind fun i => (some i)) else (some false)))
theorem impl_EqualDeals.mono : ∀ a b c d e g k, LeO (impl_EqualDeals.f k a b c d e g) (impl_EqualDeals.f (k + 1) a b c d e g) := by
 intro a b c d e g k
 unfold impl_EqualDeals.f
 exact mo1_ slices_Equal_int_int.mono
theorem impl_EqualDeals.calls (k : Nat) (s : Bool) (c : Int) (y : Option Addr) (F : Nat) (j : List Int) (o : Bool) (d : Int) (z : Option Addr) (G : Nat) (l : List Int) (r : Bool) (w : World) (hr0_2 : Kd.C (Kd.int .i64) w y j.length j) (I : j.length ≤ F) (hr1_2 : Kd.C (Kd.int .i64) w z l.length l) (J : l.length ≤ G) (h : impl_EqualDeals.f k s c j o d l = some r) :
  Calls Try.prog 68 #[.agg #[.bool s, .int .i64 c, .slice y j.length F], .agg #[.bool o, .int .i64 d, .slice z l.length G]] w fun e w' => e = .returned (.bool r) ∧ Below w.heap.size w w' := by
 have hu53 := Try.underlying53
 have D := Q_ hr0_2
 have A := Q_ I
 clear hr0_2 I
 have E := Q_ hr1_2
 have B := Q_ J
 clear hr1_2 J
 have HB := Q_ (Below.refl w.heap.size w)
 have H : (if s = true then (if o = true then (if c = d then ((slices_Equal_int_int.f k j l).bind fun v => (some v)) else (some false)) else (some false)) else (if o = true then (some false) else (if c = d then ((slices_Equal_int_int.f k j l).bind fun x => (some x)) else (some false)))) = some r := h
 clear h
 have HS_ := Q_ H
 clear H
 go_enter Try.func68, Try.ntmps68
 go_upto_region 1 with (first | ((with_reducible refine gate_dst (N := 2) rfl ?_); refine bx_ 2 #[.bool s, .int .i64 c, .slice y j.length F] 53 ?_; intro U hg w3 hbox hb; have _ := Q_ (below_step (pb_ HB.1) hb); have g := Q_ (hbox); have L := Q_ (gw_ (w := w) hg (pb_ HB.1)); have i := L; clear HB; rename_i HB; clear hb hbox hg) | ((with_reducible refine gate_dst (N := 3) rfl ?_); refine bx_ 3 #[.bool o, .int .i64 d, .slice z l.length G] 53 ?_; intro V hg w4 hbox hb; have _ := Q_ (bb_ g.1 hb); have _ := Q_ (below_step (pb1_ HB.1 i.1) hb); have m := Q_ (hbox); have M := Q_ (gw_ (w := w) hg (pb1_ HB.1 i.1)); have n := M; have a := Q_ (nb_ hg g); have b := Q_ a.1.symm; clear g HB; rename_i g HB; clear hb hbox hg))
 (try simp only [Act.put, s1_, s2_, s3_])
 have H := HS_.1
 clear HS_
 by_cases Q : s = true
 rotate_left
 ·replace Q := bf_ Q
  subst Q
  rw [if_neg ff_] at H
  by_cases R : o = true
  ·subst R
   rw [if_pos rfl] at H
   obtain rfl := Option.some.inj H
   have au := a.1
   have av := b.1
   have aq := bc3_ g.1
   have ar := bc3_ m.1
   go_wp2
   go_ret
   exact ⟨er_, pb2_ HB.1 i.1 n.1⟩
  replace R := bf_ R
  subst R
  rw [if_neg ff_] at H
  by_cases t : c = d
  rotate_left
  ·rw [if_neg t] at H
   have p : (c == d) = false := beq_eq_false_iff_ne.mpr t
   have q : (c != d) = true := bne_iff_ne.mpr t
   (first | rw [p] | (simp only [i64_w, i32_w]; rw [p]) | rw [q] | (have c_ := q; rw [bne] at c_; rw [c_]; clear c_) | skip)
   obtain rfl := Option.some.inj H
   have ag := a.1
   have al := b.1
   have W := bc3_ g.1
   have X := bc3_ m.1
   go_wp2
   go_ret
   exact ⟨er_, pb2_ HB.1 i.1 n.1⟩
  rw [if_pos t] at H
  have p : (c == d) = true := beq_iff_eq.mpr t
  have q : (c != d) = false := bne_eq_false_iff_eq.mpr t
  clear t
  (first | rw [p] | (simp only [i64_w, i32_w]; rw [p]) | rw [q] | (have c_ := q; rw [bne] at c_; rw [c_]; clear c_) | skip)
  obtain ⟨x, S, H⟩ := bs_ H
  replace H : (some x) = some r := H
  obtain rfl := Option.some.inj H
  have ah := a.1
  have am := b.1
  have Y := bc3_ g.1
  have Z := bc3_ m.1
  go_wp2_with (first | (go_at_call 26; (with_reducible refine (slices_Equal_int_int.calls k _ _ j _ _ l x _ (cb_ D HB) A.1 (cb_ E HB) B.1 S.1).mono ?_); rintro e w' ⟨rfl, ⟨nd, rfl⟩⟩))
  go_ret
  exact ⟨er_, pb2_ HB.1 i.1 n.1⟩
 subst Q
 rw [if_pos rfl] at H
 by_cases K : o = true
 rotate_left
 ·replace K := bf_ K
  subst K
  rw [if_neg ff_] at H
  obtain rfl := Option.some.inj H
  have ai := a.1
  have an := b.1
  have aa := bc3_ g.1
  have ab := bc3_ m.1
  go_wp2
  go_ret
  exact ⟨er_, pb2_ HB.1 i.1 n.1⟩
 subst K
 rw [if_pos rfl] at H
 by_cases u : c = d
 rotate_left
 ·rw [if_neg u] at H
  have O : (c == d) = false := beq_eq_false_iff_ne.mpr u
  have P : (c != d) = true := bne_iff_ne.mpr u
  obtain rfl := Option.some.inj H
  have aj := a.1
  have ao := b.1
  have ac := bc3_ g.1
  have ad := bc3_ m.1
  go_wp2
  go_ret
  exact ⟨er_, pb2_ HB.1 i.1 n.1⟩
 rw [if_pos u] at H
 have O : (c == d) = true := beq_iff_eq.mpr u
 have P : (c != d) = false := bne_eq_false_iff_eq.mpr u
 clear u
 obtain ⟨v, T, H⟩ := bs_ H
 replace H : (some v) = some r := H
 obtain rfl := Option.some.inj H
 have ak := a.1
 have ap := b.1
 have ae := bc3_ g.1
 have af := bc3_ m.1
 go_wp2_with (first | (go_at_call 26; (with_reducible refine (slices_Equal_int_int.calls k _ _ j _ _ l v _ (cb_ D HB) A.1 (cb_ E HB) B.1 T.1).mono ?_); rintro e w' ⟨rfl, ⟨nd, rfl⟩⟩))
 go_ret
 exact ⟨er_, pb2_ HB.1 i.1 n.1⟩

/-! ### impl_EqualDialed: function 31 -/
def impl_EqualDialed.f (k : Nat) (a : Bool) (b : Int) (h : List Int) (c : Int) (i : List Int) (d : Bool) (e : Int) (j : List Int) (g : Int) (l : List Int) : Option (Bool) := (impl_EqualDeals.f k a b h d e j).bind fun m => (if m = true then (if c = g then ((slices_Equal_int_int.f k i l).bind fun n => (some n)) else (some false)) else (some false))
theorem impl_EqualDialed.mono : ∀ a b c d e g h i j l k, LeO (impl_EqualDialed.f k a b c d e g h i j l) (impl_EqualDialed.f (k + 1) a b c d e g h i j l) := by
 intro a b c d e g h i j l k
 unfold impl_EqualDialed.f
 exact mo2_ impl_EqualDeals.mono slices_Equal_int_int.mono
theorem impl_EqualDialed.calls (k : Nat) (j : Bool) (l : Int) (y : Option Addr) (A : Nat) (c : List Int) (p : Int) (K : Option Addr) (M : Nat) (t : List Int) (m : Bool) (n : Int) (z : Option Addr) (B : Nat) (d : List Int) (q : Int) (L : Option Addr) (O : Nat) (u : List Int) (r : Bool) (w : World) (hr0_2 : Kd.C (Kd.int .i64) w y c.length c) (P : c.length ≤ A) (hr0_4 : Kd.C (Kd.int .i64) w K t.length t) (Q : t.length ≤ M) (hr1_2 : Kd.C (Kd.int .i64) w z d.length d) (R : d.length ≤ B) (hr1_4 : Kd.C (Kd.int .i64) w L u.length u) (S : u.length ≤ O) (h : impl_EqualDialed.f k j l c p t m n d q u = some r) :
  Calls Try.prog 31 #[.agg #[.bool j, .int .i64 l, .slice y c.length A, .int .i64 p, .slice K t.length M], .agg #[.bool m, .int .i64 n, .slice z d.length B, .int .i64 q, .slice L u.length O]] w fun e w' => e = .returned (.bool r) ∧ Below w.heap.size w w' := by
 have hu55 := Try.underlying55
 have hu53 := Try.underlying53
 have F := Q_ hr0_2
 have D := Q_ P
 clear hr0_2 P
 have Y := Q_ hr0_4
 have W := Q_ Q
 clear hr0_4 Q
 have G := Q_ hr1_2
 have E := Q_ R
 clear hr1_2 R
 have Z := Q_ hr1_4
 have X := Q_ S
 clear hr1_4 S
 have HB := Q_ (Below.refl w.heap.size w)
 have H : ((impl_EqualDeals.f k j l c m n d).bind fun T => (if T = true then (if p = q then ((slices_Equal_int_int.f k t u).bind fun J => (some J)) else (some false)) else (some false))) = some r := h
 clear h
 have HS_ := Q_ H
 clear H
 go_enter Try.func31, Try.ntmps31
 go_upto_region 1 with (first | ((with_reducible refine gate_dst (N := 2) rfl ?_); refine bx_ 2 #[.bool j, .int .i64 l, .slice y c.length A, .int .i64 p, .slice K t.length M] 55 ?_; intro ad hg w3 hbox hb; have _ := Q_ (below_step (pb_ HB.1) hb); have a := Q_ (hbox); have U := Q_ (gw_ (w := w) hg (pb_ HB.1)); have i := U; clear HB; rename_i HB; clear hb hbox hg) | ((with_reducible refine gate_dst (N := 3) rfl ?_); refine bx_ 3 #[.bool m, .int .i64 n, .slice z d.length B, .int .i64 q, .slice L u.length O] 55 ?_; intro ae hg w4 hbox hb; have _ := Q_ (bb_ a.1 hb); have _ := Q_ (below_step (pb1_ HB.1 i.1) hb); have b := Q_ (hbox); have V := Q_ (gw_ (w := w) hg (pb1_ HB.1 i.1)); have s := V; have g := Q_ (nb_ hg a); have o := Q_ g.1.symm; clear a HB; rename_i a HB; clear hb hbox hg))
 (try simp only [Act.put, s1_, s2_, s3_])
 have H := HS_.1
 clear HS_
 obtain ⟨T, A5, H⟩ := bs_ H
 (try dsimp only at H)
 by_cases c6 : T = true
 rotate_left
 ·replace c6 := bf_ c6
  subst c6
  rw [if_neg ff_] at H
  obtain rfl := Option.some.inj H
  have av := g.1
  have aw := o.1
  have ar := bc5_ a.1
  have au := bc5_ b.1
  go_wp2_with (first | ((with_reducible refine gate_callee (f := 68) rfl ?_); refine gl_ (some 9) Try.func68 #[.agg #[.bool j, .int .i64 l, .slice y c.length A], .agg #[.bool m, .int .i64 n, .slice z d.length B]] ?_; (with_reducible refine (impl_EqualDeals.calls k j l _ _ c m n _ _ d false _ (cb_ F HB) D.1 (cb_ G HB) E.1 A5.1).mono ?_); rintro e ax ⟨rfl, hb⟩; refine ⟨_, rfl, ?_⟩; have _ := Q_ (bb_ a.1 hb); have _ := Q_ (bb_ b.1 hb); have _ := Q_ (below_step (pb2_ HB.1 i.1 s.1) hb); clear a b HB; rename_i a b HB; (try clear hb)))
  go_ret
  exact ⟨er_, pb2_ HB.1 i.1 s.1⟩
 subst c6
 rw [if_pos rfl] at H
 by_cases I : p = q
 rotate_left
 ·rw [if_neg I] at H
  have v : (p == q) = false := beq_eq_false_iff_ne.mpr I
  have x : (p != q) = true := bne_iff_ne.mpr I
  (first | rw [v] | (simp only [i64_w, i32_w]; rw [v]) | rw [x] | (have c_ := x; rw [bne] at c_; rw [c_]; clear c_) | skip)
  obtain rfl := Option.some.inj H
  have an := g.1
  have ap := o.1
  have af := bc5_ a.1
  have ag := bc5_ b.1
  go_wp2_with (first | ((with_reducible refine gate_callee (f := 68) rfl ?_); refine gl_ (some 9) Try.func68 #[.agg #[.bool j, .int .i64 l, .slice y c.length A], .agg #[.bool m, .int .i64 n, .slice z d.length B]] ?_; (with_reducible refine (impl_EqualDeals.calls k j l _ _ c m n _ _ d true _ (cb_ F HB) D.1 (cb_ G HB) E.1 A5.1).mono ?_); rintro e ay ⟨rfl, hb⟩; refine ⟨_, rfl, ?_⟩; have _ := Q_ (bb_ a.1 hb); have _ := Q_ (bb_ b.1 hb); have _ := Q_ (below_step (pb2_ HB.1 i.1 s.1) hb); clear a b HB; rename_i a b HB; (try clear hb); have ah := bc5_ a.1; have ai := bc5_ b.1))
  go_ret
  exact ⟨er_, pb2_ HB.1 i.1 s.1⟩
 rw [if_pos I] at H
 have v : (p == q) = true := beq_iff_eq.mpr I
 have x : (p != q) = false := bne_eq_false_iff_eq.mpr I
 clear I
 (first | rw [v] | (simp only [i64_w, i32_w]; rw [v]) | rw [x] | (have c_ := x; rw [bne] at c_; rw [c_]; clear c_) | skip)
 obtain ⟨J, ab, H⟩ := bs_ H
 replace H : (some J) = some r := H
 obtain rfl := Option.some.inj H
 have ao := g.1
 have aq := o.1
 have aj := bc5_ a.1
 have ak := bc5_ b.1
 go_wp2_with (first | ((with_reducible refine gate_callee (f := 68) rfl ?_); refine gl_ (some 9) Try.func68 #[.agg #[.bool j, .int .i64 l, .slice y c.length A], .agg #[.bool m, .int .i64 n, .slice z d.length B]] ?_; (with_reducible refine (impl_EqualDeals.calls k j l _ _ c m n _ _ d true _ (cb_ F HB) D.1 (cb_ G HB) E.1 A5.1).mono ?_); rintro e az ⟨rfl, hb⟩; refine ⟨_, rfl, ?_⟩; have _ := Q_ (bb_ a.1 hb); have _ := Q_ (bb_ b.1 hb); have _ := Q_ (below_step (pb2_ HB.1 i.1 s.1) hb); clear a b HB; rename_i a b HB; (try clear hb); have al := bc5_ a.1; have am := bc5_ b.1) | (go_at_call 26; (with_reducible refine (slices_Equal_int_int.calls k _ _ t _ _ u J _ (cb_ Y HB) W.1 (cb_ Z HB) X.1 ab.1).mono ?_); rintro e w' ⟨rfl, ⟨nd, rfl⟩⟩))
 go_ret
 exact ⟨er_, pb2_ HB.1 i.1 s.1⟩

/-! ### impl_equalLogged: function 33 -/
def impl_equalLogged.f (k : Nat) (n : Int) (o : Int) (p : Bool) (a : Bool) (b : Int) (i : List Int) (c : Int) (j : List Int) (q : Int) (r : Int) (d : Bool) (e : Bool) (g : Int) (l : List Int) (h : Int) (m : List Int) : Option (Bool) := if n = q then (if o = r then (if p = true then (if d = true then ((impl_EqualDialed.f k a b i c j e g l h m).bind fun s => (some s)) else (some false)) else (if d = true then (some false) else ((impl_EqualDialed.f k a b i c j e g l h m).bind fun t => (some t)))) else (some false)) else (some false)
theorem impl_equalLogged.mono : ∀ h i j l m n o p q r a b c d e g k, LeO (impl_equalLogged.f k h i j l m n o p q r a b c d e g) (impl_equalLogged.f (k + 1) h i j l m n o p q r a b c d e g) := by
 intro h i j l m n o p q r a b c d e g k
 unfold impl_equalLogged.f
 exact mo1_ impl_EqualDialed.mono
theorem impl_equalLogged.calls (k : Nat) (o : Int) (p : Int) (B : Bool) (t : Bool) (u : Int) (I : Option Addr) (V : Nat) (j : List Int) (v : Int) (J : Option Addr) (W : Nat) (l : List Int) (q : Int) (s : Int) (x : Bool) (y : Bool) (z : Int) (K : Option Addr) (X : Nat) (m : List Int) (A : Int) (L : Option Addr) (Y : Nat) (n : List Int) (r : Bool) (w : World) (hr0_5 : Kd.C (Kd.int .i64) w I j.length j) (Z : j.length ≤ V) (hr0_7 : Kd.C (Kd.int .i64) w J l.length l) (aa : l.length ≤ W) (hr1_5 : Kd.C (Kd.int .i64) w K m.length m) (ab : m.length ≤ X) (hr1_7 : Kd.C (Kd.int .i64) w L n.length n) (ac : n.length ≤ Y) (h : impl_equalLogged.f k o p B t u j v l q s x y z m A n = some r) :
  Calls Try.prog 33 #[.agg #[.int .i64 o, .int .i64 p, .bool B, .bool t, .int .i64 u, .slice I j.length V, .int .i64 v, .slice J l.length W], .agg #[.int .i64 q, .int .i64 s, .bool x, .bool y, .int .i64 z, .slice K m.length X, .int .i64 A, .slice L n.length Y]] w fun e w' => e = .returned (.bool r) ∧ Below w.heap.size w w' := by
 have hu57 := Try.underlying57
 have hu55 := Try.underlying55
 have R := Q_ hr0_5
 have M := Q_ Z
 clear hr0_5 Z
 have S := Q_ hr0_7
 have O := Q_ aa
 clear hr0_7 aa
 have T := Q_ hr1_5
 have P := Q_ ab
 clear hr1_5 ab
 have U := Q_ hr1_7
 have Q := Q_ ac
 clear hr1_7 ac
 have HB := Q_ (Below.refl w.heap.size w)
 have H : (if o = q then (if p = s then (if B = true then (if x = true then ((impl_EqualDialed.f k t u j v l y z m A n).bind fun F => (some F)) else (some false)) else (if x = true then (some false) else ((impl_EqualDialed.f k t u j v l y z m A n).bind fun G => (some G)))) else (some false)) else (some false)) = some r := h
 clear h
 have HS_ := Q_ H
 clear H
 go_enter Try.func33, Try.ntmps33
 go_upto_region 1 with (first | ((with_reducible refine gate_dst (N := 2) rfl ?_); refine bx_ 2 #[.int .i64 o, .int .i64 p, .bool B, .bool t, .int .i64 u, .slice I j.length V, .int .i64 v, .slice J l.length W] 57 ?_; intro ao hg w3 hbox hb; have _ := Q_ (below_step (pb_ HB.1) hb); have a := Q_ (hbox); have ag := Q_ (gw_ (w := w) hg (pb_ HB.1)); have g := ag; clear HB; rename_i HB; clear hb hbox hg) | ((with_reducible refine gate_dst (N := 3) rfl ?_); refine bx_ 3 #[.int .i64 q, .int .i64 s, .bool x, .bool y, .int .i64 z, .slice K m.length X, .int .i64 A, .slice L n.length Y] 57 ?_; intro ap hg w4 hbox hb; have _ := Q_ (bb_ a.1 hb); have _ := Q_ (below_step (pb1_ HB.1 g.1) hb); have d := Q_ (hbox); have ah := Q_ (gw_ (w := w) hg (pb1_ HB.1 g.1)); have i := ah; have b := Q_ (nb_ hg a); have c := Q_ b.1.symm; clear a HB; rename_i a HB; clear hb hbox hg))
 (try simp only [Act.put, s1_, s2_, s3_])
 have H := HS_.1
 clear HS_
 by_cases c5 : o = q
 rotate_left
 ·rw [if_neg c5] at H
  have D : (o == q) = false := beq_eq_false_iff_ne.mpr c5
  have E : (o != q) = true := bne_iff_ne.mpr c5
  (first | rw [D] | (simp only [i64_w, i32_w]; rw [D]) | rw [E] | (have c_ := E; rw [bne] at c_; rw [c_]; clear c_) | skip)
  obtain rfl := Option.some.inj H
  have aO := b.1
  have aP := c.1
  have aM := bc8_ a.1
  have aN := bc8_ d.1
  go_wp2
  go_ret
  exact ⟨er_, pb2_ HB.1 g.1 i.1⟩
 rw [if_pos c5] at H
 have D : (o == q) = true := beq_iff_eq.mpr c5
 have E : (o != q) = false := bne_eq_false_iff_eq.mpr c5
 clear c5
 (first | rw [D] | (simp only [i64_w, i32_w]; rw [D]) | rw [E] | (have c_ := E; rw [bne] at c_; rw [c_]; clear c_) | skip)
 by_cases c9 : p = s
 rotate_left
 ·rw [if_neg c9] at H
  have ak : (p == s) = false := beq_eq_false_iff_ne.mpr c9
  have al : (p != s) = true := bne_iff_ne.mpr c9
  obtain rfl := Option.some.inj H
  have aC := b.1
  have aH := c.1
  have aq := bc8_ a.1
  have ar := bc8_ d.1
  go_wp2
  go_ret
  exact ⟨er_, pb2_ HB.1 g.1 i.1⟩
 rw [if_pos c9] at H
 have ak : (p == s) = true := beq_iff_eq.mpr c9
 have al : (p != s) = false := bne_eq_false_iff_eq.mpr c9
 clear c9
 by_cases ad : B = true
 rotate_left
 ·replace ad := bf_ ad
  subst ad
  rw [if_neg ff_] at H
  by_cases ae : x = true
  ·subst ae
   rw [if_pos rfl] at H
   obtain rfl := Option.some.inj H
   have aD := b.1
   have aI := c.1
   have au := bc8_ a.1
   have av := bc8_ d.1
   go_wp2
   go_ret
   exact ⟨er_, pb2_ HB.1 g.1 i.1⟩
  replace ae := bf_ ae
  subst ae
  rw [if_neg ff_] at H
  obtain ⟨G, am, H⟩ := bs_ H
  replace H : (some G) = some r := H
  obtain rfl := Option.some.inj H
  have aE := b.1
  have aJ := c.1
  have aw := bc8_ a.1
  have ax := bc8_ d.1
  go_wp2_with (first | (go_at_call 31; (with_reducible refine (impl_EqualDialed.calls k t u _ _ j v _ _ l y z _ _ m A _ _ n G _ (cb_ R HB) M.1 (cb_ S HB) O.1 (cb_ T HB) P.1 (cb_ U HB) Q.1 am.1).mono ?_); rintro e aQ ⟨rfl, hb⟩; have _ := Q_ (bb_ a.1 hb); have _ := Q_ (bb_ d.1 hb); have _ := Q_ (below_step (pb2_ HB.1 g.1 i.1) hb); clear a d HB; rename_i a d HB; (try clear hb)))
  go_ret
  exact ⟨er_, pb2_ HB.1 g.1 i.1⟩
 subst ad
 rw [if_pos rfl] at H
 by_cases af : x = true
 rotate_left
 ·replace af := bf_ af
  subst af
  rw [if_neg ff_] at H
  obtain rfl := Option.some.inj H
  have aF := b.1
  have aK := c.1
  have ay := bc8_ a.1
  have az := bc8_ d.1
  go_wp2
  go_ret
  exact ⟨er_, pb2_ HB.1 g.1 i.1⟩
 subst af
 rw [if_pos rfl] at H
 obtain ⟨F, an, H⟩ := bs_ H
 replace H : (some F) = some r := H
 obtain rfl := Option.some.inj H
 have aG := b.1
 have aL := c.1
 have aA := bc8_ a.1
 have aB := bc8_ d.1
 go_wp2_with (first | (go_at_call 31; (with_reducible refine (impl_EqualDialed.calls k t u _ _ j v _ _ l y z _ _ m A _ _ n F _ (cb_ R HB) M.1 (cb_ S HB) O.1 (cb_ T HB) P.1 (cb_ U HB) Q.1 an.1).mono ?_); rintro e aR ⟨rfl, hb⟩; have _ := Q_ (bb_ a.1 hb); have _ := Q_ (bb_ d.1 hb); have _ := Q_ (below_step (pb2_ HB.1 g.1 i.1) hb); clear a d HB; rename_i a d HB; (try clear hb)))
 go_ret
 exact ⟨er_, pb2_ HB.1 g.1 i.1⟩

/-! ### slices_EqualFunc_impl_Endpoint_impl_Endpoint_impl_Endpoint_impl_Endpoint_with_impl_EqualEndpoints: function 100001 -/
def slices_EqualFunc_impl_Endpoint_impl_Endpoint_impl_Endpoint_impl_Endpoint_with_impl_EqualEndpoints.l0 : Nat → List (S50) → List (S50) → Int → Int → Option (Bool)
 | 0, _, _, _, _ => none
 | k + 1, c, b, e, a => if a < e then (if 0 ≤ a then (if a < (b.length : Int) then (if a < (c.length : Int) then ((impl_EqualEndpoints.f k ((rd_T50 b a).f0) ((rd_T50 b a).f1) ((rd_T50 b a).f2) ((rd_T50 b a).f3) ((rd_T50 c a).f0) ((rd_T50 c a).f1) ((rd_T50 c a).f2) ((rd_T50 c a).f3)).bind fun d => (if d = true then (slices_EqualFunc_impl_Endpoint_impl_Endpoint_impl_Endpoint_impl_Endpoint_with_impl_EqualEndpoints.l0 k c b e (wrap64 (a + 1))) else (some false))) else (none)) else (none)) else (none)) else (some true)
def slices_EqualFunc_impl_Endpoint_impl_Endpoint_impl_Endpoint_impl_Endpoint_with_impl_EqualEndpoints.f (k : Nat) (a : List (S50)) (b : List (S50)) : Option (Bool) := if (a.length : Int) = (b.length : Int) then (slices_EqualFunc_impl_Endpoint_impl_Endpoint_impl_Endpoint_impl_Endpoint_with_impl_EqualEndpoints.l0 k b a (a.length : Int) 0) else (some false)
theorem slices_EqualFunc_impl_Endpoint_impl_Endpoint_impl_Endpoint_impl_Endpoint_with_impl_EqualEndpoints.mono_l : ∀ k, (∀ a b c d, LeO (slices_EqualFunc_impl_Endpoint_impl_Endpoint_impl_Endpoint_impl_Endpoint_with_impl_EqualEndpoints.l0 k a b c d) (slices_EqualFunc_impl_Endpoint_impl_Endpoint_impl_Endpoint_impl_Endpoint_with_impl_EqualEndpoints.l0 (k + 1) a b c d))
 | 0 => fun _ _ _ _ r h => by simp [slices_EqualFunc_impl_Endpoint_impl_Endpoint_impl_Endpoint_impl_Endpoint_with_impl_EqualEndpoints.l0] at h
 | k + 1 => by
  have ih0 := slices_EqualFunc_impl_Endpoint_impl_Endpoint_impl_Endpoint_impl_Endpoint_with_impl_EqualEndpoints.mono_l k
  ·intro a b c d
   unfold slices_EqualFunc_impl_Endpoint_impl_Endpoint_impl_Endpoint_impl_Endpoint_with_impl_EqualEndpoints.l0
   exact mo2_ ih0 impl_EqualEndpoints.mono
theorem slices_EqualFunc_impl_Endpoint_impl_Endpoint_impl_Endpoint_impl_Endpoint_with_impl_EqualEndpoints.mono : ∀ a b k, LeO (slices_EqualFunc_impl_Endpoint_impl_Endpoint_impl_Endpoint_impl_Endpoint_with_impl_EqualEndpoints.f k a b) (slices_EqualFunc_impl_Endpoint_impl_Endpoint_impl_Endpoint_impl_Endpoint_with_impl_EqualEndpoints.f (k + 1) a b) := by
 intro a b k
 have ih0 := slices_EqualFunc_impl_Endpoint_impl_Endpoint_impl_Endpoint_impl_Endpoint_with_impl_EqualEndpoints.mono_l k
 unfold slices_EqualFunc_impl_Endpoint_impl_Endpoint_impl_Endpoint_impl_Endpoint_with_impl_EqualEndpoints.f
 exact mo2_ ih0 impl_EqualEndpoints.mono
theorem slices_EqualFunc_impl_Endpoint_impl_Endpoint_impl_Endpoint_impl_Endpoint_with_impl_EqualEndpoints.calls (k : Nat) (A0 : Option Addr) (c0 : Nat) (s : List (S50)) (A1 : Option Addr) (c1 : Nat) (F : List (S50)) (r : Bool) (w : World) (hr0 : Kd.C k50 w A0 s.length s) (aC : s.length ≤ c0) (hr1 : Kd.C k50 w A1 F.length F) (aD : F.length ≤ c1) (h : slices_EqualFunc_impl_Endpoint_impl_Endpoint_impl_Endpoint_impl_Endpoint_with_impl_EqualEndpoints.f k s F = some r) :
  Calls Try.prog 27 #[.slice A0 s.length c0, .slice A1 F.length c1, .func (.func 28) #[] #[]] w fun e w' => e = .returned (.bool r) ∧ Below w.heap.size w w' := by
 have hu50 := Try.underlying50
 have aI := Q_ hr0
 have a0 := Q_ aC
 clear hr0 aC
 have aJ := Q_ hr1
 have a1 := Q_ aD
 clear hr1 aD
 have HB := Q_ (Below.refl w.heap.size w)
 have H : (if (s.length : Int) = (F.length : Int) then (slices_EqualFunc_impl_Endpoint_impl_Endpoint_impl_Endpoint_impl_Endpoint_with_impl_EqualEndpoints.l0 k F s (s.length : Int) 0) else (some false)) = some r := h
 clear h
 by_cases c3 : (s.length : Int) = (F.length : Int)
 rotate_left
 ·rw [if_neg c3] at H
  have aw : ((s.length : Int) == (F.length : Int)) = false := beq_eq_false_iff_ne.mpr c3
  have ax : ((s.length : Int) != (F.length : Int)) = true := bne_iff_ne.mpr c3
  have ay : (s.length == F.length) = false := by first | simpa using c3 | (simp at c3 ⊢; omega)
  obtain rfl := Option.some.inj H
  go_enter Try.func27, Try.ntmps27
  (try simp only [Bool.not_false, Bool.not_true])
  go_wp2
  go_ret
  exact ⟨er_, pb_ HB.1⟩
 rw [if_pos c3] at H
 have aw : ((s.length : Int) == (F.length : Int)) = true := beq_iff_eq.mpr c3
 have ax : ((s.length : Int) != (F.length : Int)) = false := bne_eq_false_iff_eq.mpr c3
 have ay : (s.length == F.length) = true := by first | simpa using c3 | (simp at c3 ⊢; omega)
 clear c3
 have H' := Q_ H
 clear H
 go_enter Try.func27, Try.ntmps27
 (try simp only [Bool.not_false, Bool.not_true])
 go_wp2
 go_loopg [17] k (fun kq aS w' => ∃ (a : Int), aS = .int .i64 a ∧ Aside0 (slices_EqualFunc_impl_Endpoint_impl_Endpoint_impl_Endpoint_impl_Endpoint_with_impl_EqualEndpoints.l0 kq F s (s.length : Int) a = some r) ∧ Aside0 (kq ≤ k) ∧ Aside0 (Below w.heap.size w w'))
 case atStart => exact ⟨(0), el_, H', ⟨Nat.le_refl _⟩, ⟨pb_ HB.1⟩⟩
 clear H'
 obtain ⟨a, rfl, HA, av, HB⟩ := hrel
 rcases gk with _ | k1
 ·exact absurd HA.1 (by simp [slices_EqualFunc_impl_Endpoint_impl_Endpoint_impl_Endpoint_impl_Endpoint_with_impl_EqualEndpoints.l0])
 have H := HA.1
 clear HA
 simp only [slices_EqualFunc_impl_Endpoint_impl_Endpoint_impl_Endpoint_impl_Endpoint_with_impl_EqualEndpoints.l0] at H
 by_cases c4 : a < (s.length : Int)
 rotate_left
 ·rw [if_neg c4] at H
  have az := decide_eq_false c4
  clear c4
  obtain rfl := Option.some.inj H
  (try simp only [Bool.not_false, Bool.not_true])
  go_wp2
  go_ret
  exact ⟨er_, pb_ HB.1⟩
 rw [if_pos c4] at H
 have az := decide_eq_true c4
 clear c4
 by_cases c5 : 0 ≤ a
 rotate_left
 ·rw [if_neg c5] at H
  exact nn_ H
 rw [if_pos c5] at H
 have aX := decide_eq_true c5
 clear c5
 by_cases c6 : a < (s.length : Int)
 rotate_left
 ·rw [if_neg c6] at H
  exact nn_ H
 rw [if_pos c6] at H
 have aY := decide_eq_true c6
 clear c6
 have HS_ := Q_ H
 clear H
 have ae : 0 ≤ (a : Int) := dt_
 have ag : a < (s.length : Int) := dt_
 obtain ⟨aK, u, A, v, B, x, D, aA, L, M, O, P, Q, W, R, X, S, Y⟩ := at_U50 aI.1 a ae ag
 cases aA
 replace L := bt_ HB L
 replace M := bt_ HB M
 replace O := bt_ HB O
 replace P := bt_ HB P
 replace ae := eq_true ae
 replace ag := eq_true ag
 go_upto_region 6 with (first | ((with_reducible refine gate_dst (N := 8) rfl ?_); refine bx_ 8 #[.slice none 0 0, .slice none 0 0, .slice none 0 0, .int .i64 0] 50 ?_; intro b hg w7 hbox hb; have _ := Q_ (below_step (pb_ HB.1) hb); have y := Q_ (hbox); have I := Q_ (gw_ (w := w) hg (pb_ HB.1)); have t := I; clear HB; rename_i HB; clear hb hbox hg; have aZ := bc4_ y.1))
 (try simp only [Act.put, s1_, s2_, s3_])
 have H := HS_.1
 clear HS_
 by_cases c9 : a < (F.length : Int)
 rotate_left
 ·rw [if_neg c9] at H
  exact nn_ H
 rw [if_pos c9] at H
 have ap := decide_eq_true c9
 clear c9
 (first | rw [ap] | (simp only [i64_w, i32_w]; rw [ap]) | skip)
 have HS_ := Q_ H
 clear H
 have af : 0 ≤ (a : Int) := dt_
 have ah : a < (F.length : Int) := dt_
 obtain ⟨K, ai, am, aj, an, ak, ao, aB, c, m, n, q, T, Z, U, aa, V, ab⟩ := at_U50 aJ.1 a af ah
 cases aB
 have d : K.block ≠ b := Nat.ne_of_lt (Nat.lt_of_lt_of_le (by have := World.block_lt_of_cell? _ _ c; first | rwa [add_block] at this | exact this) I.1)
 have i : K.block ≠ b := Nat.ne_of_lt (Nat.lt_of_lt_of_le (by have := World.block_lt_of_cell? _ _ c; first | rwa [add_block] at this | exact this) I.1)
 have j : K.block ≠ b := Nat.ne_of_lt (Nat.lt_of_lt_of_le (by have := World.block_lt_of_cell? _ _ c; first | rwa [add_block] at this | exact this) I.1)
 have l : K.block ≠ b := Nat.ne_of_lt (Nat.lt_of_lt_of_le (by have := World.block_lt_of_cell? _ _ c; first | rwa [add_block] at this | exact this) I.1)
 replace c := bt_ HB c
 replace m := bt_ HB m
 replace n := bt_ HB n
 replace q := bt_ HB q
 replace c := (cell_far (p := ⟨b, 0, none⟩) (by first | (rw [add_block]; exact d) | (show (Addr.add _ _).block ≠ _; rw [add_block]; exact d) | exact d) (.slice u ((rd_T50 s a).f0).length A)).trans c
 replace m := (cell_far (p := ⟨b, 0, none⟩) (by first | (rw [add_block]; exact d) | (show (Addr.add _ _).block ≠ _; rw [add_block]; exact d) | exact d) (.slice u ((rd_T50 s a).f0).length A)).trans m
 replace n := (cell_far (p := ⟨b, 0, none⟩) (by first | (rw [add_block]; exact d) | (show (Addr.add _ _).block ≠ _; rw [add_block]; exact d) | exact d) (.slice u ((rd_T50 s a).f0).length A)).trans n
 replace q := (cell_far (p := ⟨b, 0, none⟩) (by first | (rw [add_block]; exact d) | (show (Addr.add _ _).block ≠ _; rw [add_block]; exact d) | exact d) (.slice u ((rd_T50 s a).f0).length A)).trans q
 replace c := (cell_far (p := ⟨b, 1, none⟩) (by first | (rw [add_block]; exact i) | (show (Addr.add _ _).block ≠ _; rw [add_block]; exact i) | exact i) (.slice v ((rd_T50 s a).f1).length B)).trans c
 replace m := (cell_far (p := ⟨b, 1, none⟩) (by first | (rw [add_block]; exact i) | (show (Addr.add _ _).block ≠ _; rw [add_block]; exact i) | exact i) (.slice v ((rd_T50 s a).f1).length B)).trans m
 replace n := (cell_far (p := ⟨b, 1, none⟩) (by first | (rw [add_block]; exact i) | (show (Addr.add _ _).block ≠ _; rw [add_block]; exact i) | exact i) (.slice v ((rd_T50 s a).f1).length B)).trans n
 replace q := (cell_far (p := ⟨b, 1, none⟩) (by first | (rw [add_block]; exact i) | (show (Addr.add _ _).block ≠ _; rw [add_block]; exact i) | exact i) (.slice v ((rd_T50 s a).f1).length B)).trans q
 replace c := (cell_far (p := ⟨b, 2, none⟩) (by first | (rw [add_block]; exact j) | (show (Addr.add _ _).block ≠ _; rw [add_block]; exact j) | exact j) (.slice x ((rd_T50 s a).f2).length D)).trans c
 replace m := (cell_far (p := ⟨b, 2, none⟩) (by first | (rw [add_block]; exact j) | (show (Addr.add _ _).block ≠ _; rw [add_block]; exact j) | exact j) (.slice x ((rd_T50 s a).f2).length D)).trans m
 replace n := (cell_far (p := ⟨b, 2, none⟩) (by first | (rw [add_block]; exact j) | (show (Addr.add _ _).block ≠ _; rw [add_block]; exact j) | exact j) (.slice x ((rd_T50 s a).f2).length D)).trans n
 replace q := (cell_far (p := ⟨b, 2, none⟩) (by first | (rw [add_block]; exact j) | (show (Addr.add _ _).block ≠ _; rw [add_block]; exact j) | exact j) (.slice x ((rd_T50 s a).f2).length D)).trans q
 replace c := (cell_far (p := ⟨b, 3, none⟩) (by first | (rw [add_block]; exact l) | (show (Addr.add _ _).block ≠ _; rw [add_block]; exact l) | exact l) (.int .i64 ((rd_T50 s a).f3))).trans c
 replace m := (cell_far (p := ⟨b, 3, none⟩) (by first | (rw [add_block]; exact l) | (show (Addr.add _ _).block ≠ _; rw [add_block]; exact l) | exact l) (.int .i64 ((rd_T50 s a).f3))).trans m
 replace n := (cell_far (p := ⟨b, 3, none⟩) (by first | (rw [add_block]; exact l) | (show (Addr.add _ _).block ≠ _; rw [add_block]; exact l) | exact l) (.int .i64 ((rd_T50 s a).f3))).trans n
 replace q := (cell_far (p := ⟨b, 3, none⟩) (by first | (rw [add_block]; exact l) | (show (Addr.add _ _).block ≠ _; rw [add_block]; exact l) | exact l) (.int .i64 ((rd_T50 s a).f3))).trans q
 clear d
 clear i
 clear j
 clear l
 replace af := eq_true af
 replace ah := eq_true ah
 go_upto_region 7 with (first | ((with_reducible refine gate_dst (N := 9) rfl ?_); refine bx_ 9 #[.slice none 0 0, .slice none 0 0, .slice none 0 0, .int .i64 0] 50 ?_; intro ad hg a2 hbox hb; have _ := Q_ (blk_below (g := b) (o := .cells #[.slice u ((rd_T50 s a).f0).length A, .slice v ((rd_T50 s a).f1).length B, .slice x ((rd_T50 s a).f2).length D, .int .i64 ((rd_T50 s a).f3)] 50 (0, 0)) (pp_ y.1) hb); have _ := Q_ (below_step (pb1_ HB.1 t.1) hb); have G := Q_ (hbox); have ar := Q_ (gw_ (w := w) hg (pb1_ HB.1 t.1)); have z := ar; have E := Q_ ((by rw [hg]; exact Nat.ne_of_lt (blk_lt (g := b) (o := .cells #[.slice u ((rd_T50 s a).f0).length A, .slice v ((rd_T50 s a).f1).length B, .slice x ((rd_T50 s a).f2).length D, .int .i64 ((rd_T50 s a).f3)] 50 (0, 0)) (pp_ y.1)) : b ≠ ad)); have J := Q_ E.1.symm; clear y HB; rename_i y HB; clear hb hbox hg; have aO := J.1; have aQ := E.1; have aL := bc4_ G.1))
 (try simp only [Act.put, s1_, s2_, s3_])
 have H := HS_.1
 clear HS_
 obtain ⟨aq, aH, H⟩ := bs_ H
 (try dsimp only at H)
 have HS_ := Q_ H
 clear H
 have aP := E.1
 have aR := J.1
 have aM := bc4_ y.1
 have aN := bc4_ G.1
 go_upto_if 30 with (first | (go_at_call 28; (with_reducible refine (impl_EqualEndpoints.calls k1 _ _ ((rd_T50 s a).f0) _ _ ((rd_T50 s a).f1) _ _ ((rd_T50 s a).f2) ((rd_T50 s a).f3) _ _ ((rd_T50 F a).f0) _ _ ((rd_T50 F a).f1) _ _ ((rd_T50 F a).f2) ((rd_T50 F a).f3) aq _ ?side1 Q.1 ?side3 R.1 ?side5 S.1 ?side7 T.1 ?side9 U.1 ?side11 V.1 aH.1).mono ?_); (case side1 => exact Kd.C_below W.1 (pb2_ HB.1 t.1 z.1)); (case side3 => exact Kd.C_below X.1 (pb2_ HB.1 t.1 z.1)); (case side5 => exact Kd.C_below Y.1 (pb2_ HB.1 t.1 z.1)); (case side7 => exact Kd.C_below Z.1 (pb2_ HB.1 t.1 z.1)); (case side9 => exact Kd.C_below aa.1 (pb2_ HB.1 t.1 z.1)); (case side11 => exact Kd.C_below ab.1 (pb2_ HB.1 t.1 z.1)); rintro e a3 ⟨rfl, hb⟩; have _ := Q_ (blk_below (g := b) (o := .cells #[.slice u ((rd_T50 s a).f0).length A, .slice v ((rd_T50 s a).f1).length B, .slice x ((rd_T50 s a).f2).length D, .int .i64 ((rd_T50 s a).f3)] 50 (0, 0)) (pp_ y.1) hb); have _ := Q_ (blk_below (g := ad) (o := .cells #[.slice ai ((rd_T50 F a).f0).length am, .slice aj ((rd_T50 F a).f1).length an, .slice ak ((rd_T50 F a).f2).length ao, .int .i64 ((rd_T50 F a).f3)] 50 (0, 0)) (pp_ G.1) hb); have _ := Q_ (below_step (pb2_ HB.1 t.1 z.1) hb); clear y G HB; rename_i y G HB; (try clear hb)))
 (try simp only [Act.put, s1_, s2_, s3_])
 have H := HS_.1
 clear HS_
 by_cases al : aq = true
 rotate_left
 ·replace al := bf_ al
  subst al
  rw [if_neg ff_] at H
  obtain rfl := Option.some.inj H
  (try simp only [Bool.not_false, Bool.not_true])
  go_wp2
  go_ret
  exact ⟨er_, pb2_ HB.1 t.1 z.1⟩
 subst al
 rw [if_pos rfl] at H
 have H' := Q_ H
 clear H
 (try simp only [Bool.not_false, Bool.not_true])
 go_wp2
 go_roundg k1
 case measure => have := av.1; omega
 case rel => exact ⟨(wrap64 (a + 1)), el_, H', ⟨by have := av.1; omega⟩, ⟨pb2_ HB.1 t.1 z.1⟩⟩

end Go.Proofs.Ytchnkakjjbfklaa.Print
