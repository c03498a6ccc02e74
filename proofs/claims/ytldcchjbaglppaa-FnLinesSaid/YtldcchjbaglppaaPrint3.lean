-- Written by a program of this session (printx.py) out of the translation; Lean checks it.
import Derived.Test.YtldcchjbaglppaaPrint0
namespace Go.Proofs.Ytldcchjbaglppaa.Print
open Go.RowKit Go.Proofs.YtldcchjbaglppaaW.PrintWords Go.Proofs.YtldcchjbaglppaaW.PrintLast Go.Proofs.YtldcchjbaglppaaW.PrintMore Go.Proofs.Ytldcchjbaglppaa.Short
attribute [local go_sem] max2_int min2_int max_two min_two max_three min_three max_four min_four   -- for this text's walks alone
set_option linter.unusedVariables false
set_option maxHeartbeats 8000000
set_option maxRecDepth 100000
set_option linter.unusedSimpArgs false

/-! ### impl_MoveOf_1: function 100001 -/
def impl_MoveOf_1.f (d : Int) (e : Bool) (a : Int) (h : Int) (g : Int) (b : Bool) (c : Int) : Option (Bool) := if d = g then (if e = true then (if b = true then (some (a == c)) else (some false)) else (if b = true then (some false) else (some (a == c)))) else (some false)
theorem impl_MoveOf_1.calls (l : Int) (A : Bool) (B : Int) (F : Int) (B1 : Nat) (d : Int) (B2 : Nat) (u : Bool) (B3 : Nat) (v : Int) (r : Bool) (w : World) (hbv1 : w.heap[B1]? = some (.cells #[.int .i64 d] 3 (0, 0))) (hbv2 : w.heap[B2]? = some (.cells #[.bool u] 4 (0, 0))) (hnv1_2 : B1 ≠ B2) (hbv3 : w.heap[B3]? = some (.cells #[.int .i64 v] 3 (0, 0))) (hnv1_3 : B1 ≠ B3) (hnv2_3 : B2 ≠ B3) (h : impl_MoveOf_1.f l A B F d u v = some r) :
  Calls Try.prog 100 #[.agg #[.int .i64 l, .bool A, .int .i64 B, .int .i64 F], .pointer (some ⟨B1, 0, none⟩), .pointer (some ⟨B2, 0, none⟩), .pointer (some ⟨B3, 0, none⟩)] w fun e w' => e = .returned (.bool r) ∧ Below w.heap.size w w' := by
 have hu78 := Try.underlying78
 have k := Q_ hbv1
 clear hbv1
 have m := Q_ hbv2
 clear hbv2
 have p := Q_ hnv1_2
 have s := Q_ (Ne.symm hnv1_2)
 clear hnv1_2
 have z := Q_ hbv3
 clear hbv3
 have q := Q_ hnv1_3
 have t := Q_ (Ne.symm hnv1_3)
 clear hnv1_3
 have x := Q_ hnv2_3
 have y := Q_ (Ne.symm hnv2_3)
 clear hnv2_3
 have HB := Q_ (Below.refl w.heap.size w)
 have H : (if l = d then (if A = true then (if u = true then (some (B == v)) else (some false)) else (if u = true then (some false) else (some (B == v)))) else (some false)) = some r := h
 clear h
 have HS_ := Q_ H
 clear H
 go_enter Try.func100, Try.ntmps100
 go_upto_region 1 with (first | ((with_reducible refine gate_dst (N := 4) rfl ?_); refine bx_ 4 #[.int .i64 l, .bool A, .int .i64 B, .int .i64 F] 78 ?_; intro E hg G hbox hb; have _ := Q_ (bb_ k.1 hb); have _ := Q_ (bb_ m.1 hb); have _ := Q_ (bb_ z.1 hb); have _ := Q_ (below_step (pb_ HB.1) hb); have n := Q_ (hbox); have L := Q_ (gw_ (w := w) hg (pb_ HB.1)); have o := L; have a := Q_ ((by rw [hg]; exact Nat.ne_of_lt (blk_lt (pk_ k.1)) : B1 ≠ E)); have g := Q_ a.1.symm; have b := Q_ ((by rw [hg]; exact Nat.ne_of_lt (blk_lt (pk_ m.1)) : B2 ≠ E)); have i := Q_ b.1.symm; have c := Q_ ((by rw [hg]; exact Nat.ne_of_lt (blk_lt (pk_ z.1)) : B3 ≠ E)); have j := Q_ c.1.symm; clear k m z HB; rename_i k m z HB; clear hb hbox hg))
 (try simp only [Act.put, s1_, s2_, s3_])
 have H := HS_.1
 clear HS_
 by_cases M : l = d
 rotate_left
 ·rw [if_neg M] at H
  have C : (l == d) = false := beq_eq_false_iff_ne.mpr M
  have D : (l != d) = true := bne_iff_ne.mpr M
  (first | rw [C] | (simp only [i64_w, i32_w]; rw [C]) | rw [D] | (have c_ := D; rw [bne] at c_; rw [c_]; clear c_) | skip)
  obtain rfl := Option.some.inj H
  have bh := g.1
  have bk := a.1
  have bi := i.1
  have bl := b.1
  have bj := j.1
  have bm := c.1
  have ak := bc4_ n.1
  have ap := p.1
  have aR := s.1
  have aq := q.1
  have aS := t.1
  have O : G.cell? ⟨B1, 0, none⟩ = some (.int .i64 d) := (blk_cell k.1 0).trans rfl
  have Z := blk_frozen k.1 0
  go_wp2
  go_ret
  exact ⟨er_, pb1_ HB.1 o.1⟩
 rw [if_pos M] at H
 have C : (l == d) = true := beq_iff_eq.mpr M
 have D : (l != d) = false := bne_eq_false_iff_eq.mpr M
 clear M
 (first | rw [C] | (simp only [i64_w, i32_w]; rw [C]) | rw [D] | (have c_ := D; rw [bne] at c_; rw [c_]; clear c_) | skip)
 by_cases I : A = true
 rotate_left
 ·replace I := bf_ I
  subst I
  rw [if_neg ff_] at H
  by_cases J : u = true
  ·subst J
   rw [if_pos rfl] at H
   obtain rfl := Option.some.inj H
   have ar := g.1
   have aT := a.1
   have au := i.1
   have aU := b.1
   have av := j.1
   have aV := c.1
   have al := bc4_ n.1
   have aw := p.1
   have aW := s.1
   have ax := q.1
   have aX := t.1
   have P : G.cell? ⟨B1, 0, none⟩ = some (.int .i64 d) := (blk_cell k.1 0).trans rfl
   have aa := blk_frozen k.1 0
   have ay := x.1
   have aY := y.1
   have Q : G.cell? ⟨B2, 0, none⟩ = some (.bool true) := (blk_cell m.1 0).trans rfl
   have ab := blk_frozen m.1 0
   go_wp2
   go_ret
   exact ⟨er_, pb1_ HB.1 o.1⟩
  replace J := bf_ J
  subst J
  rw [if_neg ff_] at H
  obtain rfl := Option.some.inj H
  have az := g.1
  have aZ := a.1
  have aA := i.1
  have a0 := b.1
  have aB := j.1
  have a1 := c.1
  have am := bc4_ n.1
  have aC := p.1
  have a2 := s.1
  have aD := q.1
  have a3 := t.1
  have R : G.cell? ⟨B1, 0, none⟩ = some (.int .i64 d) := (blk_cell k.1 0).trans rfl
  have ac := blk_frozen k.1 0
  have aE := x.1
  have a4 := y.1
  have S : G.cell? ⟨B2, 0, none⟩ = some (.bool false) := (blk_cell m.1 0).trans rfl
  have ad := blk_frozen m.1 0
  have T : G.cell? ⟨B3, 0, none⟩ = some (.int .i64 v) := (blk_cell z.1 0).trans rfl
  have ae := blk_frozen z.1 0
  go_wp2
  go_ret
  exact ⟨er_, pb1_ HB.1 o.1⟩
 subst I
 rw [if_pos rfl] at H
 by_cases K : u = true
 rotate_left
 ·replace K := bf_ K
  subst K
  rw [if_neg ff_] at H
  obtain rfl := Option.some.inj H
  have aF := g.1
  have a5 := a.1
  have aG := i.1
  have a6 := b.1
  have aH := j.1
  have a7 := c.1
  have an := bc4_ n.1
  have aI := p.1
  have a8 := s.1
  have aJ := q.1
  have a9 := t.1
  have U : G.cell? ⟨B1, 0, none⟩ = some (.int .i64 d) := (blk_cell k.1 0).trans rfl
  have af := blk_frozen k.1 0
  have aK := x.1
  have ba := y.1
  have V : G.cell? ⟨B2, 0, none⟩ = some (.bool false) := (blk_cell m.1 0).trans rfl
  have ag := blk_frozen m.1 0
  go_wp2
  go_ret
  exact ⟨er_, pb1_ HB.1 o.1⟩
 subst K
 rw [if_pos rfl] at H
 obtain rfl := Option.some.inj H
 have aL := g.1
 have bb := a.1
 have aM := i.1
 have bc := b.1
 have aN := j.1
 have bd := c.1
 have ao := bc4_ n.1
 have aO := p.1
 have be := s.1
 have aP := q.1
 have bf := t.1
 have W : G.cell? ⟨B1, 0, none⟩ = some (.int .i64 d) := (blk_cell k.1 0).trans rfl
 have ah := blk_frozen k.1 0
 have aQ := x.1
 have bg := y.1
 have X : G.cell? ⟨B2, 0, none⟩ = some (.bool true) := (blk_cell m.1 0).trans rfl
 have ai := blk_frozen m.1 0
 have Y : G.cell? ⟨B3, 0, none⟩ = some (.int .i64 v) := (blk_cell z.1 0).trans rfl
 have aj := blk_frozen z.1 0
 go_wp2
 go_ret
 exact ⟨er_, pb1_ HB.1 o.1⟩

/-! ### slices_IndexFunc_impl_Move_impl_Move_with_impl_MoveOf_1: function 100000 -/
def slices_IndexFunc_impl_Move_impl_Move_with_impl_MoveOf_1.l0 : Nat → List (S78) → Int → Int → Int → Bool → Int → Option (Int)
 | 0, _, _, _, _, _, _ => none
 | k + 1, e, h, d, a, b, c => if d < h then (if 0 ≤ d then (if d < (e.length : Int) then ((impl_MoveOf_1.f ((rd_T78 e d).f0) ((rd_T78 e d).f1) ((rd_T78 e d).f2) ((rd_T78 e d).f3) a b c).bind fun g => (if g = true then (some d) else (slices_IndexFunc_impl_Move_impl_Move_with_impl_MoveOf_1.l0 k e h (wrap64 (d + 1)) a b c))) else (none)) else (none)) else (some (-1))
def slices_IndexFunc_impl_Move_impl_Move_with_impl_MoveOf_1.f (k : Nat) (d : List (S78)) (a : Int) (b : Bool) (c : Int) : Option (Int) := slices_IndexFunc_impl_Move_impl_Move_with_impl_MoveOf_1.l0 k d (d.length : Int) 0 a b c
theorem slices_IndexFunc_impl_Move_impl_Move_with_impl_MoveOf_1.mono_l : ∀ k, (∀ a b c d e f, LeO (slices_IndexFunc_impl_Move_impl_Move_with_impl_MoveOf_1.l0 k a b c d e f) (slices_IndexFunc_impl_Move_impl_Move_with_impl_MoveOf_1.l0 (k + 1) a b c d e f))
 | 0 => fun _ _ _ _ _ _ r h => by simp [slices_IndexFunc_impl_Move_impl_Move_with_impl_MoveOf_1.l0] at h
 | k + 1 => by
  have ih0 := slices_IndexFunc_impl_Move_impl_Move_with_impl_MoveOf_1.mono_l k
  ·intro a b c d e f
   unfold slices_IndexFunc_impl_Move_impl_Move_with_impl_MoveOf_1.l0
   exact mo1_ ih0
theorem slices_IndexFunc_impl_Move_impl_Move_with_impl_MoveOf_1.mono : ∀ a b c d k, LeO (slices_IndexFunc_impl_Move_impl_Move_with_impl_MoveOf_1.f k a b c d) (slices_IndexFunc_impl_Move_impl_Move_with_impl_MoveOf_1.f (k + 1) a b c d) := by
 intro a b c d k
 have ih0 := slices_IndexFunc_impl_Move_impl_Move_with_impl_MoveOf_1.mono_l k
 unfold slices_IndexFunc_impl_Move_impl_Move_with_impl_MoveOf_1.f
 exact mo1_ ih0
theorem slices_IndexFunc_impl_Move_impl_Move_with_impl_MoveOf_1.calls (k : Nat) (N : Option Addr) (O : Nat) (m : List (S78)) (B1 : Nat) (b : Int) (B2 : Nat) (c : Bool) (B3 : Nat) (d : Int) (r : Int) (w : World) (hr0 : Kd.C k78 w N m.length m) (E : m.length ≤ O) (hbv1 : w.heap[B1]? = some (.cells #[.int .i64 b] 3 (0, 0))) (hbv2 : w.heap[B2]? = some (.cells #[.bool c] 4 (0, 0))) (hnv1_2 : B1 ≠ B2) (hbv3 : w.heap[B3]? = some (.cells #[.int .i64 d] 3 (0, 0))) (hnv1_3 : B1 ≠ B3) (hnv2_3 : B2 ≠ B3) (h : slices_IndexFunc_impl_Move_impl_Move_with_impl_MoveOf_1.f k m b c d = some r) :
  Calls Try.prog 99 #[.slice N m.length O, .func (.func 100) #[] #[.pointer (some ⟨B1, 0, none⟩), .pointer (some ⟨B2, 0, none⟩), .pointer (some ⟨B3, 0, none⟩)]] w fun e w' => e = .returned (.int .i64 r) ∧ Below w.heap.size w w' := by
 have hu78 := Try.underlying78
 have I := Q_ hr0
 have S := Q_ E
 clear hr0 E
 have n := Q_ hbv1
 clear hbv1
 have o := Q_ hbv2
 clear hbv2
 have v := Q_ hnv1_2
 have J := Q_ (Ne.symm hnv1_2)
 clear hnv1_2
 have p := Q_ hbv3
 clear hbv3
 have x := Q_ hnv1_3
 have K := Q_ (Ne.symm hnv1_3)
 clear hnv1_3
 have y := Q_ hnv2_3
 have L := Q_ (Ne.symm hnv2_3)
 clear hnv2_3
 have HB := Q_ (Below.refl w.heap.size w)
 have H : (slices_IndexFunc_impl_Move_impl_Move_with_impl_MoveOf_1.l0 k m (m.length : Int) 0 b c d) = some r := h
 clear h
 have H' := Q_ H
 clear H
 go_enter Try.func99, Try.ntmps99
 go_wp2
 go_loopg [8] k (fun kq T w' => ∃ (a : Int), T = .int .i64 a ∧ Aside0 (slices_IndexFunc_impl_Move_impl_Move_with_impl_MoveOf_1.l0 kq m (m.length : Int) a b c d = some r) ∧ Aside0 (kq ≤ k) ∧ Aside0 (w'.heap[B1]? = some (.cells #[.int .i64 b] 3 (0, 0))) ∧ Aside0 (w'.heap[B2]? = some (.cells #[.bool c] 4 (0, 0))) ∧ Aside0 (w'.heap[B3]? = some (.cells #[.int .i64 d] 3 (0, 0))) ∧ Aside0 (Below w.heap.size w w'))
 case atStart => exact ⟨(0), el_, H', ⟨Nat.le_refl _⟩, ⟨pk_ n.1⟩, ⟨pk_ o.1⟩, ⟨pk_ p.1⟩, ⟨pb_ HB.1⟩⟩
 clear H'
 obtain ⟨a, rfl, HA, A, n, o, p, HB⟩ := hrel
 rcases gk with _ | k1
 ·exact absurd HA.1 (by simp [slices_IndexFunc_impl_Move_impl_Move_with_impl_MoveOf_1.l0])
 have H := HA.1
 clear HA
 simp only [slices_IndexFunc_impl_Move_impl_Move_with_impl_MoveOf_1.l0] at H
 by_cases z : a < (m.length : Int)
 rotate_left
 ·rw [if_neg z] at H
  have B := decide_eq_false z
  clear z
  obtain rfl := Option.some.inj H
  go_wp2
  go_ret
  exact ⟨er_, pb_ HB.1⟩
 rw [if_pos z] at H
 have B := decide_eq_true z
 clear z
 by_cases F : 0 ≤ a
 rotate_left
 ·rw [if_neg F] at H
  exact nn_ H
 rw [if_pos F] at H
 have P := decide_eq_true F
 clear F
 by_cases G : a < (m.length : Int)
 rotate_left
 ·rw [if_neg G] at H
  exact nn_ H
 rw [if_pos G] at H
 have Q := decide_eq_true G
 clear G
 obtain ⟨u, R, H⟩ := bs_ H
 (try dsimp only at H)
 have HS_ := Q_ H
 clear H
 have q : 0 ≤ (a : Int) := dt_
 have s : a < (m.length : Int) := dt_
 obtain ⟨M, D, g, i, j, l⟩ := at_T78 I.1 a q s
 cases D
 replace g := bt_ HB g
 replace i := bt_ HB i
 replace j := bt_ HB j
 replace l := bt_ HB l
 replace q := eq_true q
 replace s := eq_true s
 go_upto_if 16 with (first | (go_at_call 100; (with_reducible refine (impl_MoveOf_1.calls ((rd_T78 m a).f0) ((rd_T78 m a).f1) ((rd_T78 m a).f2) ((rd_T78 m a).f3) _ b _ c _ d u _ ?side1 ?side2 v.1 ?side4 x.1 y.1 R.1).mono ?_); (case side1 => exact pk_ n.1); (case side2 => exact pk_ o.1); (case side4 => exact pk_ p.1); rintro e U ⟨rfl, hb⟩; have _ := Q_ (bb_ n.1 hb); have _ := Q_ (bb_ o.1 hb); have _ := Q_ (bb_ p.1 hb); have _ := Q_ (below_step (pb_ HB.1) hb); clear n o p HB; rename_i n o p HB; (try clear hb)))
 (try simp only [Act.put, s1_, s2_, s3_])
 have H := HS_.1
 clear HS_
 by_cases t : u = true
 rotate_left
 ·replace t := bf_ t
  subst t
  rw [if_neg ff_] at H
  have H' := Q_ H
  clear H
  go_wp2
  go_roundg k1
  case measure => have := A.1; omega
  case rel => exact ⟨(wrap64 (a + 1)), el_, H', ⟨by have := A.1; omega⟩, ⟨pk_ n.1⟩, ⟨pk_ o.1⟩, ⟨pk_ p.1⟩, ⟨pb_ HB.1⟩⟩
 subst t
 rw [if_pos rfl] at H
 obtain rfl := Option.some.inj H
 go_wp2
 go_ret
 exact ⟨er_, pb_ HB.1⟩

/-! ### impl_MoveOf: function 94 -/
def impl_MoveOf.f (k : Nat) (c : Int) (d : List Bool) (a : List (S78)) (e : Int) (g : Bool) (h : Int) : Option (Int) := (slices_IndexFunc_impl_Move_impl_Move_with_impl_MoveOf_1.f k a e g h).bind fun b => (some b)
theorem impl_MoveOf.mono : ∀ a b c d e g k, LeO (impl_MoveOf.f k a b c d e g) (impl_MoveOf.f (k + 1) a b c d e g) := by
 intro a b c d e g k
 unfold impl_MoveOf.f
 exact mo1_ slices_IndexFunc_impl_Move_impl_Move_with_impl_MoveOf_1.mono
theorem impl_MoveOf.calls (k : Nat) (D : Int) (z : Option Addr) (E : Nat) (q : List Bool) (A : Option Addr) (F : Nat) (i : List (S78)) (T : Int) (U : Bool) (V : Int) (r : Int) (w : World) (hr0_1 : Kd.C Kd.bool w z q.length q) (G : q.length ≤ E) (hr0_2 : Kd.C k78 w A i.length i) (I : i.length ≤ F) (h : impl_MoveOf.f k D q i T U V = some r) :
  Calls Try.prog 94 #[.agg #[.int .i64 D, .slice z q.length E, .slice A i.length F], .int .i64 T, .bool U, .int .i64 V] w fun e w' => e = .returned (.int .i64 r) ∧ Below w.heap.size w w' := by
 have hu34 := Try.underlying34
 have X := Q_ hr0_1
 have W := Q_ G
 clear hr0_1 G
 have P := Q_ hr0_2
 have O := Q_ I
 clear hr0_2 I
 have HB := Q_ (Below.refl w.heap.size w)
 have H : ((slices_IndexFunc_impl_Move_impl_Move_with_impl_MoveOf_1.f k i T U V).bind fun y => (some y)) = some r := h
 clear h
 obtain ⟨y, A5, H⟩ := bs_ H
 replace H : (some y) = some r := H
 obtain rfl := Option.some.inj H
 go_enter Try.func94, Try.ntmps94
 go_wp2_with (first | ((with_reducible refine gate_dst (N := 4) rfl ?_); refine bx_ 4 #[.int .i64 D, .slice z q.length E, .slice A i.length F] 34 ?_; intro Y hg w6 hbox hb; have _ := Q_ (below_step (pb_ HB.1) hb); have a := Q_ (hbox); have J := Q_ (gw_ (w := w) hg (pb_ HB.1)); have d := J; clear HB; rename_i HB; clear hb hbox hg) | ((with_reducible refine gate_dst (N := 5) rfl ?_); refine bx_ 5 #[.int .i64 T] 3 ?_; intro Z hg w7 hbox hb; have _ := Q_ (bb_ a.1 hb); have _ := Q_ (below_step (pb1_ HB.1 d.1) hb); have b := Q_ (hbox); have K := Q_ (gw_ (w := w) hg (pb1_ HB.1 d.1)); have g := K; have j := Q_ (nb_ hg a); have u := Q_ j.1.symm; clear a HB; rename_i a HB; clear hb hbox hg) | ((with_reducible refine gate_dst (N := 6) rfl ?_); refine bx_ 6 #[.bool U] 4 ?_; intro aa hg w8 hbox hb; have _ := Q_ (bb_ a.1 hb); have _ := Q_ (bb_ b.1 hb); have _ := Q_ (below_step (pb2_ HB.1 d.1 g.1) hb); have c := Q_ (hbox); have L := Q_ (gw_ (w := w) hg (pb2_ HB.1 d.1 g.1)); have t := L; have l := Q_ (nb_ hg a); have v := Q_ l.1.symm; have n := Q_ (nb_ hg b); have Q := Q_ n.1.symm; clear a b HB; rename_i a b HB; clear hb hbox hg) | ((with_reducible refine gate_dst (N := 7) rfl ?_); refine bx_ 7 #[.int .i64 V] 3 ?_; intro ab hg w9 hbox hb; have _ := Q_ (bb_ a.1 hb); have _ := Q_ (bb_ b.1 hb); have _ := Q_ (bb_ c.1 hb); have _ := Q_ (below_step (pb3_ HB.1 d.1 g.1 t.1) hb); have s := Q_ (hbox); have M := Q_ (gw_ (w := w) hg (pb3_ HB.1 d.1 g.1 t.1)); have B := M; have m := Q_ (nb_ hg a); have x := Q_ m.1.symm; have o := Q_ (nb_ hg b); have R := Q_ o.1.symm; have p := Q_ (nb_ hg c); have S := Q_ p.1.symm; clear a b c HB; rename_i a b c HB; clear hb hbox hg; have ad := j.1; have ag := u.1; have ae := l.1; have ah := v.1; have af := m.1; have ai := x.1; have ac := bc3_ a.1) | (go_at_call 99; (with_reducible refine (slices_IndexFunc_impl_Move_impl_Move_with_impl_MoveOf_1.calls k _ _ i _ T _ U _ V y _ (cb_ P HB) O.1 ?side3 ?side4 n.1 ?side6 o.1 p.1 A5.1).mono ?_); (case side3 => exact pk_ b.1); (case side4 => exact pk_ c.1); (case side6 => exact pk_ s.1); rintro e ak ⟨rfl, hb⟩; have _ := Q_ (bb_ a.1 hb); have _ := Q_ (bb_ b.1 hb); have _ := Q_ (bb_ c.1 hb); have _ := Q_ (bb_ s.1 hb); have _ := Q_ (below_step (pb4_ HB.1 d.1 g.1 t.1 B.1) hb); clear a b c s HB; rename_i a b c s HB; (try clear hb)))
 go_ret
 exact ⟨er_, pb4_ HB.1 d.1 g.1 t.1 B.1⟩

end Go.Proofs.Ytldcchjbaglppaa.Print
