-- Written by a program of this session (printx.py) out of the translation; Lean checks it.
import Derived.Test.YtldcchjbaglppaaPrint0
import Derived.Test.YtldcchjbaglppaaPrint2
import Derived.Test.YtldcchjbaglppaaPrint3
import Derived.Test.YtldcchjbaglppaaPrint6
namespace Go.Proofs.Ytldcchjbaglppaa.Print
open Go.RowKit Go.Proofs.YtldcchjbaglppaaW.PrintWords Go.Proofs.YtldcchjbaglppaaW.PrintLast Go.Proofs.YtldcchjbaglppaaW.PrintMore Go.Proofs.Ytldcchjbaglppaa.Short
attribute [local go_sem] max2_int min2_int max_two min_two max_three min_three max_four min_four   -- for this text's walks alone
set_option linter.unusedVariables false
set_option maxHeartbeats 8000000
set_option maxRecDepth 100000
set_option linter.unusedSimpArgs false

/-! ### impl_WorksWith: function 18 -/
def impl_WorksWith.l0 : Nat → List Int → List (S34) → Int → Int → Int → List Bool → List (S78) → Option (List Int)
 | 0, _, _, _, _, _, _, _ => none
 | k + 1, i, g, e, d, a, b, c => if d < e then (if 0 ≤ d then (if d < (g.length : Int) then ((impl_IsSafe.f k ((rd_T34 g d).f0) ((rd_T34 g d).f1) ((rd_T34 g d).f2) a b c).bind fun h => (if h = true then (if i.length < 17592186044416 then (impl_WorksWith.l0 k (i ++ [d]) g e (wrap64 (d + 1)) a b c) else (none)) else (impl_WorksWith.l0 k i g e (wrap64 (d + 1)) a b c))) else (none)) else (none)) else (some i)
def impl_WorksWith.f (k : Nat) (d : List (S34)) (a : Int) (b : List Bool) (c : List (S78)) : Option (List Int) := impl_WorksWith.l0 k (([] : List Int)) d (d.length : Int) 0 a b c
theorem impl_WorksWith.mono_l : ∀ k, (∀ a b c d e f g, LeO (impl_WorksWith.l0 k a b c d e f g) (impl_WorksWith.l0 (k + 1) a b c d e f g))
 | 0 => fun _ _ _ _ _ _ _ r h => by simp [impl_WorksWith.l0] at h
 | k + 1 => by
  have ih0 := impl_WorksWith.mono_l k
  ·intro a b c d e f g
   unfold impl_WorksWith.l0
   exact mo2_ ih0 impl_IsSafe.mono
theorem impl_WorksWith.mono : ∀ a b c d k, LeO (impl_WorksWith.f k a b c d) (impl_WorksWith.f (k + 1) a b c d) := by
 intro a b c d k
 have ih0 := impl_WorksWith.mono_l k
 unfold impl_WorksWith.f
 exact mo2_ ih0 impl_IsSafe.mono
theorem impl_WorksWith.calls (k : Nat) (A0 : Option Addr) (c0 : Nat) (s : List (S34)) (p : Int) (t : Option Addr) (x : Nat) (i : List Bool) (u : Option Addr) (y : Nat) (j : List (S78)) (r : List Int) (w : World) (hr0 : Kd.C k34 w A0 s.length s) (aq : s.length ≤ c0) (hr1_1 : Kd.C Kd.bool w t i.length i) (S : i.length ≤ x) (hr1_2 : Kd.C k78 w u j.length j) (T : j.length ≤ y) (h : impl_WorksWith.f k s p i j = some r) :
  Calls Try.prog 18 #[.slice A0 s.length c0, .agg #[.int .i64 p, .slice t i.length x, .slice u j.length y]] w fun e w' => ∃ v0_ : Value, e = .returned (v0_) ∧ Kd.R (Kd.int .i64) 3 w' w.heap.size (fun _ => True) v0_ r ∧ Below w.heap.size w w' := by
 have hu34 := Try.underlying34
 have aw := Q_ hr0
 have aR := Q_ aq
 clear hr0 aq
 have aj := Q_ hr1_1
 have af := Q_ S
 clear hr1_1 S
 have ak := Q_ hr1_2
 have ag := Q_ T
 clear hr1_2 T
 have HB := Q_ (Below.refl w.heap.size w)
 have H : (impl_WorksWith.l0 k (([] : List Int)) s (s.length : Int) 0 p i j) = some r := h
 clear h
 obtain ⟨ab, hy239⟩ : ∃ y_ : List Int, y_ = (([] : List Int)) := ⟨_, rfl⟩
 replace H : (impl_WorksWith.l0 k ab s (s.length : Int) 0 p i j) = some r := hb_ hy239 H
 have P := Q_ hy239
 clear hy239
 have H' := Q_ H
 clear H
 go_enter Try.func18, Try.ntmps18
 go_wp2_with (first | ((with_reducible refine gate_dst (N := 3) rfl ?_); refine bx_ 3 #[.int .i64 p, .slice t i.length x, .slice u j.length y] 34 ?_; intro J hg w3 hbox hb; have _ := Q_ (below_step (pb_ HB.1) hb); have c := Q_ (hbox); have ad := Q_ (gw_ (w := w) hg (pb_ HB.1)); have d := ad; clear HB; rename_i HB; clear hb hbox hg) | ((with_reducible refine gate_dst (N := 8) rfl ?_); refine Kd.R_lit (Kd.int .i64) _ 3 ?hg (N := 8) ?hd (xs := ([] : List Int)) (inner := []) (ok := fun _ => True) (okp := fun _ => True) ?hr ?hp (fun _ hk => hk) trivial (Below.refl _ _) (Nat.le_refl _) (by simp) ?_; (case hd => rfl); (case hg => rfl); (case hr => first | (go_simp; done) | (go_simp; rfl)); (case hp => exact (Reps.none _ _)); intro aN w4 U hb hg_ hnew_; clear hg_ hnew_; (first | rw [← P.1] at U | (simp only [Int.reduceToNat] at U; rw [← P.1] at U)); have _ := Q_ (Kd.R_lower U (below_size (pb1_ HB.1 d.1))); have _ := Q_ (bb_ c.1 hb); have _ := Q_ (below_step (pb1_ HB.1 d.1) hb); clear c HB; rename_i ah c HB; clear hb U))
 (try simp only [Act.put, s1_, s2_, s3_])
 go_loopg [5, 11] k (fun kq v5 aH w' => ∃ (z : List Int) (a : Int), aH = .int .i64 a ∧ Aside0 (impl_WorksWith.l0 kq z s (s.length : Int) a p i j = some r) ∧ Aside0 (kq ≤ k) ∧ Aside0 (Kd.R (Kd.int .i64) 3 w' w.heap.size (fun _ => True) v5 z) ∧ Aside0 (w'.heap[J]? = some (.cells #[.int .i64 p, (.slice t i.length x), (.slice u j.length y)] 34 (0, 0))) ∧ Aside0 (Below w.heap.size w w'))
 case atStart => exact ⟨(ab), (0), el_, H', ⟨Nat.le_refl _⟩, ⟨pr_ ah.1⟩, ⟨pk_ c.1⟩, ⟨pb1_ HB.1 d.1⟩⟩
 clear H'
 obtain ⟨z, a, rfl, HA, X, n, c, HB⟩ := hrel
 rcases gk with _ | k1
 ·exact absurd HA.1 (by simp [impl_WorksWith.l0])
 have H := HA.1
 clear HA
 simp only [impl_WorksWith.l0] at H
 by_cases c6 : a < (s.length : Int)
 rotate_left
 ·rw [if_neg c6] at H
  have ao := decide_eq_false c6
  clear c6
  obtain rfl := Option.some.inj H
  go_wp2
  go_ret
  exact ⟨_, er_, pr_ n.1, pb1_ HB.1 d.1⟩
 rw [if_pos c6] at H
 have ao := decide_eq_true c6
 clear c6
 by_cases c7 : 0 ≤ a
 rotate_left
 ·rw [if_neg c7] at H
  exact nn_ H
 rw [if_pos c7] at H
 have aK := decide_eq_true c7
 clear c7
 by_cases c8 : a < (s.length : Int)
 rotate_left
 ·rw [if_neg c8] at H
  exact nn_ H
 rw [if_pos c8] at H
 have aM := decide_eq_true c8
 clear c8
 have HS_ := Q_ H
 clear H
 have V : 0 ≤ (a : Int) := dt_
 have W : a < (s.length : Int) := dt_
 obtain ⟨ax, A, D, B, E, ap, F, G, I, K, M, L, O⟩ := at_U34 aw.1 a V W
 cases ap
 replace F := bt_ HB F
 replace G := bt_ HB G
 replace I := bt_ HB I
 replace V := eq_true V
 replace W := eq_true W
 go_upto_region 5 with (first | ((with_reducible refine gate_dst (N := 7) rfl ?_); refine bx_ 7 #[.int .i64 0, .slice none 0 0, .slice none 0 0] 34 ?_; intro Q hg w9 hbox hb; have _ := Q_ (Kd.R_below (pr_ n.1) hb); have _ := Q_ (bb_ c.1 hb); have _ := Q_ (below_step (pb1_ HB.1 d.1) hb); have l := Q_ (hbox); have ae := Q_ (gw_ (w := w) hg (pb1_ HB.1 d.1)); have m := ae; have q := Q_ (nb_ hg c); have v := Q_ q.1.symm; clear n c HB; rename_i n c HB; clear hb hbox hg; have aC := v.1; have aE := q.1; have ay := bc3_ l.1))
 (try simp only [Act.put, s1_, s2_, s3_])
 have H := HS_.1
 clear HS_
 obtain ⟨aa, av, H⟩ := bs_ H
 (try dsimp only at H)
 have HS_ := Q_ H
 clear H
 have aD := v.1
 have aG := q.1
 have az := bc3_ l.1
 have aA := bc3_ c.1
 go_upto_if 18 with (first | ((with_reducible refine gate_callee (f := 42) rfl ?_); refine gl_ (some 18) Try.func42 #[.agg #[.int .i64 ((rd_T34 s a).f0), .slice A ((rd_T34 s a).f1).length D, .slice B ((rd_T34 s a).f2).length E], .agg #[.int .i64 p, .slice t i.length x, .slice u j.length y]] ?_; (with_reducible refine (impl_IsSafe.calls k1 ((rd_T34 s a).f0) _ _ ((rd_T34 s a).f1) _ _ ((rd_T34 s a).f2) p _ _ i _ _ j aa _ ?side1 K.1 ?side3 L.1 ?side5 af.1 ?side7 ag.1 av.1).mono ?_); (case side1 => exact Kd.C_below M.1 (pb2_ HB.1 d.1 m.1)); (case side3 => exact Kd.C_below O.1 (pb2_ HB.1 d.1 m.1)); (case side5 => exact Kd.C_below aj.1 (pb2_ HB.1 d.1 m.1)); (case side7 => exact Kd.C_below ak.1 (pb2_ HB.1 d.1 m.1)); rintro e aU ⟨rfl, hb⟩; refine ⟨_, rfl, ?_⟩; have _ := Q_ (Kd.R_below (pr_ (rf3_ n.1 l.1)) hb); have _ := Q_ (blk_below (g := J) (o := .cells #[.int .i64 p, .slice t i.length x, .slice u j.length y] 34 (0, 0)) (pp_ c.1) hb); have _ := Q_ (blk_below (g := Q) (o := .cells #[.int .i64 ((rd_T34 s a).f0), .slice A ((rd_T34 s a).f1).length D, .slice B ((rd_T34 s a).f2).length E] 34 (0, 0)) (pp_ l.1) hb); have _ := Q_ (below_step (pb2_ HB.1 d.1 m.1) hb); clear n c l HB; rename_i n c l HB; (try clear hb)))
 (try simp only [Act.put, s1_, s2_, s3_])
 have H := HS_.1
 clear HS_
 by_cases Y : aa = true
 rotate_left
 ·replace Y := bf_ Y
  subst Y
  rw [if_neg ff_] at H
  have H' := Q_ H
  clear H
  go_wp2
  go_roundg k1
  case measure => have := X.1; omega
  case rel => exact ⟨(z), (wrap64 (a + 1)), el_, H', ⟨by have := X.1; omega⟩, ⟨pr_ n.1⟩, ⟨pk_ c.1⟩, ⟨pb2_ HB.1 d.1 m.1⟩⟩
 subst Y
 rw [if_pos rfl] at H
 by_cases Z : z.length < 17592186044416
 rotate_left
 ·rw [if_neg Z] at H
  exact nn_ H
 rw [if_pos Z] at H
 have al := Q_ Z
 clear Z
 obtain ⟨ac, hy245⟩ : ∃ y_ : List Int, y_ = (z ++ [a]) := ⟨_, rfl⟩
 replace H : (impl_WorksWith.l0 k1 ac s (s.length : Int) (wrap64 (a + 1)) p i j) = some r := hb_ hy245 H
 have am := Q_ hy245
 clear hy245
 have H' := Q_ H
 clear H
 go_wp2_with (first | ((with_reducible refine gate_builtin (b := .append) (xs := #[.tmp 19, .tmp 21]) rfl ?_); at_builtin; refine Kd.R_append (Kd.int .i64) (w0 := w) w.heap.size rfl (.tmp 19) (.tmp 21) 39 3 (.int .i64 0) 8 rfl Try.underlying39 info3 rfl (by decide) (by omega) u5 z a [.int .i64 a] (fun _ => True) (fun _ => False) rfl rfl ?aP (fun _ hk => hk.elim) ?aF ?aO ?aB ?aS ?aL ?_; (case aP => exact rfl); (case aB => exact (pb2_ HB.1 d.1 m.1)); (case aF => exact (fun _ _ => trivial)); (case aO => exact (pr_ n.1)); (case aS => exact (below_size (pb2_ HB.1 d.1 m.1))); (case aL => have := al.1; omega); intro aQ aV ho hb hg hat; rw [← am.1] at ho; have _ := Q_ (blk_grown (g := J) (o := .cells #[.int .i64 p, .slice t i.length x, .slice u j.length y] 34 (0, 0)) (pk_ c.1) hg (Kd.R_ne n.1 c.1 (by decide))); have _ := Q_ (blk_grown (g := Q) (o := .cells #[.int .i64 ((rd_T34 s a).f0), .slice A ((rd_T34 s a).f1).length D, .slice B ((rd_T34 s a).f2).length E] 34 (0, 0)) (pk_ l.1) hg (Kd.R_ne n.1 l.1 (by decide))); have _ := Q_ (hb); have _ := Q_ (ho); clear c l HB n; rename_i c l HB ai; clear ho hb hg hat))
 go_roundg k1
 case measure => have := X.1; omega
 case rel => exact ⟨(ac), (wrap64 (a + 1)), el_, H', ⟨by have := X.1; omega⟩, ⟨pr_ ai.1⟩, ⟨pk_ c.1⟩, ⟨pb2_ HB.1 d.1 m.1⟩⟩

/-! ### impl_LatestFor: function 14 -/
def impl_LatestFor.f (k : Nat) (e : List (S34)) (b : Int) (c : List Bool) (d : List (S78)) : Option (Int) := (impl_WorksWith.f k e b c d).bind fun a => (if (a.length : Int) = 0 then (some (-1)) else (if 0 ≤ (wrap64 ((a.length : Int) - 1)) then (if (wrap64 ((a.length : Int) - 1)) < (a.length : Int) then (some (rd a (wrap64 ((a.length : Int) - 1)))) else (none)) else (none)))
theorem impl_LatestFor.mono : ∀ a b c d k, LeO (impl_LatestFor.f k a b c d) (impl_LatestFor.f (k + 1) a b c d) := by
 intro a b c d k
 unfold impl_LatestFor.f
 exact mo1_ impl_WorksWith.mono
theorem impl_LatestFor.calls (k : Nat) (P : Option Addr) (T : Nat) (B : List (S34)) (d : Int) (o : Option Addr) (q : Nat) (b : List Bool) (p : Option Addr) (s : Nat) (c : List (S78)) (r : Int) (w : World) (hr0 : Kd.C k34 w P B.length B) (L : B.length ≤ T) (hr1_1 : Kd.C Kd.bool w o b.length b) (t : b.length ≤ q) (hr1_2 : Kd.C k78 w p c.length c) (u : c.length ≤ s) (h : impl_LatestFor.f k B d b c = some r) :
  Calls Try.prog 14 #[.slice P B.length T, .agg #[.int .i64 d, .slice o b.length q, .slice p c.length s]] w fun e w' => e = .returned (.int .i64 r) ∧ Below w.heap.size w w' := by
 have hu34 := Try.underlying34
 have R := Q_ hr0
 have Q := Q_ L
 clear hr0 L
 have G := Q_ hr1_1
 have E := Q_ t
 clear hr1_1 t
 have I := Q_ hr1_2
 have F := Q_ u
 clear hr1_2 u
 have HB := Q_ (Below.refl w.heap.size w)
 have H : ((impl_WorksWith.f k B d b c).bind fun a => (if (a.length : Int) = 0 then (some (-1)) else (if 0 ≤ (wrap64 ((a.length : Int) - 1)) then (if (wrap64 ((a.length : Int) - 1)) < (a.length : Int) then (some (rd a (wrap64 ((a.length : Int) - 1)))) else (none)) else (none)))) = some r := h
 clear h
 have HS_ := Q_ H
 clear H
 go_enter Try.func14, Try.ntmps14
 go_upto_region 1 with (first | ((with_reducible refine gate_dst (N := 3) rfl ?_); refine bx_ 3 #[.int .i64 d, .slice o b.length q, .slice p c.length s] 34 ?_; intro X hg w3 hbox hb; have _ := Q_ (below_step (pb_ HB.1) hb); have g := Q_ (hbox); have D := Q_ (gw_ (w := w) hg (pb_ HB.1)); have i := D; clear HB; rename_i HB; clear hb hbox hg))
 (try simp only [Act.put, s1_, s2_, s3_])
 have H := HS_.1
 clear HS_
 obtain ⟨a, A4, H⟩ := bs_ H
 (try dsimp only at H)
 have HS_ := Q_ H
 clear H
 have ab := bc3_ g.1
 go_upto_region 2 with (first | ((with_reducible refine gate_callee (f := 18) rfl ?_); refine gl_ (some 8) Try.func18 #[.slice P B.length T, .agg #[.int .i64 d, .slice o b.length q, .slice p c.length s]] ?_; (with_reducible refine (impl_WorksWith.calls k _ _ B d _ _ b _ _ c a _ (cb_ R HB) Q.1 (cb_ G HB) E.1 (cb_ I HB) F.1 A4.1).mono ?_); rintro e w6 ⟨ac, rfl, M, hb⟩; refine ⟨_, rfl, ?_⟩; have _ := Q_ (Kd.R_lower M (below_size (pb1_ HB.1 i.1))); have _ := Q_ (bb_ g.1 hb); have _ := Q_ (below_step (pb1_ HB.1 i.1) hb); clear g HB; rename_i n g HB; (try clear hb M)))
 (try simp only [Act.put, s1_, s2_, s3_])
 have H := HS_.1
 clear HS_
 by_cases A : (a.length : Int) = 0
 ·rw [if_pos A] at H
  have l : ((a.length : Int) == 0) = true := beq_iff_eq.mpr A
  have m : ((a.length : Int) != 0) = false := bne_eq_false_iff_eq.mpr A
  clear A
  (first | rw [l] | (simp only [i64_w, i32_w]; rw [l]) | rw [m] | (have c_ := m; rw [bne] at c_; rw [c_]; clear c_) | skip)
  obtain rfl := Option.some.inj H
  obtain ⟨ae, af, W⟩ := Kd.R_slice n.1
  subst W
  go_wp2
  go_ret
  exact ⟨er_, pb1_ HB.1 i.1⟩
 rw [if_neg A] at H
 have l : ((a.length : Int) == 0) = false := beq_eq_false_iff_ne.mpr A
 have m : ((a.length : Int) != 0) = true := bne_iff_ne.mpr A
 have Z : ¬ (a = []) := fun h_ => A (by rw [h_]; rfl)
 (first | rw [l] | (simp only [i64_w, i32_w]; rw [l]) | rw [m] | (have c_ := m; rw [bne] at c_; rw [c_]; clear c_) | skip)
 obtain ⟨j, hji9⟩ : ∃ j_ : Int, (wrap64 ((a.length : Int) - 1)) = j_ := ⟨_, rfl⟩
 replace H : (if 0 ≤ (j) then (if (j) < (a.length : Int) then (some (rd a (j))) else (none)) else (none)) = some r := by first | (rw [hji9] at H; exact H) | (simp only [hji9] at H ⊢; exact H)
 have hji9w : (IntKind.i64.wrap ((a.length : Int) - 1)) = j := (i64_w _).trans hji9
 by_cases y : 0 ≤ (j)
 rotate_left
 ·rw [if_neg y] at H
  exact nn_ H
 rw [if_pos y] at H
 have U := decide_eq_true y
 clear y
 by_cases z : (j) < (a.length : Int)
 rotate_left
 ·rw [if_neg z] at H
  exact nn_ H
 rw [if_pos z] at H
 have V := decide_eq_true z
 clear z
 obtain rfl := Option.some.inj H
 obtain ⟨Y, aa, K⟩ := Kd.R_slice n.1
 subst K
 have v : 0 ≤ ((j) : Int) := dt_
 have x : (j) < (a.length : Int) := dt_
 obtain ⟨S, J, O⟩ := Kd.at_int (Kd.R_reads' n.1).2.2 (j) v x
 cases J
 replace v := eq_true v
 replace x := eq_true x
 go_wp2
 go_ret
 exact ⟨by first | rfl | (simp [errW_none, errW_some] <;> rfl) | (simp only [← hji9]; first | rfl | (simp [errW_none, errW_some] <;> rfl)) | (simp [*, errW_none, errW_some] <;> rfl), pb1_ HB.1 i.1⟩

/-! ### impl_nextFollowed: function 80 -/
mutual
def impl_nextFollowed.l0 : Nat → Int → Int → List (List Int) → List Bool → Int → Int → Int → List Bool → List (S78) → Int → List Bool → List (S78) → Option ((List (List Int)))
 | 0, _, _, _, _, _, _, _, _, _, _, _, _ => none
 | k + 1, n, o, p, i, j, h, a, b, c, d, e, g => if h < j then (if 0 ≤ h then (if h < (i.length : Int) then ((impl_MovesFrom.f k a b c n true).bind fun l => (if rdOf false i h = true then (impl_nextFollowed.j1 k n o p (rdOf false i h) l i j h a b c d e g) else ((impl_MovesFrom.f k d e g o false).bind fun m => (impl_nextFollowed.j1 k n o p (rdOf false i h) m i j h a b c d e g)))) else (none)) else (none)) else (some p)
def impl_nextFollowed.j1 : Nat → Int → Int → List (List Int) → Bool → List Int → List Bool → Int → Int → Int → List Bool → List (S78) → Int → List Bool → List (S78) → Option ((List (List Int)))
 | 0, _, _, _, _, _, _, _, _, _, _, _, _, _, _ => none
 | k + 1, m, n, o, h, g, i, j, l, a, b, c, d, e, f => impl_nextFollowed.l1 k m n o h i j l g (g.length : Int) 0 a b c d e f
def impl_nextFollowed.l1 : Nat → Int → Int → List (List Int) → Bool → List Bool → Int → Int → List Int → Int → Int → Int → List Bool → List (S78) → Int → List Bool → List (S78) → Option ((List (List Int)))
 | 0, _, _, _, _, _, _, _, _, _, _, _, _, _, _, _, _ => none
 | k + 1, r, s, t, m, n, o, p, l, q, h, c, d, a, e, g, b => if h < q then (if 0 ≤ h then (if h < (l.length : Int) then ((impl_MoveOf.f k c d a r m (rd l h)).bind fun i => ((impl_MoveOf.f k e g b s m (rd l h)).bind fun j => (if i ≥ 0 then (if j ≥ 0 then (if 0 ≤ i then (if i < (a.length : Int) then (if 0 ≤ j then (if j < (b.length : Int) then (if t.length < 5864062014805 then (impl_nextFollowed.l1 k r s (t ++ [(([(rd_T78 a i).f3, (rd_T78 b j).f3] : List Int))]) m n o p l q (wrap64 (h + 1)) c d a e g b) else (none)) else (none)) else (none)) else (none)) else (none)) else (impl_nextFollowed.l1 k r s t m n o p l q (wrap64 (h + 1)) c d a e g b)) else (impl_nextFollowed.l1 k r s t m n o p l q (wrap64 (h + 1)) c d a e g b)))) else (none)) else (none)) else (impl_nextFollowed.l0 k r s t n o (wrap64 (p + 1)) c d a e g b)
end
def impl_nextFollowed.f (k : Nat) (b : Int) (d : List Bool) (e : List (S78)) (c : Int) (g : List Bool) (h : List (S78)) (i : Int) (j : Int) : Option ((List (List Int))) := (some (([true, false] : List Bool) : List Bool)).bind fun a => (impl_nextFollowed.l0 k i j (([] : List (List Int))) a (a.length : Int) 0 b d e c g h)
theorem impl_nextFollowed.mono_l : ∀ k, (∀ e f g i j l m n o p a b, LeO (impl_nextFollowed.l0 k e f g i j l m n o p a b) (impl_nextFollowed.l0 (k + 1) e f g i j l m n o p a b)) ∧ (∀ e f g i j l m n o p a b c d, LeO (impl_nextFollowed.j1 k e f g i j l m n o p a b c d) (impl_nextFollowed.j1 (k + 1) e f g i j l m n o p a b c d)) ∧ (∀ e f g i j l m n o p a b c d q s, LeO (impl_nextFollowed.l1 k e f g i j l m n o p a b c d q s) (impl_nextFollowed.l1 (k + 1) e f g i j l m n o p a b c d q s))
 | 0 => ⟨fun _ _ _ _ _ _ _ _ _ _ _ _ r h => by simp [impl_nextFollowed.l0] at h, fun _ _ _ _ _ _ _ _ _ _ _ _ _ _ r h => by simp [impl_nextFollowed.j1] at h, fun _ _ _ _ _ _ _ _ _ _ _ _ _ _ _ _ r h => by simp [impl_nextFollowed.l1] at h⟩
 | k + 1 => by
  obtain ⟨ih0, ih1, ih2⟩ := impl_nextFollowed.mono_l k
  refine ⟨?_, ?_, ?_⟩
  ·intro e f g i j l m n o p a b
   unfold impl_nextFollowed.l0
   exact mo5_ ih0 ih1 ih2 impl_MoveOf.mono impl_MovesFrom.mono
  ·intro e f g i j l m n o p a b c d
   unfold impl_nextFollowed.j1
   exact mo5_ ih0 ih1 ih2 impl_MoveOf.mono impl_MovesFrom.mono
  ·intro e f g i j l m n o p a b c d q s
   unfold impl_nextFollowed.l1
   exact mo5_ ih0 ih1 ih2 impl_MoveOf.mono impl_MovesFrom.mono
theorem impl_nextFollowed.mono : ∀ a b c d e g h i k, LeO (impl_nextFollowed.f k a b c d e g h i) (impl_nextFollowed.f (k + 1) a b c d e g h i) := by
 intro a b c d e g h i k
 obtain ⟨ih0, ih1, ih2⟩ := impl_nextFollowed.mono_l k
 unfold impl_nextFollowed.f
 exact mo5_ ih0 ih1 ih2 impl_MoveOf.mono impl_MovesFrom.mono
def impl_nextFollowed.T11 : Bool × List (List Nat × List Nat) := (true, [([], []), ([], []), ([], []), ([], []), ([0, 1, 2, 3], [0, 1, 2, 3]), ([], []), ([], []), ([], []), ([], []), ([5, 6, 7, 8, 4], [5, 6, 7, 8]), ([4, 9, 0, 1, 2, 3, 4], [4]), ([9, 10, 0, 1, 2, 3, 4, 5, 6, 7, 8, 9, 10], [9])])
def impl_nextFollowed.B11 : List Nat := [0, 0, 0, 0, 15, 0, 0, 0, 0, 511, 1023, 2047]
theorem impl_nextFollowed.tab11 : rtab .any (opsOf Try.f80 11) = impl_nextFollowed.T11 := by kernel_rfl
theorem impl_nextFollowed.bits11 : waitsOk impl_nextFollowed.T11.2 impl_nextFollowed.B11 = true := by kernel_rfl
def impl_nextFollowed.T13 : Bool × List (List Nat × List Nat) := (true, [([], []), ([], []), ([1], [1]), ([], []), ([2, 3], [2, 3]), ([4], [4]), ([5], [5]), ([], []), ([7], [7]), ([], []), ([8, 9], [8, 9]), ([10], [10]), ([11], [11]), ([6, 12], [6, 12]), ([13], [13]), ([0, 14], [0, 14]), ([15, 15, 0, 1, 2, 3, 4, 5, 6, 7, 8, 9, 10, 11, 12, 13, 14, 15], [0, 15])])
def impl_nextFollowed.B13 : List Nat := [0, 0, 2, 0, 14, 30, 62, 0, 128, 0, 896, 1920, 3968, 8190, 16382, 32767, 65535]
theorem impl_nextFollowed.tab13 : rtab .any (opsOf Try.f80 13) = impl_nextFollowed.T13 := by kernel_rfl
theorem impl_nextFollowed.bits13 : waitsOk impl_nextFollowed.T13.2 impl_nextFollowed.B13 = true := by kernel_rfl
theorem impl_nextFollowed.calls (k : Nat) (A : Int) (J : Option Addr) (O : Nat) (x : List Bool) (ae : Option Addr) (P : Nat) (m : List (S78)) (z : Int) (L : Option Addr) (Q : Nat) (u : List Bool) (af : Option Addr) (T : Nat) (j : List (S78)) (a2 : Int) (a3 : Int) (r : List (List Int)) (w : World) (hr0_1 : Kd.C Kd.bool w J x.length x) (bc : x.length ≤ O) (hr0_2 : Kd.C k78 w ae m.length m) (bd : m.length ≤ P) (hr1_1 : Kd.C Kd.bool w L u.length u) (be : u.length ≤ Q) (hr1_2 : Kd.C k78 w af j.length j) (bf : j.length ≤ T) (h : impl_nextFollowed.f k A x m z u j a2 a3 = some r) :
  Calls Try.prog 80 #[.agg #[.int .i64 A, .slice J x.length O, .slice ae m.length P], .agg #[.int .i64 z, .slice L u.length Q, .slice af j.length T], .int .i64 a2, .int .i64 a3] w fun e w' => ∃ v0_ : Value, e = .returned (v0_) ∧ Kd.S (Kd.slice 3 (Kd.int .i64)) 39 w' w.heap.size (fun _ => True) v0_ r ∧ Below w.heap.size w w' := by
 have hu34 := Try.underlying34
 have a5 := Q_ hr0_1
 have aW := Q_ bc
 clear hr0_1 bc
 have aJ := Q_ hr0_2
 have aX := Q_ bd
 clear hr0_2 bd
 have a6 := Q_ hr1_1
 have aZ := Q_ be
 clear hr1_1 be
 have aK := Q_ hr1_2
 have a0 := Q_ bf
 clear hr1_2 bf
 have HB := Q_ (Below.refl w.heap.size w)
 have H : ((some (([true, false] : List Bool) : List Bool)).bind fun i => (impl_nextFollowed.l0 k a2 a3 (([] : List (List Int))) i (i.length : Int) 0 A x m z u j)) = some r := h
 clear h
 obtain ⟨bq, hy255⟩ : ∃ y_ : List (List Int), y_ = (([] : List (List Int))) := ⟨_, rfl⟩
 replace H : ((some (([true, false] : List Bool) : List Bool)).bind fun i => (impl_nextFollowed.l0 k a2 a3 bq i (i.length : Int) 0 A x m z u j)) = some r := hb_ hy255 H
 have a7 := Q_ hy255
 clear hy255
 obtain ⟨i, hy258⟩ : ∃ y_ : List Bool, y_ = (([true, false] : List Bool)) := ⟨_, rfl⟩
 replace H : (impl_nextFollowed.l0 k a2 a3 bq i (i.length : Int) 0 A x m z u j) = some r := hb_ hy258 H
 have a8 := Q_ hy258
 clear hy258
 have H' := Q_ H
 clear H
 go_enter Try.func80, Try.ntmps80
 go_wp2_with (first | ((with_reducible refine gate_dst (N := 4) rfl ?_); refine bx_ 4 #[.int .i64 A, .slice J x.length O, .slice ae m.length P] 34 ?_; intro E hg w5 hbox hb; have _ := Q_ (below_step (pb_ HB.1) hb); have a := Q_ (hbox); have bH := Q_ (gw_ (w := w) hg (pb_ HB.1)); have q := bH; clear HB; rename_i HB; clear hb hbox hg) | ((with_reducible refine gate_dst (N := 5) rfl ?_); refine bx_ 5 #[.int .i64 z, .slice L u.length Q, .slice af j.length T] 34 ?_; intro F hg w6 hbox hb; have _ := Q_ (bb_ a.1 hb); have _ := Q_ (below_step (pb1_ HB.1 q.1) hb); have b := Q_ (hbox); have bI := Q_ (gw_ (w := w) hg (pb1_ HB.1 q.1)); have t := bI; have ad := Q_ (nb_ hg a); have ar := Q_ ad.1.symm; clear a HB; rename_i a HB; clear hb hbox hg) | ((with_reducible refine gate_dst (N := 17) rfl ?_); refine Kd.S_lit (Kd.slice 3 (Kd.int .i64)) _ 39 ?hg (N := 17) ?hd (xs := ([] : List (List Int))) (inner := []) (ok := fun _ => True) (okp := fun _ => True) ?hr ?hp (fun _ hk => hk) trivial (Below.refl _ _) (Nat.le_refl _) (by simp) ?_; (case hd => rfl); (case hg => rfl); (case hr => first | (go_simp; done) | (go_simp; rfl)); (case hp => exact (Reps.none _ _)); intro cm w7 bg hb hg_ hnew_; clear hg_ hnew_; (first | rw [← a7.1] at bg | (simp only [Int.reduceToNat] at bg; rw [← a7.1] at bg)); have _ := Q_ (Kd.S_lower bg (below_size (pb2_ HB.1 q.1 t.1))); have _ := Q_ (bb_ a.1 hb); have _ := Q_ (bb_ b.1 hb); have _ := Q_ (below_step (pb2_ HB.1 q.1 t.1) hb); clear a b HB; rename_i ay a b HB; clear hb bg) | ((with_reducible refine gate_dst (N := 18) rfl ?_); refine Kd.R_lit Kd.bool _ 4 ?hg (N := 18) ?hd (xs := ([true, false] : List Bool)) (inner := [.bool true, .bool false]) (ok := fun _ => True) (okp := fun _ => True) ?hr ?hp (fun _ hk => hk) trivial (Below.refl _ _) (Nat.le_refl _) (by simp) ?_; (case hd => rfl); (case hg => rfl); (case hr => first | (go_simp; done) | (go_simp; rfl)); (case hp => exact (Reps.one (show Kd.M Kd.bool _ _ _ true [.bool true] from rfl) (Reps.one (show Kd.M Kd.bool _ _ _ false [.bool false] from rfl) (Reps.none _ _)))); intro cn w9 aG hb hg_ hnew_; clear hg_ hnew_; (first | rw [← a8.1] at aG | (simp only [Int.reduceToNat] at aG; rw [← a8.1] at aG)); have _ := Q_ (Kd.S_below (ps_ ay.1) hb); have _ := Q_ (Kd.R_lower aG (below_size (pb2_ HB.1 q.1 t.1))); have _ := Q_ (bb_ a.1 hb); have _ := Q_ (bb_ b.1 hb); have _ := Q_ (below_step (pb2_ HB.1 q.1 t.1) hb); clear ay a b HB; rename_i ay a1 a b HB; clear hb aG; obtain ⟨bQ, bb, bV⟩ := Kd.R_slice a1.1; subst bV))
 (try simp only [Act.put, s1_, s2_, s3_])
 go_loopg [9, 20] k (fun kq v9 ci w' => ∃ (ap : List (List Int)) (s : Int), ci = .int .i64 s ∧ Aside0 (impl_nextFollowed.l0 kq a2 a3 ap i (i.length : Int) s A x m z u j = some r) ∧ Aside0 (kq ≤ k) ∧ Aside0 (Kd.S (Kd.slice 3 (Kd.int .i64)) 39 w' w.heap.size (fun _ => True) v9 ap) ∧ Aside0 (Kd.R Kd.bool 4 w' w.heap.size (fun _ => True) (.slice bQ i.length bb) i) ∧ Aside0 (w'.heap[E]? = some (.cells #[.int .i64 A, (.slice J x.length O), (.slice ae m.length P)] 34 (0, 0))) ∧ Aside0 (w'.heap[F]? = some (.cells #[.int .i64 z, (.slice L u.length Q), (.slice af j.length T)] 34 (0, 0))) ∧ Aside0 (Below w.heap.size w w'))
 case atStart => exact ⟨(bq), (0), el_, H', ⟨Nat.le_refl _⟩, ⟨ps_ ay.1⟩, ⟨pr_ a1.1⟩, ⟨pk_ a.1⟩, ⟨pk_ b.1⟩, ⟨pb2_ HB.1 q.1 t.1⟩⟩
 clear H'
 obtain ⟨ap, s, rfl, HA, ax, d, c, a, b, HB⟩ := hrel
 rcases gk with _ | k1
 ·exact absurd HA.1 (by simp [impl_nextFollowed.l0])
 have H := HA.1
 clear HA
 simp only [impl_nextFollowed.l0] at H
 by_cases aR : s < (i.length : Int)
 rotate_left
 ·rw [if_neg aR] at H
  have bN := decide_eq_false aR
  clear aR
  obtain rfl := Option.some.inj H
  go_wp2
  go_ret
  exact ⟨_, er_, ps_ d.1, pb2_ HB.1 q.1 t.1⟩
 rw [if_pos aR] at H
 have bN := decide_eq_true aR
 clear aR
 by_cases br : 0 ≤ s
 rotate_left
 ·rw [if_neg br] at H
  exact nn_ H
 rw [if_pos br] at H
 have b4 := decide_eq_true br
 clear br
 by_cases bs : s < (i.length : Int)
 rotate_left
 ·rw [if_neg bs] at H
  exact nn_ H
 rw [if_pos bs] at H
 have b5 := decide_eq_true bs
 clear bs
 obtain ⟨bp, b0, H⟩ := bs_ H
 (try dsimp only at H)
 have aY := Q_ H
 clear H
 have bh : 0 ≤ (s : Int) := dt_
 have bl : s < (i.length : Int) := dt_
 obtain ⟨ba, bR, bX⟩ := Kd.at_bool (Kd.R_reads' c.1).2.2 s bh bl
 cases bR
 replace bh := eq_true bh
 replace bl := eq_true bl
 have ce := ad.1
 have cg := ar.1
 have cc := bc3_ a.1
 go_upto_if 28 with (first | ((with_reducible refine gate_callee (f := 81) rfl ?_); refine gl_ (some 26) Try.func81 #[.agg #[.int .i64 A, .slice J x.length O, .slice ae m.length P], .int .i64 a2, .bool true] ?_; (with_reducible refine (impl_MovesFrom.calls k1 A _ _ x _ _ m a2 true bp _ (cb_ a5 HB) aW.1 (cb_ aJ HB) aX.1 b0.1).mono ?_); rintro e cs ⟨co, rfl, aE, hb⟩; refine ⟨_, rfl, ?_⟩; have _ := Q_ (Kd.S_elder' (ps_ d.1) (Kd.R_base aE) hb); have _ := Q_ (Kd.R_below (pr_ c.1) hb); have _ := Q_ (Kd.R_lower aE (below_size (pb2_ HB.1 q.1 t.1))); have _ := Q_ (bb_ a.1 hb); have _ := Q_ (bb_ b.1 hb); have _ := Q_ (below_step (pb2_ HB.1 q.1 t.1) hb); clear d c a b HB; rename_i d c aq a b HB; (try clear hb aE)))
 (try simp only [Act.put, s1_, s2_, s3_])
 go_cut [12] (fun bZ wc => ∃ (kq : Nat) (l : List Int), Aside0 (impl_nextFollowed.j1 kq a2 a3 ap (rdOf false i s) l i (i.length : Int) s A x m z u j = some r) ∧ Aside0 (kq ≤ k1) ∧ Aside0 (Kd.S (Kd.slice 3 (Kd.int .i64)) 39 wc w.heap.size (fun k_ => some k_ ≠ (bZ : Value).ownBlock) u9 ap) ∧ Aside0 (Kd.R (Kd.int .i64) 3 wc w.heap.size (fun _ => True) bZ l) ∧ Aside0 (Kd.R Kd.bool 4 wc w.heap.size (fun _ => True) (.slice (some ba) i.length bb) i) ∧ Aside0 (wc.heap[E]? = some (.cells #[.int .i64 A, (.slice J x.length O), (.slice ae m.length P)] 34 (0, 0))) ∧ Aside0 (wc.heap[F]? = some (.cells #[.int .i64 z, (.slice L u.length Q), (.slice af j.length T)] 34 (0, 0))) ∧ Aside0 (Below w.heap.size w wc))
 case first =>
  have H := aY.1
  clear aY
  obtain ⟨aN, hbq20⟩ : ∃ b_ : Bool, b_ = (rdOf false i s) := ⟨_, rfl⟩
  replace H : (if aN = true then (impl_nextFollowed.j1 k1 a2 a3 ap aN bp i (i.length : Int) s A x m z u j) else ((impl_MovesFrom.f k1 z u j a3 false).bind fun aQ => (impl_nextFollowed.j1 k1 a2 a3 ap aN aQ i (i.length : Int) s A x m z u j))) = some r := by rw [← hbq20] at H; exact H
  have au := Q_ hbq20
  clear hbq20
  (try rw [← au.1])
  by_cases bt : aN = true
  ·subst bt
   rw [if_pos rfl] at H
   have H' := Q_ H
   clear H
   go_wp2
   refine Met.intro ?_; go_step; (try rw [← au.1]); (repeat apply Exists.intro); refine ⟨?rel, rfl⟩
   case rel => (try rw [← au.1]); exact ⟨_, (bp), H', ⟨by have := ax.1; first | omega | exact Nat.le_refl _⟩, ⟨ps_ (Kd.S_mono d.1 (fun _ hk => hk.2))⟩, ⟨pr_ aq.1⟩, ⟨pr_ c.1⟩, ⟨pk_ a.1⟩, ⟨pk_ b.1⟩, ⟨pb2_ HB.1 q.1 t.1⟩⟩
  replace bt := bf_ bt
  subst bt
  rw [if_neg ff_] at H
  obtain ⟨aQ, b1, H⟩ := bs_ H
  (try dsimp only at H)
  have H' := Q_ H
  clear H
  have cf := ar.1
  have ch := ad.1
  have cd := bc3_ b.1
  go_wp2_with (first | ((with_reducible refine gate_callee (f := 81) rfl ?_); refine gl_ (some 31) Try.func81 #[.agg #[.int .i64 z, .slice L u.length Q, .slice af j.length T], .int .i64 a3, .bool false] ?_; (with_reducible refine (impl_MovesFrom.calls k1 z _ _ u _ _ j a3 false aQ _ (cb_ a6 HB) aZ.1 (cb_ aK HB) a0.1 b1.1).mono ?_); rintro e ct ⟨cp, rfl, aE, hb⟩; refine ⟨_, rfl, ?_⟩; have _ := Q_ (Kd.S_elder' (ps_ d.1) (Kd.R_base aE) hb); have _ := Q_ (Kd.R_below (pr_ c.1) hb); have _ := Q_ (Kd.R_elder' (pr_ aq.1) (Kd.R_base aE) hb); have _ := Q_ (Kd.R_lower (Kd.R_new' aE (Kd.R_lt (pr_ aq.1))) (below_size (pb2_ HB.1 q.1 t.1))); have _ := Q_ (bb_ a.1 hb); have _ := Q_ (bb_ b.1 hb); have _ := Q_ (below_step (pb2_ HB.1 q.1 t.1) hb); clear d c aq a b HB; rename_i d c aq bJ a b HB; (try clear hb aE)))
  refine Met.intro ?_; go_step; (try rw [← au.1]); (repeat apply Exists.intro); refine ⟨?rel, rfl⟩
  case rel => (try rw [← au.1]); exact ⟨_, (aQ), H', ⟨by have := ax.1; first | omega | exact Nat.le_refl _⟩, ⟨ps_ (Kd.S_mono d.1 (fun _ hk => hk.2))⟩, ⟨pr_ (Kd.R_mono bJ.1 (fun _ hk => trivial))⟩, ⟨pr_ c.1⟩, ⟨pk_ a.1⟩, ⟨pk_ b.1⟩, ⟨pb2_ HB.1 q.1 t.1⟩⟩
 clear aY
 obtain ⟨kq, l, HA, ao, d, a4, c, a, b, HB⟩ := hcut
 rcases kq with _ | kj15
 ·exact absurd HA.1 (by simp [impl_nextFollowed.j1])
 have H := HA.1
 clear HA
 simp only [impl_nextFollowed.j1] at H
 have H' := Q_ H
 clear H
 obtain ⟨bC, aD, bW⟩ := Kd.R_slice a4.1
 subst bW
 go_wp2
 go_loopg [9, 34] kj15 (fun kq v9 cj w' => ∃ (ac : List (List Int)) (y : Int), cj = .int .i64 y ∧ Aside0 (impl_nextFollowed.l1 kq a2 a3 ac (rdOf false i s) i (i.length : Int) s l (l.length : Int) y A x m z u j = some r) ∧ Aside0 (kq ≤ kj15) ∧ Aside0 (Kd.S (Kd.slice 3 (Kd.int .i64)) 39 w' w.heap.size (fun k_ => some k_ ≠ ((.slice bC l.length aD) : Value).ownBlock) v9 ac) ∧ Aside0 (Kd.R Kd.bool 4 w' w.heap.size (fun _ => True) (.slice (some ba) i.length bb) i) ∧ Aside0 (Kd.R (Kd.int .i64) 3 w' w.heap.size (fun _ => True) (.slice bC l.length aD) l) ∧ Aside0 (w'.heap[E]? = some (.cells #[.int .i64 A, (.slice J x.length O), (.slice ae m.length P)] 34 (0, 0))) ∧ Aside0 (w'.heap[F]? = some (.cells #[.int .i64 z, (.slice L u.length Q), (.slice af j.length T)] 34 (0, 0))) ∧ Aside0 (Below w.heap.size w w'))
 case atStart => exact ⟨(ap), (0), el_, H', ⟨Nat.le_refl _⟩, ⟨ps_ d.1⟩, ⟨pr_ c.1⟩, ⟨pr_ a4.1⟩, ⟨pk_ a.1⟩, ⟨pk_ b.1⟩, ⟨pb2_ HB.1 q.1 t.1⟩⟩
 clear H'
 obtain ⟨ac, y, rfl, HA, aA, d, c, p, a, b, HB⟩ := hrel
 rcases gk with _ | k3
 ·exact absurd HA.1 (by simp [impl_nextFollowed.l1])
 have H := HA.1
 clear HA
 simp only [impl_nextFollowed.l1] at H
 by_cases aT : y < (l.length : Int)
 rotate_left
 ·rw [if_neg aT] at H
  have bO := decide_eq_false aT
  clear aT
  have H' := Q_ H
  clear H
  go_wp2
  go_roundg k3
  case measure => have := ax.1; have := ao.1; have := aA.1; omega
  case rel => exact ⟨(ac), (wrap64 (s + 1)), el_, H', ⟨by have := ax.1; have := ao.1; have := aA.1; omega⟩, ⟨ps_ (Kd.S_mono d.1 (fun _ hk => trivial))⟩, ⟨pr_ c.1⟩, ⟨pk_ a.1⟩, ⟨pk_ b.1⟩, ⟨pb2_ HB.1 q.1 t.1⟩⟩
 rw [if_pos aT] at H
 have bO := decide_eq_true aT
 clear aT
 by_cases bu : 0 ≤ y
 rotate_left
 ·rw [if_neg bu] at H
  exact nn_ H
 rw [if_pos bu] at H
 have b6 := decide_eq_true bu
 clear bu
 by_cases bv : y < (l.length : Int)
 rotate_left
 ·rw [if_neg bv] at H
  exact nn_ H
 rw [if_pos bv] at H
 have b7 := decide_eq_true bv
 clear bv
 obtain ⟨B, b2, H⟩ := bs_ H
 (try dsimp only at H)
 obtain ⟨D, b3, H⟩ := bs_ H
 (try dsimp only at H)
 have HS_ := Q_ H
 clear H
 have bi : 0 ≤ (y : Int) := dt_
 have bm : y < (l.length : Int) := dt_
 obtain ⟨aM, bS, bY⟩ := Kd.at_int (Kd.R_reads' p.1).2.2 y bi bm
 cases bS
 replace bi := eq_true bi
 replace bm := eq_true bm
 try go_wp2
 have _ := Q_ (Kd.S_drew d.1)
 have _ := Q_ (Kd.R_drew c.1)
 have _ := Q_ (Kd.R_drew p.1)
 have _ := Q_ (blk_drew a.1)
 have _ := Q_ (blk_drew b.1)
 have _ := Q_ (below_drew1 HB.1)
 clear d c p a b HB
 rename_i d c p a b HB
 refine start_ (n := 12) (S := fun w' => w'.cell? ⟨E, 0, none⟩ = some (.int .i64 A) ∧ w'.cell? ⟨E, 1, none⟩ = some (.slice J x.length O) ∧ w'.cell? ⟨E, 2, none⟩ = some (.slice ae m.length P) ∧ w'.cell? ⟨F, 0, none⟩ = some (.int .i64 z) ∧ w'.cell? ⟨F, 1, none⟩ = some (.slice L u.length Q) ∧ w'.cell? ⟨F, 2, none⟩ = some (.slice af j.length T)) (ds := []) (tf_ 0 12) (by kernel_rfl) rfl rfl ⟨(blk_cell a.1 0).trans rfl, (blk_cell a.1 1).trans rfl, (blk_cell a.1 2).trans rfl, (blk_cell b.1 0).trans rfl, (blk_cell b.1 1).trans rfl, (blk_cell b.1 2).trans rfl⟩ (fun hHeld => ?_); refine with_tabW impl_nextFollowed.tab11 impl_nextFollowed.bits11 (fun HT_ HW_ => ?_)
 generalize wr.drew = cu at d c p a b HB hHeld ⊢
 refine pu1_ 1 39 12 2 ?_
 refine pu1_ 2 40 12 6 ?_
 refine pu1_ 3 41 12 14 ?_
 refine pu1_ 6 44 12 78 ?_
 refine pu1_ 7 45 12 206 ?_
 refine pu1_ 8 46 12 462 ?_
 refine ta1_ 0 38 12 463 hHeld ?_
 refine ta1_ 5 43 12 495 hHeld ?_
 refine on_ 4 (some 42) (tf_ 9 12) HT_ (fun K hK => ?_)
 refine goes_ Try.func94 (by kernel_rfl) rfl #[.agg #[.int .i64 A, .slice J x.length O, .slice ae m.length P], .int .i64 a2, .bool (rdOf false i s), .int .i64 (rd l y)] (by rfl) rfl rfl mp_ ?_
 with_reducible refine (impl_MoveOf.calls k3 A _ _ x _ _ m a2 (rdOf false i s) (rd l y) B _ (cb_ a5 HB) aW.1 (cb_ aJ HB) aX.1 b2.1).mono ?_
 rintro e cv ⟨rfl, hb⟩
 refine ⟨_, rfl, ?_⟩
 have _ := Q_ (Kd.S_below (ps_ d.1) hb)
 have _ := Q_ (Kd.R_below (pr_ c.1) hb)
 have _ := Q_ (Kd.R_below (pr_ p.1) hb)
 have _ := Q_ (bb_ a.1 hb)
 have _ := Q_ (bb_ b.1 hb)
 have _ := Q_ (below_step (pb2_ HB.1 q.1 t.1) hb)
 clear d c p a b HB
 rename_i d c p a b HB
 (try clear hb)
 refine hK.out _ _ ⟨(blk_cell a.1 0).trans rfl, (blk_cell a.1 1).trans rfl, (blk_cell a.1 2).trans rfl, (blk_cell b.1 0).trans rfl, (blk_cell b.1 1).trans rfl, (blk_cell b.1 2).trans rfl⟩ (fun hHeld => ?_)
 clear hK K
 refine no_ (some 42) ?_
 refine on_ 9 (some 47) (tf_ 10 12) HT_ (fun K hK => ?_)
 refine goes_ Try.func94 (by kernel_rfl) rfl #[.agg #[.int .i64 z, .slice L u.length Q, .slice af j.length T], .int .i64 a3, .bool (rdOf false i s), .int .i64 (rd l y)] (by rfl) rfl rfl mp_ ?_
 with_reducible refine (impl_MoveOf.calls k3 z _ _ u _ _ j a3 (rdOf false i s) (rd l y) D _ (cb_ a6 HB) aZ.1 (cb_ aK HB) a0.1 b3.1).mono ?_
 rintro e cl ⟨rfl, hb⟩
 refine ⟨_, rfl, ?_⟩
 have _ := Q_ (Kd.S_below (ps_ d.1) hb)
 have _ := Q_ (Kd.R_below (pr_ c.1) hb)
 have _ := Q_ (Kd.R_below (pr_ p.1) hb)
 have _ := Q_ (bb_ a.1 hb)
 have _ := Q_ (bb_ b.1 hb)
 have _ := Q_ (below_step (pb2_ HB.1 q.1 t.1) hb)
 clear d c p a b HB
 rename_i d c p a b HB
 (try clear hb)
 refine hK.out _ _ ⟨(blk_cell a.1 0).trans rfl, (blk_cell a.1 1).trans rfl, (blk_cell a.1 2).trans rfl, (blk_cell b.1 0).trans rfl, (blk_cell b.1 1).trans rfl, (blk_cell b.1 2).trans rfl⟩ (fun hHeld => ?_)
 clear hK K
 refine no_ (some 47) ?_
 refine pu1_ 10 15 12 2047 ?_
 refine pu1_ 11 16 12 4095 ?_
 refine done_ (done_of HT_.1 (by kernel_rfl)) ?_
 go_upto_region 12 with (fail)
 have H := HS_.1
 clear HS_
 by_cases aU : B ≥ 0
 rotate_left
 ·rw [if_neg aU] at H
  have av := decide_eq_false aU
  clear aU
  (first | rw [av] | (simp only [i64_w, i32_w]; rw [av]) | skip)
  have H' := Q_ H
  clear H
  go_wp2
  go_roundg k3
  case measure => have := ax.1; have := ao.1; have := aA.1; omega
  case rel => exact ⟨(ac), (wrap64 (y + 1)), el_, H', ⟨by have := ax.1; have := ao.1; have := aA.1; omega⟩, ⟨ps_ d.1⟩, ⟨pr_ c.1⟩, ⟨pr_ p.1⟩, ⟨pk_ a.1⟩, ⟨pk_ b.1⟩, ⟨pb2_ HB.1 q.1 t.1⟩⟩
 rw [if_pos aU] at H
 have av := decide_eq_true aU
 clear aU
 (first | rw [av] | (simp only [i64_w, i32_w]; rw [av]) | skip)
 by_cases aV : D ≥ 0
 rotate_left
 ·rw [if_neg aV] at H
  have bP := decide_eq_false aV
  clear aV
  have H' := Q_ H
  clear H
  go_wp2
  go_roundg k3
  case measure => have := ax.1; have := ao.1; have := aA.1; omega
  case rel => exact ⟨(ac), (wrap64 (y + 1)), el_, H', ⟨by have := ax.1; have := ao.1; have := aA.1; omega⟩, ⟨ps_ d.1⟩, ⟨pr_ c.1⟩, ⟨pr_ p.1⟩, ⟨pk_ a.1⟩, ⟨pk_ b.1⟩, ⟨pb2_ HB.1 q.1 t.1⟩⟩
 rw [if_pos aV] at H
 have bP := decide_eq_true aV
 clear aV
 by_cases bw : 0 ≤ B
 rotate_left
 ·rw [if_neg bw] at H
  exact nn_ H
 rw [if_pos bw] at H
 have b8 := decide_eq_true bw
 clear bw
 by_cases bx : B < (m.length : Int)
 rotate_left
 ·rw [if_neg bx] at H
  exact nn_ H
 rw [if_pos bx] at H
 have b9 := decide_eq_true bx
 clear bx
 by_cases bz : 0 ≤ D
 rotate_left
 ·rw [if_neg bz] at H
  exact nn_ H
 rw [if_pos bz] at H
 have ca := decide_eq_true bz
 clear bz
 by_cases bA : D < (j.length : Int)
 rotate_left
 ·rw [if_neg bA] at H
  exact nn_ H
 rw [if_pos bA] at H
 have cb := decide_eq_true bA
 clear bA
 obtain ⟨aH, hy273⟩ : ∃ y_ : List Int, y_ = (([(rd_T78 m B).f3, (rd_T78 j D).f3] : List Int)) := ⟨_, rfl⟩
 replace H : (if ac.length < 5864062014805 then (impl_nextFollowed.l1 k3 a2 a3 (ac ++ [aH]) (rdOf false i s) i (i.length : Int) s l (l.length : Int) (wrap64 (y + 1)) A x m z u j) else (none)) = some r := hb_ hy273 H
 have a9 := Q_ hy273
 clear hy273
 by_cases bB : ac.length < 5864062014805
 rotate_left
 ·rw [if_neg bB] at H
  exact nn_ H
 rw [if_pos bB] at H
 have bL := Q_ bB
 clear bB
 obtain ⟨bG, hy276⟩ : ∃ y_ : List (List Int), y_ = (ac ++ [aH]) := ⟨_, rfl⟩
 replace H : (impl_nextFollowed.l1 k3 a2 a3 bG (rdOf false i s) i (i.length : Int) s l (l.length : Int) (wrap64 (y + 1)) A x m z u j) = some r := hb_ hy276 H
 have bM := Q_ hy276
 clear hy276
 have H' := Q_ H
 clear H
 try go_wp2
 have _ := Q_ (Kd.S_drew d.1)
 have _ := Q_ (Kd.R_drew c.1)
 have _ := Q_ (Kd.R_drew p.1)
 have _ := Q_ (blk_drew a.1)
 have _ := Q_ (blk_drew b.1)
 have _ := Q_ (below_drew1 HB.1)
 clear d c p a b HB
 rename_i d c p a b HB
 have bj : 0 ≤ (B : Int) := dt_
 have bn : B < (m.length : Int) := dt_
 obtain ⟨G, bT, ag, ah, ai, aj⟩ := at_T78 aJ.1 B bj bn
 have X := aj
 have W := ai
 have V := ah
 have U := ag
 cases bT
 replace ag := bt_ HB ag
 replace ah := bt_ HB ah
 replace ai := bt_ HB ai
 replace aj := bt_ HB aj
 replace bj := eq_true bj
 replace bn := eq_true bn
 have bk : 0 ≤ (D : Int) := dt_
 have bo : D < (j.length : Int) := dt_
 obtain ⟨I, bU, ak, al, am, an⟩ := at_T78 aK.1 D bk bo
 have ab := an
 have aa := am
 have Z := al
 have Y := ak
 cases bU
 replace ak := bt_ HB ak
 replace al := bt_ HB al
 replace am := bt_ HB am
 replace an := bt_ HB an
 replace bk := eq_true bk
 replace bo := eq_true bo
 refine start_ (n := 17) (S := fun w' => w'.cell? ⟨E, 0, none⟩ = some (.int .i64 A) ∧ w'.cell? ⟨E, 1, none⟩ = some (.slice J x.length O) ∧ w'.cell? ⟨E, 2, none⟩ = some (.slice (some G) m.length P) ∧ w'.cell? ⟨F, 0, none⟩ = some (.int .i64 z) ∧ w'.cell? ⟨F, 1, none⟩ = some (.slice L u.length Q) ∧ w'.cell? ⟨F, 2, none⟩ = some (.slice (some I) j.length T) ∧ w'.cell? (G.add ((B).toNat * 4)) = some (.int .i64 ((rd_T78 m B).f0)) ∧ w'.cell? ⟨(G.add ((B).toNat * 4)).block, (G.add ((B).toNat * 4)).off + 1, none⟩ = some (.bool ((rd_T78 m B).f1)) ∧ w'.cell? ⟨(G.add ((B).toNat * 4)).block, (G.add ((B).toNat * 4)).off + 2, none⟩ = some (.int .i64 ((rd_T78 m B).f2)) ∧ w'.cell? ⟨(G.add ((B).toNat * 4)).block, (G.add ((B).toNat * 4)).off + 3, none⟩ = some (.int .i64 ((rd_T78 m B).f3)) ∧ w'.cell? (I.add ((D).toNat * 4)) = some (.int .i64 ((rd_T78 j D).f0)) ∧ w'.cell? ⟨(I.add ((D).toNat * 4)).block, (I.add ((D).toNat * 4)).off + 1, none⟩ = some (.bool ((rd_T78 j D).f1)) ∧ w'.cell? ⟨(I.add ((D).toNat * 4)).block, (I.add ((D).toNat * 4)).off + 2, none⟩ = some (.int .i64 ((rd_T78 j D).f2)) ∧ w'.cell? ⟨(I.add ((D).toNat * 4)).block, (I.add ((D).toNat * 4)).off + 3, none⟩ = some (.int .i64 ((rd_T78 j D).f3))) (ds := []) (tf_ 0 17) (by kernel_rfl) rfl rfl ⟨(blk_cell a.1 0).trans rfl, (blk_cell a.1 1).trans rfl, (blk_cell a.1 2).trans rfl, (blk_cell b.1 0).trans rfl, (blk_cell b.1 1).trans rfl, (blk_cell b.1 2).trans rfl, (bt_ HB U), (bt_ HB V), (bt_ HB W), (bt_ HB X), (bt_ HB Y), (bt_ HB Z), (bt_ HB aa), (bt_ HB ab)⟩ (fun hHeld => ?_); refine with_tabW impl_nextFollowed.tab13 impl_nextFollowed.bits13 (fun HT_ HW_ => ?_)
 generalize cl.drew = cw at d c p a b HB ag ah ai aj ak al am an hHeld ⊢
 refine pu1_ 0 54 17 1 ?_
 refine pu1_ 1 55 17 3 ?_
 refine pu1_ 3 57 17 11 ?_
 refine pu1_ 7 61 17 139 ?_
 refine pu1_ 9 63 17 651 ?_
 refine ta1_ 2 56 17 655 hHeld ?_
 refine pu1_ 4 58 17 671 ?_
 refine pu1_ 5 59 17 703 ?_
 refine ta1_ 6 60 17 767 hHeld ?_
 refine ta1_ 8 62 17 1023 hHeld ?_
 refine pu1_ 10 64 17 2047 ?_
 refine pu1_ 11 65 17 4095 ?_
 refine ta1_ 12 66 17 8191 hHeld ?_
 refine on_ 13 (some 67) (tf_ 14 17) HT_ (fun K hK => ?_)
 refine Kd.R_lit_step (Kd.int .i64) _ 3 ?hg (N := 67) ?hd (xs := ([(rd_T78 m B).f3, (rd_T78 j D).f3] : List Int)) (inner := [.int .i64 ((rd_T78 m B).f3), .int .i64 ((rd_T78 j D).f3)]) (ok := fun _ => True) (okp := fun _ => True) ?hr ?hp (fun _ hk => hk) trivial (Below.refl _ _) (Nat.le_refl _) (by simp) ?_; (case hd => rfl); (case hg => rfl); (case hr => first | (go_simp; done) | (go_simp; rfl)); (case hp => exact (Reps.one (show Kd.M (Kd.int .i64) _ _ _ ((rd_T78 m B).f3) [.int .i64 ((rd_T78 m B).f3)] from rfl) (Reps.one (show Kd.M (Kd.int .i64) _ _ _ ((rd_T78 j D).f3) [.int .i64 ((rd_T78 j D).f3)] from rfl) (Reps.none _ _))))
 intro cq cx aw hb hg_ hnew_
 clear hg_ hnew_
 (first | rw [← a9.1] at aw | (simp only [Int.reduceToNat] at aw; rw [← a9.1] at aw))
 have _ := Q_ (Kd.S_elder' (ps_ d.1) (Kd.R_base aw) hb)
 have _ := Q_ (Kd.R_below (pr_ c.1) hb)
 have _ := Q_ (Kd.R_elder' (pr_ p.1) (Kd.R_base aw) hb)
 have _ := Q_ (Kd.R_lower (Kd.R_new' aw (Kd.R_lt (pr_ p.1))) (below_size (pb2_ HB.1 q.1 t.1)))
 have _ := Q_ (bb_ a.1 hb)
 have _ := Q_ (bb_ b.1 hb)
 have _ := Q_ (below_step (pb2_ HB.1 q.1 t.1) hb)
 clear d c p a b HB
 rename_i d c p az a b HB
 clear hb aw
 obtain ⟨bD, bE, bF⟩ := Kd.R_slice az.1
 (first | subst bF | (injection bF with f1_ f2_ f3_; have f4_ := f1_.symm; have f5_ := f3_.symm; clear f1_ f2_ f3_; subst f4_; subst f5_))
 refine hK.out _ _ ⟨(blk_cell a.1 0).trans rfl, (blk_cell a.1 1).trans rfl, (blk_cell a.1 2).trans rfl, (blk_cell b.1 0).trans rfl, (blk_cell b.1 1).trans rfl, (blk_cell b.1 2).trans rfl, (bt_ HB U), (bt_ HB V), (bt_ HB W), (bt_ HB X), (bt_ HB Y), (bt_ HB Z), (bt_ HB aa), (bt_ HB ab)⟩ (fun hHeld => ?_)
 clear hK K
 refine no_ (some 67) ?_
 refine on_ 14 (some 68) (tf_ 15 17) HT_ (fun K hK => ?_)
 refine value_ (w1 := ?_) (v := ?_) (by rfl) rfl ?_ ?_
 rotate_left 2
 ·go_simp
  constructor
  ·rfl
  ·rfl
 refine hK.out _ _ ⟨(blk_cell (blk_alloc a.1 _) 0).trans rfl, (blk_cell (blk_alloc a.1 _) 1).trans rfl, (blk_cell (blk_alloc a.1 _) 2).trans rfl, (blk_cell (blk_alloc b.1 _) 0).trans rfl, (blk_cell (blk_alloc b.1 _) 1).trans rfl, (blk_cell (blk_alloc b.1 _) 2).trans rfl, (World.cell?_alloc_lt _ _ _ (World.block_lt_of_cell? _ _ ((bt_ HB U)))).trans ((bt_ HB U)), (World.cell?_alloc_lt _ _ _ (World.block_lt_of_cell? _ _ ((bt_ HB V)))).trans ((bt_ HB V)), (World.cell?_alloc_lt _ _ _ (World.block_lt_of_cell? _ _ ((bt_ HB W)))).trans ((bt_ HB W)), (World.cell?_alloc_lt _ _ _ (World.block_lt_of_cell? _ _ ((bt_ HB X)))).trans ((bt_ HB X)), (World.cell?_alloc_lt _ _ _ (World.block_lt_of_cell? _ _ ((bt_ HB Y)))).trans ((bt_ HB Y)), (World.cell?_alloc_lt _ _ _ (World.block_lt_of_cell? _ _ ((bt_ HB Z)))).trans ((bt_ HB Z)), (World.cell?_alloc_lt _ _ _ (World.block_lt_of_cell? _ _ ((bt_ HB aa)))).trans ((bt_ HB aa)), (World.cell?_alloc_lt _ _ _ (World.block_lt_of_cell? _ _ ((bt_ HB ab)))).trans ((bt_ HB ab))⟩ (fun hHeld => ?_)
 clear hK K
 refine no_ (some 68) ?_
 refine on_ 15 (some 69) (tf_ 16 17) HT_ (fun K hK => ?_)
 refine Kd.S_append_step (Kd.slice 3 (Kd.int .i64)) (w0 := w) w.heap.size (by rfl) (.tmp 54) (.tmp 68) 83 39 (.slice none 0 0) 24 rfl Try.underlying83 info39 rfl (by decide) (by omega) u9 ac aH [.slice bD aH.length bE] (fun k_ => some k_ ≠ (.slice (some aM) l.length aD : Value).ownBlock) (fun k_ => some k_ = (.slice bD aH.length bE : Value).ownBlock) rfl rfl ?aP (fun k_ hk_ => ((Kd.R_mono (ok' := fun k_ => ((fun k_ => some k_ ≠ (.slice (some aM) l.length aD : Value).ownBlock)) k_ ∧ some k_ ≠ (u9 : Value).ownBlock) (Kd.R_apart' (az.1) (Kd.S_typed d.1) (by decide)) (fun k_ hk => ⟨hk.1.2, hk.2⟩))).1 k_ hk_.symm) ?aF ?aO ?aB ?aS ?aL ?_
 (case aP => exact Kd.M_row (Kd.R_mono (Kd.R_tight rfl (Kd.R_mono (ok' := fun k_ => ((fun k_ => some k_ ≠ (.slice (some aM) l.length aD : Value).ownBlock)) k_ ∧ some k_ ≠ (u9 : Value).ownBlock) (Kd.R_apart' (az.1) (Kd.S_typed d.1) (by decide)) (fun k_ hk => ⟨hk.1.2, hk.2⟩))) (fun _ h_ => h_)))
 (case aB => exact (pb2_ HB.1 q.1 t.1))
 (case aF => exact (fun k_ hk => Kd.fresh' (Kd.R_lt (pr_ p.1)) k_ hk))
 (case aO => exact (by (with_reducible repeat (first | apply Kd.S_alloc | apply Kd.S_drewN | apply Kd.S_drew)); exact Kd.S_mono d.1 (fun k_ hk => ⟨hk.1, fun e_ => hk.2 e_⟩)))
 (case aS => exact (below_size (pb2_ HB.1 q.1 t.1)))
 (case aL => have := bL.1; omega)
 intro cr cy ho hb hg hat
 rw [← bM.1] at ho
 have _ := Q_ (Kd.R_over' (pr_ c.1) (Kd.S_typed (ps_ d.1)) (by decide) hg)
 have _ := Q_ (Kd.R_over' (pr_ p.1) (Kd.S_typed (ps_ d.1)) (by decide) hg)
 have _ := Q_ (blk_grown (g := E) (o := .cells #[.int .i64 A, .slice J x.length O, .slice (some G) m.length P] 34 (0, 0)) (pk_ a.1) hg (Kd.S_ne d.1 a.1 (by decide)))
 have _ := Q_ (blk_grown (g := F) (o := .cells #[.int .i64 z, .slice L u.length Q, .slice (some I) j.length T] 34 (0, 0)) (pk_ b.1) hg (Kd.S_ne d.1 b.1 (by decide)))
 have _ := Q_ (hb)
 have _ := Q_ (ho)
 clear c p a b HB d az
 rename_i c p a b HB bK
 clear ho hb hg hat
 refine hK.out _ _ ⟨(blk_cell a.1 0).trans rfl, (blk_cell a.1 1).trans rfl, (blk_cell a.1 2).trans rfl, (blk_cell b.1 0).trans rfl, (blk_cell b.1 1).trans rfl, (blk_cell b.1 2).trans rfl, (bt_ HB U), (bt_ HB V), (bt_ HB W), (bt_ HB X), (bt_ HB Y), (bt_ HB Z), (bt_ HB aa), (bt_ HB ab)⟩ (fun hHeld => ?_)
 clear hK K
 refine no_ (some 69) ?_
 refine pu1_ 16 9 17 131071 ?_
 refine done_ (done_of HT_.1 (by kernel_rfl)) ?_
 try go_wp2
 go_roundg k3
 case measure => have := ax.1; have := ao.1; have := aA.1; omega
 case rel => exact ⟨(bG), (wrap64 (y + 1)), el_, H', ⟨by have := ax.1; have := ao.1; have := aA.1; omega⟩, ⟨ps_ bK.1⟩, ⟨pr_ c.1⟩, ⟨pr_ (Kd.R_mono p.1 (fun _ hk => trivial))⟩, ⟨pk_ a.1⟩, ⟨pk_ b.1⟩, ⟨pb2_ HB.1 q.1 t.1⟩⟩

end Go.Proofs.Ytldcchjbaglppaa.Print
