-- Written by a program of this session (printx.py) out of the translation; Lean checks it.
import Derived.Test.YtchnkakjjbfklaaPrint0
namespace Go.Proofs.Ytchnkakjjbfklaa.Print
open Go.RowKit Go.Proofs.YtchnkakjjbfklaaW.PrintWords Go.Proofs.YtchnkakjjbfklaaW.PrintLast Go.Proofs.YtchnkakjjbfklaaW.PrintMore Go.Proofs.Ytchnkakjjbfklaa.Short
attribute [local go_sem] max2_int min2_int max_two min_two max_three min_three max_four min_four   -- for this text's walks alone
set_option linter.unusedVariables false
set_option maxHeartbeats 8000000
set_option maxRecDepth 100000
set_option linter.unusedSimpArgs false

/-! ### laws_toIntS: function 21 -/
def laws_toIntS.l0 : Nat → List Int → List Int → Int → Option (List Int)
 | 0, _, _, _ => none
 | k + 1, b, c, a => if a < (b.length : Int) then (if 0 ≤ a then (if a < (c.length : Int) then (laws_toIntS.l0 k b (c.set (a : Int).toNat (rd b a)) (wrap64 (a + 1))) else (none)) else (none)) else (some c)
def laws_toIntS.f (k : Nat) (a : List Int) : Option (List Int) := if 0 ≤ (a.length : Int) then (if ((a.length : Int) : Int).toNat ≤ 35184372088832 then (laws_toIntS.l0 k a (List.replicate ((a.length : Int) : Int).toNat 0) 0) else (none)) else (none)
theorem laws_toIntS.mono_l : ∀ k, (∀ a b c, LeO (laws_toIntS.l0 k a b c) (laws_toIntS.l0 (k + 1) a b c))
 | 0 => fun _ _ _ r h => by simp [laws_toIntS.l0] at h
 | k + 1 => by
  have ih0 := laws_toIntS.mono_l k
  ·intro a b c
   unfold laws_toIntS.l0
   exact mo1_ ih0
theorem laws_toIntS.mono : ∀ a k, LeO (laws_toIntS.f k a) (laws_toIntS.f (k + 1) a) := by
 intro a k
 have ih0 := laws_toIntS.mono_l k
 unfold laws_toIntS.f
 exact mo1_ ih0
theorem laws_toIntS.calls (k : Nat) (W : Option Addr) (X : Nat) (b : List Int) (r : List Int) (w : World) (hr0 : Kd.C (Kd.int .i64) w W b.length b) (I : b.length ≤ X) (h : laws_toIntS.f k b = some r) :
  Calls Try.prog 21 #[.slice W b.length X] w fun e w' => ∃ v0_ : Value, e = .returned (v0_) ∧ Kd.R (Kd.int .i64) 3 w' w.heap.size (fun _ => True) v0_ r ∧ Below w.heap.size w w' := by
 have O := Q_ hr0
 have af := Q_ I
 clear hr0 I
 have HB := Q_ (Below.refl w.heap.size w)
 have H : (if 0 ≤ (b.length : Int) then (if ((b.length : Int) : Int).toNat ≤ 35184372088832 then (laws_toIntS.l0 k b (List.replicate ((b.length : Int) : Int).toNat 0) 0) else (none)) else (none)) = some r := h
 clear h
 by_cases A : 0 ≤ (b.length : Int)
 rotate_left
 ·rw [if_neg A] at H
  exact nn_ H
 rw [if_pos A] at H
 have Y := eq_true A
 have Z : decide (0 ≤ (b.length : Int)) = true := decide_eq_true A
 clear A
 by_cases B : ((b.length : Int) : Int).toNat ≤ 35184372088832
 rotate_left
 ·rw [if_neg B] at H
  exact nn_ H
 rw [if_pos B] at H
 have aa := eq_true B
 have ab : decide (((b.length : Int) : Int).toNat ≤ 35184372088832) = true := decide_eq_true B
 clear B
 obtain ⟨o, hy182⟩ : ∃ y_ : List Int, y_ = (List.replicate ((b.length : Int) : Int).toNat 0) := ⟨_, rfl⟩
 replace H : (laws_toIntS.l0 k b o 0) = some r := hb_ hy182 H
 have i := Q_ hy182
 clear hy182
 have H' := Q_ H
 clear H
 go_enter Try.func21, Try.ntmps21
 go_wp2_with (first | ((with_reducible refine gate_dst (N := 7) rfl ?_); refine Kd.R_make (Kd.int .i64) _ 3 rfl (N := 7) rfl 22 _ _ rfl (b.length : Int) rfl rfl Try.underlying22 (.int .i64 0) 8 info3 rfl (by decide) (by omega) 0 (ok := fun _ => True) (okp := fun _ => True) rfl (fun _ hk => hk) trivial dt_ (Nat.le_trans (Nat.mul_le_mul_right _ (dt_ : (b.length : Int).toNat ≤ 35184372088832)) (by omega)) (Below.refl _ _) (Nat.le_refl _) ?_; intro J w4 j hb hg_ hnew_; clear hg_ hnew_; (first | rw [← i.1] at j | (simp only [Int.reduceToNat] at j; rw [← i.1] at j)); have _ := Q_ (Kd.R_lower j (below_size (pb_ HB.1))); have _ := Q_ (below_step (pb_ HB.1) hb); clear HB; rename_i q HB; clear hb j))
 (try simp only [Act.put, s1_, s2_, s3_])
 go_loopg [4] k (fun kq v4 w' => ∃ (d : List Int) (a : Int), v4 = .int .i64 a ∧ Aside0 (laws_toIntS.l0 kq b d a = some r) ∧ Aside0 (kq ≤ k) ∧ Aside0 (Kd.R (Kd.int .i64) 3 w' w.heap.size (fun _ => True) J d) ∧ Aside0 (Below w.heap.size w w'))
 case atStart => exact ⟨(o), (0), el_, H', ⟨Nat.le_refl _⟩, ⟨pr_ q.1⟩, ⟨pb_ HB.1⟩⟩
 clear H'
 obtain ⟨d, a, rfl, HA, z, c, HB⟩ := hrel
 rcases gk with _ | k1
 ·exact absurd HA.1 (by simp [laws_toIntS.l0])
 have H := HA.1
 clear HA
 simp only [laws_toIntS.l0] at H
 by_cases y : a < (b.length : Int)
 rotate_left
 ·rw [if_neg y] at H
  have D := decide_eq_false y
  clear y
  obtain rfl := Option.some.inj H
  go_wp2
  go_ret
  exact ⟨_, er_, pr_ c.1, pb_ HB.1⟩
 rw [if_pos y] at H
 have D := decide_eq_true y
 clear y
 by_cases K : 0 ≤ a
 rotate_left
 ·rw [if_neg K] at H
  exact nn_ H
 rw [if_pos K] at H
 have ac := decide_eq_true K
 clear K
 by_cases L : a < (d.length : Int)
 rotate_left
 ·rw [if_neg L] at H
  exact nn_ H
 rw [if_pos L] at H
 have ad := decide_eq_true L
 clear L
 obtain ⟨n, hy186⟩ : ∃ y_ : List Int, y_ = (d.set (a : Int).toNat (rd b a)) := ⟨_, rfl⟩
 replace H : (laws_toIntS.l0 k1 b n (wrap64 (a + 1))) = some r := hb_ hy186 H
 have s := Q_ hy186
 clear hy186
 have H' := Q_ H
 clear H
 have l : 0 ≤ (a : Int) := dt_
 have m : a < (b.length : Int) := dt_
 obtain ⟨P, E, g⟩ := Kd.at_int O.1 a l m
 cases E
 replace g := bt_ HB g
 replace l := eq_true l
 replace m := eq_true m
 have U : 0 ≤ (a : Int) := dt_
 have V : (a : Int) < ((d.length : Int) : Int) := dt_
 obtain ⟨u, Q, F, G, gl9, ag, HG9⟩ := Kd.R_form c.1 (by omega)
 (first | cases F | (injection F with ea_ en_ ec_; (first | subst ea_ | (injection ea_ with ea_; subst ea_)); subst ec_; clear en_))
 have M := Q_ G
 have ae := Q_ HG9
 clear G gl9 HG9
 obtain ⟨T, S⟩ := Kd.R_celln 0 c.1 (a : Int) U V
 replace U := eq_true U
 replace V := eq_true V
 have HP10 := Kd.R_putg c.1 (a : Int) (rd b a)
 go_wp2_with (first | ((with_reducible refine gate_store (t := 3) (p := 20) rfl ?_); refine store_event (t := 3) (p := 20) (v := ?vo_w11) (w1 := (wr.setCell ⟨u, (a : Int).toNat, none⟩ (.int .i64 (rd b a)))) ?hg ?ho ?hn ?hr ?_; (case ho => rfl); (case hg => rfl); (case hn => rfl); (case hr => first | (go_simp; done) | (go_simp; rfl)); intro x hw; have hg : wr.grownBy x (some u) := (by rw [hw]; exact HP10.2); have hp_ : Kd.R (Kd.int .i64) 3 x w.heap.size (fun _ => True) (.slice (some ⟨u, 0, none⟩) d.length Q) n := (by rw [hw, s.1]; exact HP10.1); clear HP10; have _ := Q_ (hp_); have _ := Q_ ((by rw [hw]; exact below_set (HB.1) M.1 : Below w.heap.size w x)); clear c HB; rename_i c HB; clear hg hw hp_))
 go_roundg k1
 case measure => have := z.1; omega
 case rel => exact ⟨(n), (wrap64 (a + 1)), el_, H', ⟨by have := z.1; omega⟩, ⟨pr_ c.1⟩, ⟨pb_ HB.1⟩⟩

/-! ### laws_toBox: function 101 -/
def laws_toBox.f (k : Nat) (a : Int) (c : List Int) (d : List Int) (b : Bool) : Option (Int × List Int × List Int × Bool) := (laws_toIntS.f k c).bind fun e => ((laws_toIntS.f k d).bind fun g => (some (a, e, g, b)))
theorem laws_toBox.mono : ∀ a b c d k, LeO (laws_toBox.f k a b c d) (laws_toBox.f (k + 1) a b c d) := by
 intro a b c d k
 unfold laws_toBox.f
 exact mo1_ laws_toIntS.mono
theorem laws_toBox.calls (k : Nat) (l : Int) (A : Option Addr) (E : Nat) (q : List Int) (B : Option Addr) (F : Nat) (r : List Int) (m : Bool) (r1 : Int) (r2 : List Int) (r3 : List Int) (r4 : Bool) (w : World) (hr0_1 : Kd.C (Kd.int .i64) w A q.length q) (S : q.length ≤ E) (hr0_2 : Kd.C (Kd.int .i64) w B r.length r) (T : r.length ≤ F) (h : laws_toBox.f k l q r m = some (r1, r2, r3, r4)) :
  Calls Try.prog 101 #[.agg #[.int .i64 l, .slice A q.length E, .slice B r.length F, .bool m]] w fun e w' => ∃ v1_ v2_ : Value, e = .returned (.agg #[.int .i64 r1, v1_, v2_, .bool r4]) ∧ Kd.R (Kd.int .i64) 3 w' w.heap.size (fun k_ => some k_ ≠ (v2_ : Value).ownBlock) v1_ r2 ∧ Kd.R (Kd.int .i64) 3 w' w.heap.size (fun k_ => some k_ ≠ (v1_ : Value).ownBlock) v2_ r3 ∧ Below w.heap.size w w' := by
 have hu117 := Try.underlying117
 have hu95 := Try.underlying95
 have Z := Q_ hr0_1
 have X := Q_ S
 clear hr0_1 S
 have aa := Q_ hr0_2
 have Y := Q_ T
 clear hr0_2 T
 have HB := Q_ (Below.refl w.heap.size w)
 have H : ((laws_toIntS.f k q).bind fun s => ((laws_toIntS.f k r).bind fun u => (some (l, s, u, m)))) = some (r1, r2, r3, r4) := h
 clear h
 obtain ⟨s, A2, H⟩ := bs_ H
 (try dsimp only at H)
 obtain ⟨u, A3, H⟩ := bs_ H
 replace H : (some (l, s, u, m)) = some (r1, r2, r3, r4) := H
 simp only [Option.some.injEq, Prod.mk.injEq] at H
 obtain ⟨rfl, rfl, rfl, rfl⟩ := H
 go_enter Try.func101, Try.ntmps101
 go_wp2_with (first | ((with_reducible refine gate_dst (N := 1) rfl ?_); refine bx_ 1 #[.int .i64 l, .slice A q.length E, .slice B r.length F, .bool m] 117 ?_; intro Q hg w4 hbox hb; have _ := Q_ (below_step (pb_ HB.1) hb); have a := Q_ (hbox); have U := Q_ (gw_ (w := w) hg (pb_ HB.1)); have d := U; clear HB; rename_i HB; clear hb hbox hg) | ((with_reducible refine gate_dst (N := 2) rfl ?_); refine bx_ 2 #[.int .i64 0, .slice none 0 0, .slice none 0 0, .bool false] 95 ?_; intro i hg w5 hbox hb; have _ := Q_ (bb_ a.1 hb); have _ := Q_ (below_step (pb1_ HB.1 d.1) hb); have b := Q_ (hbox); have V := Q_ (gw_ (w := w) hg (pb1_ HB.1 d.1)); have j := V; have x := Q_ (nb_ hg a); have K := Q_ x.1.symm; clear a HB; rename_i a HB; clear hb hbox hg) | ((with_reducible refine gate_dst (N := 3) rfl ?_); refine bx_ 3 #[.int .i64 0, .slice none 0 0, .slice none 0 0, .bool false] 95 ?_; intro n hg w6 hbox hb; have _ := Q_ (bb_ a.1 hb); have _ := Q_ (bb_ b.1 hb); have _ := Q_ (below_step (pb2_ HB.1 d.1 j.1) hb); have c := Q_ (hbox); have W := Q_ (gw_ (w := w) hg (pb2_ HB.1 d.1 j.1)); have t := W; have y := Q_ (nb_ hg a); have L := Q_ y.1.symm; have z := Q_ (nb_ hg b); have M := Q_ z.1.symm; clear a b HB; rename_i a b HB; clear hb hbox hg; have aq := x.1; have au := K.1; have ar := y.1; have av := L.1; have ap := bc4_ a.1; have an := M.1; have ao := z.1; have ah := bc4_ c.1) | ((with_reducible refine gate_callee (f := 21) rfl ?_); refine gl_ (some 9) Try.func21 #[.slice A q.length E] ?_; (with_reducible refine (laws_toIntS.calls k _ _ q s _ ?side1 X.1 A2.1).mono ?_); (case side1 => exact Kd.C_below Z.1 (pb3_ HB.1 d.1 j.1 t.1)); rintro e aA ⟨aw, rfl, O, hb⟩; refine ⟨_, rfl, ?_⟩; have _ := Q_ (Kd.R_lower O (below_size (pb3_ HB.1 d.1 j.1 t.1))); have _ := Q_ (blk_below (g := Q) (o := .cells #[.int .i64 l, .slice A q.length E, .slice B r.length F, .bool m] 117 (0, 0)) (pp_ a.1) hb); have _ := Q_ (blk_below (g := i) (o := .cells #[.int .i64 0, .slice none 0 0, .slice none 0 0, .bool false] 95 (0, 0)) (pp_ b.1) hb); have _ := Q_ (blk_below (g := n) (o := .cells #[.int .i64 l, .slice none 0 0, .slice none 0 0, .bool false] 95 (0, 0)) (pp_ c.1) hb); have _ := Q_ (below_step (pb3_ HB.1 d.1 j.1 t.1) hb); clear a b c HB; rename_i v a b c HB; (try clear hb O); obtain ⟨D, G, ab⟩ := Kd.R_slice v.1; subst ab; have ai := bc4_ c.1; have aj := bc4_ a.1) | ((with_reducible refine gate_callee (f := 21) rfl ?_); refine gl_ (some 13) Try.func21 #[.slice B r.length F] ?_; (with_reducible refine (laws_toIntS.calls k _ _ r u _ ?side1 Y.1 A3.1).mono ?_); (case side1 => exact Kd.C_below aa.1 (pb3_ HB.1 d.1 j.1 t.1)); rintro e aB ⟨ax, rfl, O, hb⟩; refine ⟨_, rfl, ?_⟩; have _ := Q_ (Kd.R_elder' (pr_ (Kd.R_mono (Kd.R_far (p := ⟨n, 1, none⟩) (Kd.R_types v.1 c.1 (by decide)) (fun _ hk => hk.2) (.slice D s.length G)) (fun _ h_ => h_.1))) (Kd.R_base O) hb); have _ := Q_ (Kd.R_lower (Kd.R_new' O (Kd.R_lt (pr_ (Kd.R_mono (Kd.R_far (p := ⟨n, 1, none⟩) (Kd.R_types v.1 c.1 (by decide)) (fun _ hk => hk.2) (.slice D s.length G)) (fun _ h_ => h_.1))))) (below_size (pb3_ HB.1 d.1 j.1 t.1))); have _ := Q_ (blk_below (g := Q) (o := .cells #[.int .i64 l, .slice A q.length E, .slice B r.length F, .bool m] 117 (0, 0)) (pp_ a.1) hb); have _ := Q_ (blk_below (g := i) (o := .cells #[.int .i64 0, .slice none 0 0, .slice none 0 0, .bool false] 95 (0, 0)) (pp_ b.1) hb); have _ := Q_ (blk_below (g := n) (o := .cells #[.int .i64 l, .slice D s.length G, .slice none 0 0, .bool false] 95 (0, 0)) (pp_ c.1) hb); have _ := Q_ (below_step (pb3_ HB.1 d.1 j.1 t.1) hb); clear v a b c HB; rename_i v P a b c HB; (try clear hb O); obtain ⟨I, J, ac⟩ := Kd.R_slice P.1; subst ac; have ak := bc4_ c.1; have al := bc4_ a.1; have am := bc4_ b.1))
 refine bodyPost_ret (results_cell_row rfl _ _ i 95 #[.int .i64 l, .slice D s.length G, .slice I u.length J, .bool m] (0, 0) _ rfl (pp_ b.1) Try.underlying95 rfl (by kernel_rfl)) rfl ?_
 exact ⟨_, _, er_, pr_ (Kd.R_mono (Kd.R_far (p := ⟨i, 3, none⟩) (Kd.R_far (p := ⟨i, 2, none⟩) (Kd.R_far (p := ⟨i, 1, none⟩) (Kd.R_far (p := ⟨i, 0, none⟩) (Kd.R_far (p := ⟨n, 3, none⟩) (Kd.R_far (p := ⟨n, 2, none⟩) (Kd.R_types (Kd.R_types v.1 c.1 (by decide)) b.1 (by decide)) (fun _ hk => hk.1.2) (.slice I u.length J)) (fun _ hk => hk.1.2) (.bool m)) (fun _ hk => hk.2) (.int .i64 l)) (fun _ hk => hk.2) (.slice D s.length G)) (fun _ hk => hk.2) (.slice I u.length J)) (fun _ hk => hk.2) (.bool m)) (fun _ hk => hk.1.1.2)), pr_ (Kd.R_mono (Kd.R_far (p := ⟨i, 3, none⟩) (Kd.R_far (p := ⟨i, 2, none⟩) (Kd.R_far (p := ⟨i, 1, none⟩) (Kd.R_far (p := ⟨i, 0, none⟩) (Kd.R_far (p := ⟨n, 3, none⟩) (Kd.R_far (p := ⟨n, 2, none⟩) (Kd.R_types (Kd.R_types P.1 c.1 (by decide)) b.1 (by decide)) (fun _ hk => hk.1.2) (.slice I u.length J)) (fun _ hk => hk.1.2) (.bool m)) (fun _ hk => hk.2) (.int .i64 l)) (fun _ hk => hk.2) (.slice D s.length G)) (fun _ hk => hk.2) (.slice I u.length J)) (fun _ hk => hk.2) (.bool m)) (fun _ hk => hk.1.1.2)), pb3_ HB.1 d.1 j.1 t.1⟩

/-! ### laws_toBoxS: function 88 -/
def laws_toBoxS.l0 : Nat → List (S117) → List (S95) → Int → Option ((List (S95)))
 | 0, _, _, _ => none
 | k + 1, c, d, b => if b < (c.length : Int) then (if 0 ≤ b then ((laws_toBox.f k ((rd_T117 c b).f0) ((rd_T117 c b).f1) ((rd_T117 c b).f2) ((rd_T117 c b).f3)).bind fun a => (if b < (d.length : Int) then (laws_toBoxS.l0 k c (d.set (b : Int).toNat (⟨a.1, a.2.1, a.2.2.1, a.2.2.2⟩ : S95)) (wrap64 (b + 1))) else (none))) else (none)) else (some d)
def laws_toBoxS.f (k : Nat) (a : List (S117)) : Option ((List (S95))) := if 0 ≤ (a.length : Int) then (if ((a.length : Int) : Int).toNat ≤ 4398046511104 then (laws_toBoxS.l0 k a (List.replicate ((a.length : Int) : Int).toNat z95) 0) else (none)) else (none)
theorem laws_toBoxS.mono_l : ∀ k, (∀ a b c, LeO (laws_toBoxS.l0 k a b c) (laws_toBoxS.l0 (k + 1) a b c))
 | 0 => fun _ _ _ r h => by simp [laws_toBoxS.l0] at h
 | k + 1 => by
  have ih0 := laws_toBoxS.mono_l k
  ·intro a b c
   unfold laws_toBoxS.l0
   exact mo2_ ih0 laws_toBox.mono
theorem laws_toBoxS.mono : ∀ a k, LeO (laws_toBoxS.f k a) (laws_toBoxS.f (k + 1) a) := by
 intro a k
 have ih0 := laws_toBoxS.mono_l k
 unfold laws_toBoxS.f
 exact mo2_ ih0 laws_toBox.mono
theorem laws_toBoxS.calls (k : Nat) (A0 : Option Addr) (c0 : Nat) (g : List (S117)) (r : List (S95)) (w : World) (hr0 : Kd.C k117 w A0 g.length g) (aA : g.length ≤ c0) (h : laws_toBoxS.f k g = some r) :
  Calls Try.prog 88 #[.slice A0 g.length c0] w fun e w' => ∃ v0_ : Value, e = .returned (v0_) ∧ Kd.S k95 95 w' w.heap.size (fun _ => True) v0_ r ∧ Below w.heap.size w w' := by
 have hu117 := Try.underlying117
 have hu95 := Try.underlying95
 have aM := Q_ hr0
 have a0 := Q_ aA
 clear hr0 aA
 have HB := Q_ (Below.refl w.heap.size w)
 have H : (if 0 ≤ (g.length : Int) then (if ((g.length : Int) : Int).toNat ≤ 4398046511104 then (laws_toBoxS.l0 k g (List.replicate ((g.length : Int) : Int).toNat z95) 0) else (none)) else (none)) = some r := h
 clear h
 by_cases c2 : 0 ≤ (g.length : Int)
 rotate_left
 ·rw [if_neg c2] at H
  exact nn_ H
 rw [if_pos c2] at H
 have aS := eq_true c2
 have aT : decide (0 ≤ (g.length : Int)) = true := decide_eq_true c2
 clear c2
 by_cases c3 : ((g.length : Int) : Int).toNat ≤ 4398046511104
 rotate_left
 ·rw [if_neg c3] at H
  exact nn_ H
 rw [if_pos c3] at H
 have aU := eq_true c3
 have aV : decide (((g.length : Int) : Int).toNat ≤ 4398046511104) = true := decide_eq_true c3
 clear c3
 obtain ⟨aj, hy196⟩ : ∃ y_ : List (S95), y_ = (List.replicate ((g.length : Int) : Int).toNat z95) := ⟨_, rfl⟩
 replace H : (laws_toBoxS.l0 k g aj 0) = some r := hb_ hy196 H
 have L := Q_ hy196
 clear hy196
 have H' := Q_ H
 clear H
 go_enter Try.func88, Try.ntmps88
 go_wp2_with (first | ((with_reducible refine gate_dst (N := 7) rfl ?_); refine Kd.S_make k95 _ 95 rfl (N := 7) rfl 48 _ _ rfl (g.length : Int) rfl rfl Try.underlying48 (.agg #[(.int .i64 0), (.slice none 0 0), (.slice none 0 0), (.bool false)]) 64 info95 rfl (by decide) (by omega) z95 (ok := fun _ => True) (okp := fun _ => True) (k95_mkM _ _ _ z95 (Kd.R_nil _ _ _ _ _) (Kd.R_nil _ _ _ _ _)) (fun _ hk => hk) trivial dt_ (Nat.le_trans (Nat.mul_le_mul_right _ (dt_ : (g.length : Int).toNat ≤ 4398046511104)) (by omega)) (Below.refl _ _) (Nat.le_refl _) ?_; intro aB w4 M hb hg_ hnew_; clear hg_ hnew_; (first | rw [← L.1] at M | (simp only [Int.reduceToNat] at M; rw [← L.1] at M)); have _ := Q_ (Kd.S_lower M (below_size (pb_ HB.1))); have _ := Q_ (below_step (pb_ HB.1) hb); clear HB; rename_i ak HB; clear hb M))
 (try simp only [Act.put, s1_, s2_, s3_])
 go_loopg [4] k (fun kq v4 w' => ∃ (d : List (S95)) (a : Int), v4 = .int .i64 a ∧ Aside0 (laws_toBoxS.l0 kq g d a = some r) ∧ Aside0 (kq ≤ k) ∧ Aside0 (Kd.S k95 95 w' w.heap.size (fun _ => True) aB d) ∧ Aside0 (Below w.heap.size w w'))
 case atStart => exact ⟨(aj), (0), el_, H', ⟨Nat.le_refl _⟩, ⟨ps_ ak.1⟩, ⟨pb_ HB.1⟩⟩
 clear H'
 obtain ⟨d, a, rfl, HA, au, b, HB⟩ := hrel
 rcases gk with _ | k1
 ·exact absurd HA.1 (by simp [laws_toBoxS.l0])
 have H := HA.1
 clear HA
 simp only [laws_toBoxS.l0] at H
 by_cases c6 : a < (g.length : Int)
 rotate_left
 ·rw [if_neg c6] at H
  have ay := decide_eq_false c6
  clear c6
  obtain rfl := Option.some.inj H
  go_wp2
  go_ret
  exact ⟨_, er_, ps_ b.1, pb_ HB.1⟩
 rw [if_pos c6] at H
 have ay := decide_eq_true c6
 clear c6
 by_cases c7 : 0 ≤ a
 rotate_left
 ·rw [if_neg c7] at H
  exact nn_ H
 rw [if_pos c7] at H
 have aW := decide_eq_true c7
 clear c7
 obtain ⟨⟨n, B, D, o⟩, A8, H⟩ := bs_ H
 (try dsimp only at H)
 by_cases c9 : a < (d.length : Int)
 rotate_left
 ·rw [if_neg c9] at H
  exact nn_ H
 rw [if_pos c9] at H
 have aX := decide_eq_true c9
 clear c9
 obtain ⟨Q, hy208⟩ : ∃ y_ : List (S95), y_ = (d.set (a : Int).toNat (⟨n, B, D, o⟩ : S95)) := ⟨_, rfl⟩
 replace H : (laws_toBoxS.l0 k1 g Q (wrap64 (a + 1))) = some r := hb_ hy208 H
 have al := Q_ hy208
 clear hy208
 have H' := Q_ H
 clear H
 have O : 0 ≤ (a : Int) := dt_
 have P : a < (g.length : Int) := dt_
 obtain ⟨aN, R, U, T, V, az, u, x, y, z, G, J, I, K⟩ := at_U117 aM.1 a O P
 cases az
 replace u := bt_ HB u
 replace x := bt_ HB x
 replace y := bt_ HB y
 replace z := bt_ HB z
 replace O := eq_true O
 replace P := eq_true P
 go_wp2_with (first | ((with_reducible refine gate_callee (f := 101) rfl ?_); refine gl_ (some 20) Try.func101 #[.agg #[.int .i64 ((rd_T117 g a).f0), .slice R ((rd_T117 g a).f1).length U, .slice T ((rd_T117 g a).f2).length V, .bool ((rd_T117 g a).f3)]] ?_; (with_reducible refine (laws_toBox.calls k1 ((rd_T117 g a).f0) _ _ ((rd_T117 g a).f1) _ _ ((rd_T117 g a).f2) ((rd_T117 g a).f3) n B D o _ (cb_ J HB) G.1 (cb_ K HB) I.1 A8.1).mono ?_); rintro e m ⟨E, F, rfl, am, an, hb⟩; refine ⟨_, rfl, ?_⟩; have _ := Q_ (Kd.S_mono (Kd.S_told (Kd.S_told (Kd.S_old (ps_ b.1) hb) (Kd.R_base am)) (Kd.R_base an)) (fun _ h_ => h_.1)); have _ := Q_ (Kd.R_lower am (below_size (pb_ HB.1))); have _ := Q_ (Kd.R_lower an (below_size (pb_ HB.1))); have _ := Q_ (below_step (pb_ HB.1) hb); clear b HB; rename_i b q s HB; (try clear hb am an); have ao : 0 ≤ (a : Int) := dt_; have ap : (a : Int) < ((d.length : Int) : Int) := dt_; obtain ⟨c, ae, af, ag, gl10, aY, HG10⟩ := Kd.S_form b.1 (by omega); (first | cases af | (injection af with ea_ en_ ec_; (first | subst ea_ | (injection ea_ with ea_; subst ea_)); subst ec_; clear en_)); have A := Q_ ag; have aQ := Q_ HG10; clear ag gl10 HG10; obtain ⟨_, ce10, hcl10, ah, i, hfr10, _, _⟩ := Kd.S_elem b.1 z95 (a : Int) ao ap; obtain ⟨ve10_1, ve10_2, rfl, ge10_1, ge10_2⟩ := k95_openM ah; have aI : m.cell? ⟨c, (a : Int).toNat * 4, none⟩ = some (.int .i64 ((rd_T95 d a).f0)) := i 0 _ rfl; have aJ : m.cell? ⟨c, (a : Int).toNat * 4 + 1, none⟩ = some (ve10_1) := i 1 _ rfl; have aK : m.cell? ⟨c, (a : Int).toNat * 4 + 2, none⟩ = some (ve10_2) := i 2 _ rfl; have aL : m.cell? ⟨c, (a : Int).toNat * 4 + 3, none⟩ = some (.bool ((rd_T95 d a).f3)) := i 3 _ rfl; have aE : m.frozen? ⟨c, (a : Int).toNat * 4, none⟩ = false := hfr10 0; have aF : m.frozen? ⟨c, (a : Int).toNat * 4 + 1, none⟩ = false := hfr10 1; have aG : m.frozen? ⟨c, (a : Int).toNat * 4 + 2, none⟩ = false := hfr10 2; have aH : m.frozen? ⟨c, (a : Int).toNat * 4 + 3, none⟩ = false := hfr10 3; clear hcl10 i hfr10; (try clear ah); replace ao := eq_true ao; replace ap := eq_true ap; have n_ := Q_ (Kd.S_mono (ok' := (fun k_ => some k_ ≠ (E : Value).ownBlock ∧ some k_ ≠ (F : Value).ownBlock)) b.1 (fun k_ hk => ⟨hk.1.2, hk.2⟩)); clear b; have b := n_; clear n_; have av := Q_ (show Kd.S k95 95 m w.heap.size (fun k_ => ((fun _ => True)) k_ ∧ ¬ ((fun k_ => some k_ = (E : Value).ownBlock ∨ some k_ = (F : Value).ownBlock)) k_) (.slice (some ⟨c, 0, none⟩) d.length ae) d from (by (with_reducible repeat (first | apply Kd.S_alloc | apply Kd.S_drewN | apply Kd.S_drew)); exact Kd.S_mono b.1 (fun k_ hk => ⟨trivial, fun e_ => e_.elim (fun h_ => hk.1 h_) (fun h_ => hk.2 h_)⟩))); obtain ⟨aO, ce12, hcl12, ai, l, hfr12, hoki12, hH12⟩ := Kd.S_elem av.1 z95 (a : Int) dt_ (by have h_ : (a : Int) < ((d.length : Int) : Int) := dt_; first | exact h_ | (have e_ := (Kd.S_reads' b.1).1; omega) | simpa using h_); obtain ⟨ve12_1, ve12_2, rfl, ge12_1, ge12_2⟩ := k95_openM ai; have HP12 := Kd.S_seg hH12 dt_ (by have h_ : (a : Int) < ((d.length : Int) : Int) := dt_; first | exact h_ | (have e_ := (Kd.S_reads' b.1).1; omega) | simpa using h_) (seg := [.int .i64 n, E, F, .bool o]) (j := 0) (show 4 ≤ 4 from by decide) (x' := (⟨n, B, D, o⟩ : S95)) (k95_mkM _ _ _ (⟨n, B, D, o⟩ : S95) (Kd.R_mono (Kd.R_tight rfl (Kd.R_mono (ok' := fun k_ => ((fun _ => True)) k_ ∧ k_ ≠ c) (Kd.R_apart' (q.1) (Kd.S_typed b.1) (by decide)) (fun k_ hk => ⟨trivial, fun e_ => (hk.2) (by rw [e_]; rfl)⟩))) (fun _ h_ => Or.inr (Or.inl h_))) (Kd.R_mono (Kd.R_tight rfl (Kd.R_mono (ok' := fun k_ => ((fun _ => True)) k_ ∧ k_ ≠ c) (Kd.R_apart' (s.1) (Kd.S_typed b.1) (by decide)) (fun k_ hk => ⟨trivial, fun e_ => (hk.2) (by rw [e_]; rfl)⟩))) (fun _ h_ => Or.inr (Or.inr (h_))))) (fun _ hk => hk) (fun k_ hk_ => hk_.elim (fun h_ => ((Kd.R_mono (ok' := fun k_ => ((fun _ => True)) k_ ∧ k_ ≠ c) (Kd.R_apart' (q.1) (Kd.S_typed b.1) (by decide)) (fun k_ hk => ⟨trivial, fun e_ => (hk.2) (by rw [e_]; rfl)⟩))).1 k_ h_.symm) (fun h_ => ((Kd.R_mono (ok' := fun k_ => ((fun _ => True)) k_ ∧ k_ ≠ c) (Kd.R_apart' (s.1) (Kd.S_typed b.1) (by decide)) (fun k_ hk => ⟨trivial, fun e_ => (hk.2) (by rw [e_]; rfl)⟩))).1 k_ h_.symm)); have aa := l 0 _ rfl; (try simp only [show (k95).sz = 4 from rfl, Nat.mul_one, Nat.add_zero] at aa); have W := hfr12 0; (try simp only [show (k95).sz = 4 from rfl, Nat.mul_one, Nat.add_zero] at W); have ab := l 1 _ rfl; (try simp only [show (k95).sz = 4 from rfl, Nat.mul_one, Nat.add_zero] at ab); have X := hfr12 1; (try simp only [show (k95).sz = 4 from rfl, Nat.mul_one, Nat.add_zero] at X); have ac := l 2 _ rfl; (try simp only [show (k95).sz = 4 from rfl, Nat.mul_one, Nat.add_zero] at ac); have Y := hfr12 2; (try simp only [show (k95).sz = 4 from rfl, Nat.mul_one, Nat.add_zero] at Y); have ad := l 3 _ rfl; (try simp only [show (k95).sz = 4 from rfl, Nat.mul_one, Nat.add_zero] at ad); have Z := hfr12 3; (try simp only [show (k95).sz = 4 from rfl, Nat.mul_one, Nat.add_zero] at Z); clear hcl12 l hfr12 hoki12 hH12; (try clear ai)) | ((with_reducible refine gate_store (t := 95) (p := 21) rfl ?_); refine store_event (t := 95) (p := 21) (v := ?vo_w13) (w1 := ((((m.setCell ⟨c, (a : Int).toNat * 4, none⟩ (.int .i64 n)).setCell ⟨c, (a : Int).toNat * 4 + 1, none⟩ (E)).setCell ⟨c, (a : Int).toNat * 4 + 2, none⟩ (F)).setCell ⟨c, (a : Int).toNat * 4 + 3, none⟩ (.bool o))) ?hg ?ho ?hn ?hr ?_; (case ho => rfl); (case hg => rfl); (case hn => rfl); (case hr => first | (go_simp; done) | (go_simp; rfl) | (obtain ⟨Ae_, ce_, ee_⟩ := Kd.R_slice q.1; subst ee_; obtain ⟨Ae_, ce_, ee_⟩ := Kd.R_slice s.1; subst ee_; go_simp; first | done | rfl)); intro aq hw; have hg : m.grownBy aq (some c) := (by rw [hw]; exact HP12.2); have hp_ : Kd.S k95 95 aq w.heap.size (fun _ => True) (.slice (some ⟨c, 0, none⟩) d.length ae) Q := (by rw [hw, al.1]; exact HP12.1); clear HP12; have _ := Q_ (hp_); have _ := Q_ ((by rw [hw]; exact below_set (below_set (below_set (below_set (HB.1) A.1) A.1) A.1) A.1 : Below w.heap.size w aq)); clear b HB q s; rename_i b HB; clear hg hw hp_))
 go_roundg k1
 case measure => have := au.1; omega
 case rel => exact ⟨(Q), (wrap64 (a + 1)), el_, H', ⟨by have := au.1; omega⟩, ⟨ps_ b.1⟩, ⟨pb_ HB.1⟩⟩

/-! ### laws_toEndpoint: function 63 -/
def laws_toEndpoint.f (k : Nat) (b : List Int) (c : List Int) (d : List (S117)) (a : Int) : Option (List Int × List Int × (List (S95)) × Int) := (laws_toIntS.f k b).bind fun e => ((laws_toIntS.f k c).bind fun g => ((laws_toBoxS.f k d).bind fun h => (some (e, g, h, a))))
theorem laws_toEndpoint.mono : ∀ a b c d k, LeO (laws_toEndpoint.f k a b c d) (laws_toEndpoint.f (k + 1) a b c d) := by
 intro a b c d k
 unfold laws_toEndpoint.f
 exact mo2_ laws_toBoxS.mono laws_toIntS.mono
theorem laws_toEndpoint.calls (k : Nat) (I : Option Addr) (M : Nat) (s : List Int) (J : Option Addr) (O : Nat) (t : List Int) (K : Option Addr) (P : Nat) (u : List (S117)) (m : Int) (r1 : List Int) (r2 : List Int) (r3 : List (S95)) (r4 : Int) (w : World) (hr0_0 : Kd.C (Kd.int .i64) w I s.length s) (Z : s.length ≤ M) (hr0_1 : Kd.C (Kd.int .i64) w J t.length t) (aa : t.length ≤ O) (hr0_2 : Kd.C k117 w K u.length u) (ab : u.length ≤ P) (h : laws_toEndpoint.f k s t u m = some (r1, r2, r3, r4)) :
  Calls Try.prog 63 #[.agg #[.slice I s.length M, .slice J t.length O, .slice K u.length P, .int .i64 m]] w fun e w' => ∃ v0_ v1_ v2_ : Value, e = .returned (.agg #[v0_, v1_, v2_, .int .i64 r4]) ∧ Kd.R (Kd.int .i64) 3 w' w.heap.size (fun k_ => some k_ ≠ (v1_ : Value).ownBlock) v0_ r1 ∧ Kd.R (Kd.int .i64) 3 w' w.heap.size (fun k_ => some k_ ≠ (v0_ : Value).ownBlock) v1_ r2 ∧ Kd.S k95 95 w' w.heap.size (fun k_ => some k_ ≠ (v0_ : Value).ownBlock ∧ some k_ ≠ (v1_ : Value).ownBlock) v2_ r3 ∧ Below w.heap.size w w' := by
 have hu85 := Try.underlying85
 have hu50 := Try.underlying50
 have ai := Q_ hr0_0
 have af := Q_ Z
 clear hr0_0 Z
 have aj := Q_ hr0_1
 have ag := Q_ aa
 clear hr0_1 aa
 have ak := Q_ hr0_2
 have ah := Q_ ab
 clear hr0_2 ab
 have HB := Q_ (Below.refl w.heap.size w)
 have H : ((laws_toIntS.f k s).bind fun x => ((laws_toIntS.f k t).bind fun q => ((laws_toBoxS.f k u).bind fun v => (some (x, q, v, m))))) = some (r1, r2, r3, r4) := h
 clear h
 obtain ⟨x, A2, H⟩ := bs_ H
 (try dsimp only at H)
 obtain ⟨q, A3, H⟩ := bs_ H
 (try dsimp only at H)
 obtain ⟨v, A4, H⟩ := bs_ H
 replace H : (some (x, q, v, m)) = some (r1, r2, r3, r4) := H
 simp only [Option.some.injEq, Prod.mk.injEq] at H
 obtain ⟨rfl, rfl, rfl, rfl⟩ := H
 go_enter Try.func63, Try.ntmps63
 go_wp2_with (first | ((with_reducible refine gate_dst (N := 1) rfl ?_); refine bx_ 1 #[.slice I s.length M, .slice J t.length O, .slice K u.length P, .int .i64 m] 85 ?_; intro Y hg w5 hbox hb; have _ := Q_ (below_step (pb_ HB.1) hb); have a := Q_ (hbox); have ac := Q_ (gw_ (w := w) hg (pb_ HB.1)); have i := ac; clear HB; rename_i HB; clear hb hbox hg) | ((with_reducible refine gate_dst (N := 2) rfl ?_); refine bx_ 2 #[.slice none 0 0, .slice none 0 0, .slice none 0 0, .int .i64 0] 50 ?_; intro d hg w6 hbox hb; have _ := Q_ (bb_ a.1 hb); have _ := Q_ (below_step (pb1_ HB.1 i.1) hb); have c := Q_ (hbox); have ad := Q_ (gw_ (w := w) hg (pb1_ HB.1 i.1)); have l := ad; have D := Q_ (nb_ hg a); have U := Q_ D.1.symm; clear a HB; rename_i a HB; clear hb hbox hg) | ((with_reducible refine gate_dst (N := 3) rfl ?_); refine bx_ 3 #[.slice none 0 0, .slice none 0 0, .slice none 0 0, .int .i64 0] 50 ?_; intro j hg w7 hbox hb; have _ := Q_ (bb_ a.1 hb); have _ := Q_ (bb_ c.1 hb); have _ := Q_ (below_step (pb2_ HB.1 i.1 l.1) hb); have b := Q_ (hbox); have ae := Q_ (gw_ (w := w) hg (pb2_ HB.1 i.1 l.1)); have r := ae; have E := Q_ (nb_ hg a); have V := Q_ E.1.symm; have F := Q_ (nb_ hg c); have W := Q_ F.1.symm; clear a c HB; rename_i a c HB; clear hb hbox hg; have aE := D.1; have aG := U.1; have aF := E.1; have aH := V.1; have au := bc4_ a.1) | ((with_reducible refine gate_callee (f := 21) rfl ?_); refine gl_ (some 6) Try.func21 #[.slice I s.length M] ?_; (with_reducible refine (laws_toIntS.calls k _ _ s x _ (cb_ ai HB) af.1 A2.1).mono ?_); rintro e aO ⟨aI, rfl, T, hb⟩; refine ⟨_, rfl, ?_⟩; have _ := Q_ (Kd.R_lower T (below_size (pb3_ HB.1 i.1 l.1 r.1))); have _ := Q_ (bb_ a.1 hb); have _ := Q_ (bb_ c.1 hb); have _ := Q_ (bb_ b.1 hb); have _ := Q_ (below_step (pb3_ HB.1 i.1 l.1 r.1) hb); clear a c b HB; rename_i n a c b HB; (try clear hb T); obtain ⟨L, Q, al⟩ := Kd.R_slice n.1; subst al; have aC := W.1; have aD := F.1; have av := bc4_ b.1; have aw := bc4_ a.1) | ((with_reducible refine gate_callee (f := 21) rfl ?_); refine gl_ (some 10) Try.func21 #[.slice J t.length O] ?_; (with_reducible refine (laws_toIntS.calls k _ _ t q _ ?side1 ag.1 A3.1).mono ?_); (case side1 => exact Kd.C_below aj.1 (pb3_ HB.1 i.1 l.1 r.1)); rintro e aP ⟨aJ, rfl, T, hb⟩; refine ⟨_, rfl, ?_⟩; have _ := Q_ (Kd.R_elder' (pr_ (rf1_ n.1 b.1)) (Kd.R_base T) hb); have _ := Q_ (Kd.R_lower (Kd.R_new' T (Kd.R_lt (pr_ (rf1_ n.1 b.1)))) (below_size (pb3_ HB.1 i.1 l.1 r.1))); have _ := Q_ (blk_below (g := Y) (o := .cells #[.slice I s.length M, .slice J t.length O, .slice K u.length P, .int .i64 m] 85 (0, 0)) (pp_ a.1) hb); have _ := Q_ (blk_below (g := d) (o := .cells #[.slice none 0 0, .slice none 0 0, .slice none 0 0, .int .i64 0] 50 (0, 0)) (pp_ c.1) hb); have _ := Q_ (blk_below (g := j) (o := .cells #[.slice L x.length Q, .slice none 0 0, .slice none 0 0, .int .i64 0] 50 (0, 0)) (pp_ b.1) hb); have _ := Q_ (below_step (pb3_ HB.1 i.1 l.1 r.1) hb); clear n a c b HB; rename_i n A a c b HB; (try clear hb T); obtain ⟨y, z, am⟩ := Kd.R_slice A.1; subst am; have ax := bc4_ b.1; have ay := bc4_ a.1) | ((with_reducible refine gate_callee (f := 88) rfl ?_); refine gl_ (some 14) Try.func88 #[.slice K u.length P] ?_; (with_reducible refine (laws_toBoxS.calls k _ _ u v _ ?side1 ah.1 A4.1).mono ?_); (case side1 => exact Kd.C_below ak.1 (pb3_ HB.1 i.1 l.1 r.1)); rintro e aQ ⟨aK, rfl, T, hb⟩; refine ⟨_, rfl, ?_⟩; have _ := Q_ (Kd.R_below (pr_ (Kd.R_mono (Kd.R_far (p := ⟨j, 1, none⟩) (Kd.R_types n.1 b.1 (by decide)) (fun _ hk => hk.2) (.slice y q.length z)) (fun _ h_ => h_.1))) hb); have _ := Q_ (Kd.R_below (pr_ (Kd.R_mono (Kd.R_far (p := ⟨j, 1, none⟩) (Kd.R_types A.1 b.1 (by decide)) (fun _ hk => hk.2) (.slice y q.length z)) (fun _ h_ => h_.1))) hb); have _ := Q_ (Kd.S_lower (Kd.S_new' (Kd.S_new' T (Kd.R_lt (pr_ (Kd.R_mono (Kd.R_far (p := ⟨j, 1, none⟩) (Kd.R_types n.1 b.1 (by decide)) (fun _ hk => hk.2) (.slice y q.length z)) (fun _ h_ => h_.1))))) (Kd.R_lt (pr_ (Kd.R_mono (Kd.R_far (p := ⟨j, 1, none⟩) (Kd.R_types A.1 b.1 (by decide)) (fun _ hk => hk.2) (.slice y q.length z)) (fun _ h_ => h_.1))))) (below_size (pb3_ HB.1 i.1 l.1 r.1))); have _ := Q_ (blk_below (g := Y) (o := .cells #[.slice I s.length M, .slice J t.length O, .slice K u.length P, .int .i64 m] 85 (0, 0)) (pp_ a.1) hb); have _ := Q_ (blk_below (g := d) (o := .cells #[.slice none 0 0, .slice none 0 0, .slice none 0 0, .int .i64 0] 50 (0, 0)) (pp_ c.1) hb); have _ := Q_ (blk_below (g := j) (o := .cells #[.slice L x.length Q, .slice y q.length z, .slice none 0 0, .int .i64 0] 50 (0, 0)) (pp_ b.1) hb); have _ := Q_ (below_step (pb3_ HB.1 i.1 l.1 r.1) hb); clear n A a c b HB; rename_i n A X a c b HB; (try clear hb T); obtain ⟨B, G, an⟩ := Kd.S_slice X.1; subst an; have az := bc4_ b.1; have aA := bc4_ a.1; have aB := bc4_ c.1))
 refine bodyPost_ret (results_cell_row rfl _ _ d 50 #[.slice L x.length Q, .slice y q.length z, .slice B v.length G, .int .i64 m] (0, 0) _ rfl (pp_ c.1) Try.underlying50 rfl (by kernel_rfl)) rfl ?_
 exact ⟨_, _, _, er_, pr_ (Kd.R_mono (Kd.R_far (p := ⟨d, 3, none⟩) (Kd.R_far (p := ⟨d, 2, none⟩) (Kd.R_far (p := ⟨d, 1, none⟩) (Kd.R_far (p := ⟨d, 0, none⟩) (Kd.R_far (p := ⟨j, 3, none⟩) (Kd.R_far (p := ⟨j, 2, none⟩) (Kd.R_types (Kd.R_types n.1 b.1 (by decide)) c.1 (by decide)) (fun _ hk => hk.1.2) (.slice B v.length G)) (fun _ hk => hk.1.2) (.int .i64 m)) (fun _ hk => hk.2) (.slice L x.length Q)) (fun _ hk => hk.2) (.slice y q.length z)) (fun _ hk => hk.2) (.slice B v.length G)) (fun _ hk => hk.2) (.int .i64 m)) (fun _ hk => hk.1.1.2)), pr_ (Kd.R_mono (Kd.R_far (p := ⟨d, 3, none⟩) (Kd.R_far (p := ⟨d, 2, none⟩) (Kd.R_far (p := ⟨d, 1, none⟩) (Kd.R_far (p := ⟨d, 0, none⟩) (Kd.R_far (p := ⟨j, 3, none⟩) (Kd.R_far (p := ⟨j, 2, none⟩) (Kd.R_types (Kd.R_types A.1 b.1 (by decide)) c.1 (by decide)) (fun _ hk => hk.1.2) (.slice B v.length G)) (fun _ hk => hk.1.2) (.int .i64 m)) (fun _ hk => hk.2) (.slice L x.length Q)) (fun _ hk => hk.2) (.slice y q.length z)) (fun _ hk => hk.2) (.slice B v.length G)) (fun _ hk => hk.2) (.int .i64 m)) (fun _ hk => hk.1.1.2)), by (with_reducible repeat (first | apply Kd.S_alloc | apply Kd.S_drewN | apply Kd.S_drew)); exact Kd.S_mono (Kd.S_far (p := ⟨d, 3, none⟩) (Kd.S_far (p := ⟨d, 2, none⟩) (Kd.S_far (p := ⟨d, 1, none⟩) (Kd.S_far (p := ⟨d, 0, none⟩) (Kd.S_far (p := ⟨j, 3, none⟩) (Kd.S_far (p := ⟨j, 2, none⟩) (Kd.S_types (Kd.S_types X.1 b.1 (by decide)) c.1 (by decide)) (fun _ hk => hk.1.2) (.slice B v.length G)) (fun _ hk => hk.1.2) (.int .i64 m)) (fun _ hk => hk.2) (.slice L x.length Q)) (fun _ hk => hk.2) (.slice y q.length z)) (fun _ hk => hk.2) (.slice B v.length G)) (fun _ hk => hk.2) (.int .i64 m)) (fun _ hk => ⟨hk.1.1.1.2, hk.1.1.2⟩), pb3_ HB.1 i.1 l.1 r.1⟩

/-! ### laws_toEndpointS: function 22 -/
def laws_toEndpointS.l0 : Nat → List (S85) → List (S50) → Int → Option ((List (S50)))
 | 0, _, _, _ => none
 | k + 1, c, d, b => if b < (c.length : Int) then (if 0 ≤ b then ((laws_toEndpoint.f k ((rd_T85 c b).f0) ((rd_T85 c b).f1) ((rd_T85 c b).f2) ((rd_T85 c b).f3)).bind fun a => (if b < (d.length : Int) then (laws_toEndpointS.l0 k c (d.set (b : Int).toNat (⟨a.1, a.2.1, a.2.2.1, a.2.2.2⟩ : S50)) (wrap64 (b + 1))) else (none))) else (none)) else (some d)
def laws_toEndpointS.f (k : Nat) (a : List (S85)) : Option ((List (S50))) := if 0 ≤ (a.length : Int) then (if ((a.length : Int) : Int).toNat ≤ 3518437208883 then (laws_toEndpointS.l0 k a (List.replicate ((a.length : Int) : Int).toNat z50) 0) else (none)) else (none)
theorem laws_toEndpointS.mono_l : ∀ k, (∀ a b c, LeO (laws_toEndpointS.l0 k a b c) (laws_toEndpointS.l0 (k + 1) a b c))
 | 0 => fun _ _ _ r h => by simp [laws_toEndpointS.l0] at h
 | k + 1 => by
  have ih0 := laws_toEndpointS.mono_l k
  ·intro a b c
   unfold laws_toEndpointS.l0
   exact mo2_ ih0 laws_toEndpoint.mono
theorem laws_toEndpointS.mono : ∀ a k, LeO (laws_toEndpointS.f k a) (laws_toEndpointS.f (k + 1) a) := by
 intro a k
 have ih0 := laws_toEndpointS.mono_l k
 unfold laws_toEndpointS.f
 exact mo2_ ih0 laws_toEndpoint.mono
theorem laws_toEndpointS.calls (k : Nat) (A0 : Option Addr) (c0 : Nat) (g : List (S85)) (r : List (S50)) (w : World) (hr0 : Kd.C k85 w A0 g.length g) (aH : g.length ≤ c0) (h : laws_toEndpointS.f k g = some r) :
  Calls Try.prog 22 #[.slice A0 g.length c0] w fun e w' => ∃ v0_ : Value, e = .returned (v0_) ∧ Kd.R k50 50 w' w.heap.size (fun _ => True) v0_ r ∧ Below w.heap.size w w' := by
 have hu85 := Try.underlying85
 have hu50 := Try.underlying50
 have aT := Q_ hr0
 have a6 := Q_ aH
 clear hr0 aH
 have HB := Q_ (Below.refl w.heap.size w)
 have H : (if 0 ≤ (g.length : Int) then (if ((g.length : Int) : Int).toNat ≤ 3518437208883 then (laws_toEndpointS.l0 k g (List.replicate ((g.length : Int) : Int).toNat z50) 0) else (none)) else (none)) = some r := h
 clear h
 by_cases c2 : 0 ≤ (g.length : Int)
 rotate_left
 ·rw [if_neg c2] at H
  exact nn_ H
 rw [if_pos c2] at H
 have aY := eq_true c2
 have aZ : decide (0 ≤ (g.length : Int)) = true := decide_eq_true c2
 clear c2
 by_cases c3 : ((g.length : Int) : Int).toNat ≤ 3518437208883
 rotate_left
 ·rw [if_neg c3] at H
  exact nn_ H
 rw [if_pos c3] at H
 have a0 := eq_true c3
 have a1 : decide (((g.length : Int) : Int).toNat ≤ 3518437208883) = true := decide_eq_true c3
 clear c3
 obtain ⟨aq, hy221⟩ : ∃ y_ : List (S50), y_ = (List.replicate ((g.length : Int) : Int).toNat z50) := ⟨_, rfl⟩
 replace H : (laws_toEndpointS.l0 k g aq 0) = some r := hb_ hy221 H
 have M := Q_ hy221
 clear hy221
 have H' := Q_ H
 clear H
 go_enter Try.func22, Try.ntmps22
 go_wp2_with (first | ((with_reducible refine gate_dst (N := 7) rfl ?_); refine Kd.R_make k50 _ 50 rfl (N := 7) rfl 32 _ _ rfl (g.length : Int) rfl rfl Try.underlying32 (.agg #[(.slice none 0 0), (.slice none 0 0), (.slice none 0 0), (.int .i64 0)]) 80 info50 rfl (by decide) (by omega) z50 (ok := fun _ => True) (okp := fun _ => True) (k50_mkM _ _ _ z50 (Kd.R_nil _ _ _ _ _) (Kd.R_nil _ _ _ _ _) (Kd.R_nil _ _ _ _ _)) (fun _ hk => hk) trivial dt_ (Nat.le_trans (Nat.mul_le_mul_right _ (dt_ : (g.length : Int).toNat ≤ 3518437208883)) (by omega)) (Below.refl _ _) (Nat.le_refl _) ?_; intro aI w4 O hb hg_ hnew_; clear hg_ hnew_; (first | rw [← M.1] at O | (simp only [Int.reduceToNat] at O; rw [← M.1] at O)); have _ := Q_ (Kd.R_lower O (below_size (pb_ HB.1))); have _ := Q_ (below_step (pb_ HB.1) hb); clear HB; rename_i ar HB; clear hb O))
 (try simp only [Act.put, s1_, s2_, s3_])
 go_loopg [4] k (fun kq v4 w' => ∃ (d : List (S50)) (a : Int), v4 = .int .i64 a ∧ Aside0 (laws_toEndpointS.l0 kq g d a = some r) ∧ Aside0 (kq ≤ k) ∧ Aside0 (Kd.R k50 50 w' w.heap.size (fun _ => True) aI d) ∧ Aside0 (Below w.heap.size w w'))
 case atStart => exact ⟨(aq), (0), el_, H', ⟨Nat.le_refl _⟩, ⟨pr_ ar.1⟩, ⟨pb_ HB.1⟩⟩
 clear H'
 obtain ⟨d, a, rfl, HA, aC, b, HB⟩ := hrel
 rcases gk with _ | k1
 ·exact absurd HA.1 (by simp [laws_toEndpointS.l0])
 have H := HA.1
 clear HA
 simp only [laws_toEndpointS.l0] at H
 by_cases c6 : a < (g.length : Int)
 rotate_left
 ·rw [if_neg c6] at H
  have aF := decide_eq_false c6
  clear c6
  obtain rfl := Option.some.inj H
  go_wp2
  go_ret
  exact ⟨_, er_, pr_ b.1, pb_ HB.1⟩
 rw [if_pos c6] at H
 have aF := decide_eq_true c6
 clear c6
 by_cases c7 : 0 ≤ a
 rotate_left
 ·rw [if_neg c7] at H
  exact nn_ H
 rw [if_pos c7] at H
 have a2 := decide_eq_true c7
 clear c7
 obtain ⟨⟨B, D, E, n⟩, A8, H⟩ := bs_ H
 (try dsimp only at H)
 by_cases c9 : a < (d.length : Int)
 rotate_left
 ·rw [if_neg c9] at H
  exact nn_ H
 rw [if_pos c9] at H
 have a3 := decide_eq_true c9
 clear c9
 obtain ⟨V, hy235⟩ : ∃ y_ : List (S50), y_ = (d.set (a : Int).toNat (⟨B, D, E, n⟩ : S50)) := ⟨_, rfl⟩
 replace H : (laws_toEndpointS.l0 k1 g V (wrap64 (a + 1))) = some r := hb_ hy235 H
 have au := Q_ hy235
 clear hy235
 have H' := Q_ H
 clear H
 have P : 0 ≤ (a : Int) := dt_
 have Q : a < (g.length : Int) := dt_
 obtain ⟨aU, W, Z, X, aa, Y, ab, aG, o, q, s, u, F, J, G, K, I, L⟩ := at_U85 aT.1 a P Q
 cases aG
 replace o := bt_ HB o
 replace q := bt_ HB q
 replace s := bt_ HB s
 replace u := bt_ HB u
 replace P := eq_true P
 replace Q := eq_true Q
 go_wp2_with (first | ((with_reducible refine gate_callee (f := 63) rfl ?_); refine gl_ (some 20) Try.func63 #[.agg #[.slice W ((rd_T85 g a).f0).length Z, .slice X ((rd_T85 g a).f1).length aa, .slice Y ((rd_T85 g a).f2).length ab, .int .i64 ((rd_T85 g a).f3)]] ?_; (with_reducible refine (laws_toEndpoint.calls k1 _ _ ((rd_T85 g a).f0) _ _ ((rd_T85 g a).f1) _ _ ((rd_T85 g a).f2) ((rd_T85 g a).f3) B D E n _ (cb_ J HB) F.1 (cb_ K HB) G.1 (cb_ L HB) I.1 A8.1).mono ?_); rintro e m ⟨S, T, U, rfl, av, aw, ax, hb⟩; refine ⟨_, rfl, ?_⟩; have _ := Q_ (Kd.R_mono (Kd.R_told (Kd.R_told (Kd.R_told (Kd.R_old (pr_ b.1) hb) (Kd.R_base av)) (Kd.R_base aw)) (Kd.S_base ax)) (fun _ h_ => h_.1)); have _ := Q_ (Kd.R_lower av (below_size (pb_ HB.1))); have _ := Q_ (Kd.R_lower aw (below_size (pb_ HB.1))); have _ := Q_ (Kd.S_lower ax (below_size (pb_ HB.1))); have _ := Q_ (below_step (pb_ HB.1) hb); clear b HB; rename_i b x y z HB; (try clear hb av aw ax); have ay : 0 ≤ (a : Int) := dt_; have az : (a : Int) < ((d.length : Int) : Int) := dt_; obtain ⟨c, al, am, an, gl10, a4, HG10⟩ := Kd.R_form b.1 (by omega); (first | cases am | (injection am with ea_ en_ ec_; (first | subst ea_ | (injection ea_ with ea_; subst ea_)); subst ec_; clear en_)); have A := Q_ an; have aW := Q_ HG10; clear an gl10 HG10; obtain ⟨ce10, hcl10, ao, l, hfr10⟩ := Kd.R_elem b.1 z50 (a : Int) ay az; obtain ⟨ve10_0, ve10_1, ve10_2, rfl, ge10_0, ge10_1, ge10_2⟩ := k50_openM ao; have aP : m.cell? ⟨c, (a : Int).toNat * 4, none⟩ = some (ve10_0) := l 0 _ rfl; have aQ : m.cell? ⟨c, (a : Int).toNat * 4 + 1, none⟩ = some (ve10_1) := l 1 _ rfl; have aR : m.cell? ⟨c, (a : Int).toNat * 4 + 2, none⟩ = some (ve10_2) := l 2 _ rfl; have aS : m.cell? ⟨c, (a : Int).toNat * 4 + 3, none⟩ = some (.int .i64 ((rd_T50 d a).f3)) := l 3 _ rfl; have aL : m.frozen? ⟨c, (a : Int).toNat * 4, none⟩ = false := hfr10 0; have aM : m.frozen? ⟨c, (a : Int).toNat * 4 + 1, none⟩ = false := hfr10 1; have aN : m.frozen? ⟨c, (a : Int).toNat * 4 + 2, none⟩ = false := hfr10 2; have aO : m.frozen? ⟨c, (a : Int).toNat * 4 + 3, none⟩ = false := hfr10 3; clear hcl10 l hfr10; (try clear ao); replace ay := eq_true ay; replace az := eq_true az; have n_ := Q_ (Kd.R_mono (ok' := (fun k_ => some k_ ≠ (S : Value).ownBlock ∧ some k_ ≠ (T : Value).ownBlock ∧ some k_ ≠ (U : Value).ownBlock)) b.1 (fun k_ hk => ⟨hk.1.1.2, ⟨hk.1.2, hk.2⟩⟩)); clear b; have b := n_; clear n_; have ak := Q_ (show Kd.R k50 50 m w.heap.size (fun _ => True) (.slice (some ⟨c, 0, none⟩) d.length al) d from (pr_ (Kd.R_mono b.1 (fun _ hk => trivial)))); obtain ⟨ce12, hcl12, ap, i, hfr12⟩ := Kd.R_elem ak.1 z50 (a : Int) dt_ (by have h_ : (a : Int) < ((d.length : Int) : Int) := dt_; first | exact h_ | (have e_ := (Kd.R_reads' b.1).1; omega) | simpa using h_); obtain ⟨ve12_0, ve12_1, ve12_2, rfl, ge12_0, ge12_1, ge12_2⟩ := k50_openM ap; have HP12 := Kd.R_seg ak.1 (a : Int) dt_ (by have h_ : (a : Int) < ((d.length : Int) : Int) := dt_; first | exact h_ | (have e_ := (Kd.R_reads' b.1).1; omega) | simpa using h_) (seg := [S, T, U, .int .i64 n]) (j := 0) hcl12 i (show 4 ≤ 4 from by decide) (x' := (⟨B, D, E, n⟩ : S50)) (k50_mkM _ _ _ (⟨B, D, E, n⟩ : S50) (Kd.R_mono (Kd.R_apart' (x.1) (Kd.R_typed b.1) (by decide)) (fun k_ hk => ⟨trivial, fun e_ => (hk.2) (by rw [e_]; rfl)⟩)) (Kd.R_mono (Kd.R_apart' (y.1) (Kd.R_typed b.1) (by decide)) (fun k_ hk => ⟨trivial, fun e_ => (hk.2) (by rw [e_]; rfl)⟩)) (Kd.R_mono (Kd.R_apart' ((Kd.S_R z.1)) (Kd.R_typed b.1) (by decide)) (fun k_ hk => ⟨trivial, fun e_ => (hk.2) (by rw [e_]; rfl)⟩))) (fun _ hk => hk); have ag := i 0 _ rfl; (try simp only [show (k50).sz = 4 from rfl, Nat.mul_one, Nat.add_zero] at ag); have ac := hfr12 0; (try simp only [show (k50).sz = 4 from rfl, Nat.mul_one, Nat.add_zero] at ac); have ah := i 1 _ rfl; (try simp only [show (k50).sz = 4 from rfl, Nat.mul_one, Nat.add_zero] at ah); have ad := hfr12 1; (try simp only [show (k50).sz = 4 from rfl, Nat.mul_one, Nat.add_zero] at ad); have ai := i 2 _ rfl; (try simp only [show (k50).sz = 4 from rfl, Nat.mul_one, Nat.add_zero] at ai); have ae := hfr12 2; (try simp only [show (k50).sz = 4 from rfl, Nat.mul_one, Nat.add_zero] at ae); have aj := i 3 _ rfl; (try simp only [show (k50).sz = 4 from rfl, Nat.mul_one, Nat.add_zero] at aj); have af := hfr12 3; (try simp only [show (k50).sz = 4 from rfl, Nat.mul_one, Nat.add_zero] at af); clear hcl12 i hfr12; (try clear ap)) | ((with_reducible refine gate_store (t := 50) (p := 21) rfl ?_); refine store_event (t := 50) (p := 21) (v := ?vo_w13) (w1 := ((((m.setCell ⟨c, (a : Int).toNat * 4, none⟩ (S)).setCell ⟨c, (a : Int).toNat * 4 + 1, none⟩ (T)).setCell ⟨c, (a : Int).toNat * 4 + 2, none⟩ (U)).setCell ⟨c, (a : Int).toNat * 4 + 3, none⟩ (.int .i64 n))) ?hg ?ho ?hn ?hr ?_; (case ho => rfl); (case hg => rfl); (case hn => rfl); (case hr => first | (go_simp; done) | (go_simp; rfl) | (obtain ⟨Ae_, ce_, ee_⟩ := Kd.R_slice x.1; subst ee_; obtain ⟨Ae_, ce_, ee_⟩ := Kd.R_slice y.1; subst ee_; obtain ⟨Ae_, ce_, ee_⟩ := Kd.S_slice z.1; subst ee_; go_simp; first | done | rfl)); intro aA hw; have hg : m.grownBy aA (some c) := (by rw [hw]; exact HP12.2); have hp_ : Kd.R k50 50 aA w.heap.size (fun _ => True) (.slice (some ⟨c, 0, none⟩) d.length al) V := (by rw [hw, au.1]; exact HP12.1); clear HP12; have _ := Q_ (hp_); have _ := Q_ ((by rw [hw]; exact below_set (below_set (below_set (below_set (HB.1) A.1) A.1) A.1) A.1 : Below w.heap.size w aA)); clear b HB x y z; rename_i b HB; clear hg hw hp_))
 go_roundg k1
 case measure => have := aC.1; omega
 case rel => exact ⟨(V), (wrap64 (a + 1)), el_, H', ⟨by have := aC.1; omega⟩, ⟨pr_ b.1⟩, ⟨pb_ HB.1⟩⟩

/-! ### laws_toRollout: function 23 -/
def laws_toRollout.f (k : Nat) (a : Int) (d : List Int) (b : Int) (c : Bool) : Option (Int × List Int × Int × Bool) := (laws_toIntS.f k d).bind fun e => (some (a, e, b, c))
theorem laws_toRollout.mono : ∀ a b c d k, LeO (laws_toRollout.f k a b c d) (laws_toRollout.f (k + 1) a b c d) := by
 intro a b c d k
 unfold laws_toRollout.f
 exact mo1_ laws_toIntS.mono
theorem laws_toRollout.calls (k : Nat) (i : Int) (y : Option Addr) (z : Nat) (d : List Int) (j : Int) (l : Bool) (T : Int) (U : List Int) (V : Int) (W : Bool) (w : World) (hr0_1 : Kd.C (Kd.int .i64) w y d.length d) (I : d.length ≤ z) (h : laws_toRollout.f k i d j l = some (T, U, V, W)) :
  Calls Try.prog 23 #[.agg #[.int .i64 i, .slice y d.length z, .int .i64 j, .bool l]] w fun e w' => ∃ v1_ : Value, e = .returned (.agg #[.int .i64 T, v1_, .int .i64 V, .bool W]) ∧ Kd.R (Kd.int .i64) 3 w' w.heap.size (fun _ => True) v1_ U ∧ Below w.heap.size w w' := by
 have hu25 := Try.underlying25
 have hu33 := Try.underlying33
 have O := Q_ hr0_1
 have M := Q_ I
 clear hr0_1 I
 have HB := Q_ (Below.refl w.heap.size w)
 have H : ((laws_toIntS.f k d).bind fun u => (some (i, u, j, l))) = some (T, U, V, W) := h
 clear h
 obtain ⟨u, A2, H⟩ := bs_ H
 replace H : (some (i, u, j, l)) = some (T, U, V, W) := H
 simp only [Option.some.injEq, Prod.mk.injEq] at H
 obtain ⟨rfl, rfl, rfl, rfl⟩ := H
 go_enter Try.func23, Try.ntmps23
 go_wp2_with (first | ((with_reducible refine gate_dst (N := 1) rfl ?_); refine bx_ 1 #[.int .i64 i, .slice y d.length z, .int .i64 j, .bool l] 25 ?_; intro P hg w3 hbox hb; have _ := Q_ (below_step (pb_ HB.1) hb); have a := Q_ (hbox); have J := Q_ (gw_ (w := w) hg (pb_ HB.1)); have c := J; clear HB; rename_i HB; clear hb hbox hg) | ((with_reducible refine gate_dst (N := 2) rfl ?_); refine bx_ 2 #[.int .i64 0, .slice none 0 0, .int .i64 0, .bool false] 33 ?_; intro q hg w4 hbox hb; have _ := Q_ (bb_ a.1 hb); have _ := Q_ (below_step (pb1_ HB.1 c.1) hb); have b := Q_ (hbox); have K := Q_ (gw_ (w := w) hg (pb1_ HB.1 c.1)); have n := K; have r := Q_ (nb_ hg a); have A := Q_ r.1.symm; clear a HB; rename_i a HB; clear hb hbox hg) | ((with_reducible refine gate_dst (N := 3) rfl ?_); refine bx_ 3 #[.int .i64 0, .slice none 0 0, .int .i64 0, .bool false] 33 ?_; intro x hg w5 hbox hb; have _ := Q_ (bb_ a.1 hb); have _ := Q_ (bb_ b.1 hb); have _ := Q_ (below_step (pb2_ HB.1 c.1 n.1) hb); have m := Q_ (hbox); have L := Q_ (gw_ (w := w) hg (pb2_ HB.1 c.1 n.1)); have v := L; have s := Q_ (nb_ hg a); have B := Q_ s.1.symm; have t := Q_ (nb_ hg b); have D := Q_ t.1.symm; clear a b HB; rename_i a b HB; clear hb hbox hg; have ac := r.1; have af := A.1; have ad := s.1; have ag := B.1; have ab := bc4_ a.1; have ae := D.1; have ah := t.1; have X := bc4_ m.1) | ((with_reducible refine gate_callee (f := 21) rfl ?_); refine gl_ (some 9) Try.func21 #[.slice y d.length z] ?_; (with_reducible refine (laws_toIntS.calls k _ _ d u _ ?side1 M.1 A2.1).mono ?_); (case side1 => exact Kd.C_below O.1 (pb3_ HB.1 c.1 n.1 v.1)); rintro e ak ⟨ai, rfl, S, hb⟩; refine ⟨_, rfl, ?_⟩; have _ := Q_ (Kd.R_lower S (below_size (pb3_ HB.1 c.1 n.1 v.1))); have _ := Q_ (blk_below (g := P) (o := .cells #[.int .i64 i, .slice y d.length z, .int .i64 j, .bool l] 25 (0, 0)) (pp_ a.1) hb); have _ := Q_ (blk_below (g := q) (o := .cells #[.int .i64 0, .slice none 0 0, .int .i64 0, .bool false] 33 (0, 0)) (pp_ b.1) hb); have _ := Q_ (blk_below (g := x) (o := .cells #[.int .i64 i, .slice none 0 0, .int .i64 0, .bool false] 33 (0, 0)) (pp_ m.1) hb); have _ := Q_ (below_step (pb3_ HB.1 c.1 n.1 v.1) hb); clear a b m HB; rename_i F a b m HB; (try clear hb S); obtain ⟨E, G, Q⟩ := Kd.R_slice F.1; subst Q; have Y := bc4_ m.1; have Z := bc4_ a.1; have aa := bc4_ b.1))
 refine bodyPost_ret (results_cell_row rfl _ _ q 33 #[.int .i64 i, .slice E u.length G, .int .i64 j, .bool l] (0, 0) _ rfl (pp_ b.1) Try.underlying33 rfl (by kernel_rfl)) rfl ?_
 exact ⟨_, er_, pr_ (Kd.R_mono (Kd.R_far (p := ⟨q, 3, none⟩) (Kd.R_far (p := ⟨q, 2, none⟩) (Kd.R_far (p := ⟨q, 1, none⟩) (Kd.R_far (p := ⟨q, 0, none⟩) (Kd.R_far (p := ⟨x, 3, none⟩) (Kd.R_far (p := ⟨x, 2, none⟩) (Kd.R_far (p := ⟨x, 1, none⟩) (Kd.R_types (Kd.R_types F.1 m.1 (by decide)) b.1 (by decide)) (fun _ hk => hk.1.2) (.slice E u.length G)) (fun _ hk => hk.1.2) (.int .i64 j)) (fun _ hk => hk.1.2) (.bool l)) (fun _ hk => hk.2) (.int .i64 i)) (fun _ hk => hk.2) (.slice E u.length G)) (fun _ hk => hk.2) (.int .i64 j)) (fun _ hk => hk.2) (.bool l)) (fun _ hk => trivial)), pb3_ HB.1 c.1 n.1 v.1⟩

/-! ### laws_toDeal: function 89 -/
def laws_toDeal.f (k : Nat) (a : Bool) (b : Int) (c : List Int) : Option (Bool × Int × List Int) := (laws_toIntS.f k c).bind fun d => (some (a, b, d))
theorem laws_toDeal.mono : ∀ a b c k, LeO (laws_toDeal.f k a b c) (laws_toDeal.f (k + 1) a b c) := by
 intro a b c k
 unfold laws_toDeal.f
 exact mo1_ laws_toIntS.mono
theorem laws_toDeal.calls (k : Nat) (i : Bool) (j : Int) (v : Option Addr) (x : Nat) (d : List Int) (S : Bool) (T : Int) (U : List Int) (w : World) (hr0_2 : Kd.C (Kd.int .i64) w v d.length d) (G : d.length ≤ x) (h : laws_toDeal.f k i j d = some (S, T, U)) :
  Calls Try.prog 89 #[.agg #[.bool i, .int .i64 j, .slice v d.length x]] w fun e w' => ∃ v2_ : Value, e = .returned (.agg #[.bool S, .int .i64 T, v2_]) ∧ Kd.R (Kd.int .i64) 3 w' w.heap.size (fun _ => True) v2_ U ∧ Below w.heap.size w w' := by
 have hu87 := Try.underlying87
 have hu53 := Try.underlying53
 have M := Q_ hr0_2
 have L := Q_ G
 clear hr0_2 G
 have HB := Q_ (Below.refl w.heap.size w)
 have H : ((laws_toIntS.f k d).bind fun t => (some (i, j, t))) = some (S, T, U) := h
 clear h
 obtain ⟨t, A2, H⟩ := bs_ H
 replace H : (some (i, j, t)) = some (S, T, U) := H
 simp only [Option.some.injEq, Prod.mk.injEq] at H
 obtain ⟨rfl, rfl, rfl⟩ := H
 go_enter Try.func89, Try.ntmps89
 go_wp2_with (first | ((with_reducible refine gate_dst (N := 1) rfl ?_); refine bx_ 1 #[.bool i, .int .i64 j, .slice v d.length x] 87 ?_; intro O hg w3 hbox hb; have _ := Q_ (below_step (pb_ HB.1) hb); have a := Q_ (hbox); have I := Q_ (gw_ (w := w) hg (pb_ HB.1)); have c := I; clear HB; rename_i HB; clear hb hbox hg) | ((with_reducible refine gate_dst (N := 2) rfl ?_); refine bx_ 2 #[.bool false, .int .i64 0, .slice none 0 0] 53 ?_; intro s hg w4 hbox hb; have _ := Q_ (bb_ a.1 hb); have _ := Q_ (below_step (pb1_ HB.1 c.1) hb); have b := Q_ (hbox); have J := Q_ (gw_ (w := w) hg (pb1_ HB.1 c.1)); have m := J; have n := Q_ (nb_ hg a); have y := Q_ n.1.symm; clear a HB; rename_i a HB; clear hb hbox hg) | ((with_reducible refine gate_dst (N := 3) rfl ?_); refine bx_ 3 #[.bool false, .int .i64 0, .slice none 0 0] 53 ?_; intro F hg w5 hbox hb; have _ := Q_ (bb_ a.1 hb); have _ := Q_ (bb_ b.1 hb); have _ := Q_ (below_step (pb2_ HB.1 c.1 m.1) hb); have l := Q_ (hbox); have K := Q_ (gw_ (w := w) hg (pb2_ HB.1 c.1 m.1)); have u := K; have q := Q_ (nb_ hg a); have z := Q_ q.1.symm; have r := Q_ (nb_ hg b); have A := Q_ r.1.symm; clear a b HB; rename_i a b HB; clear hb hbox hg; have Z := n.1; have ac := y.1; have aa := q.1; have ad := z.1; have Y := bc3_ a.1; have ab := A.1; have ae := r.1; have V := bc3_ l.1) | ((with_reducible refine gate_callee (f := 21) rfl ?_); refine gl_ (some 12) Try.func21 #[.slice v d.length x] ?_; (with_reducible refine (laws_toIntS.calls k _ _ d t _ ?side1 L.1 A2.1).mono ?_); (case side1 => exact Kd.C_below M.1 (pb3_ HB.1 c.1 m.1 u.1)); rintro e ah ⟨af, rfl, Q, hb⟩; refine ⟨_, rfl, ?_⟩; have _ := Q_ (Kd.R_lower Q (below_size (pb3_ HB.1 c.1 m.1 u.1))); have _ := Q_ (blk_below (g := O) (o := .cells #[.bool i, .int .i64 j, .slice v d.length x] 87 (0, 0)) (pp_ a.1) hb); have _ := Q_ (blk_below (g := s) (o := .cells #[.bool false, .int .i64 0, .slice none 0 0] 53 (0, 0)) (pp_ b.1) hb); have _ := Q_ (blk_below (g := F) (o := .cells #[.bool i, .int .i64 j, .slice none 0 0] 53 (0, 0)) (pp_ l.1) hb); have _ := Q_ (below_step (pb3_ HB.1 c.1 m.1 u.1) hb); clear a b l HB; rename_i D a b l HB; (try clear hb Q); obtain ⟨B, E, P⟩ := Kd.R_slice D.1; subst P; have W := bc3_ l.1; have X := bc3_ b.1))
 refine bodyPost_ret (results_cell_row rfl _ _ s 53 #[.bool i, .int .i64 j, .slice B t.length E] (0, 0) _ rfl (pp_ b.1) Try.underlying53 rfl (by kernel_rfl)) rfl ?_
 exact ⟨_, er_, pr_ (Kd.R_mono (Kd.R_far (p := ⟨s, 2, none⟩) (Kd.R_far (p := ⟨s, 1, none⟩) (Kd.R_far (p := ⟨s, 0, none⟩) (Kd.R_far (p := ⟨F, 2, none⟩) (Kd.R_types (Kd.R_types D.1 l.1 (by decide)) b.1 (by decide)) (fun _ hk => hk.1.2) (.slice B t.length E)) (fun _ hk => hk.2) (.bool i)) (fun _ hk => hk.2) (.int .i64 j)) (fun _ hk => hk.2) (.slice B t.length E)) (fun _ hk => trivial)), pb3_ HB.1 c.1 m.1 u.1⟩

/-! ### laws_toDialed: function 64 -/
def laws_toDialed.f (k : Nat) (b : Bool) (c : Int) (e : List Int) (d : Int) (g : List Int) : Option (Bool × Int × List Int × Int × List Int) := (laws_toDeal.f k b c e).bind fun a => ((laws_toIntS.f k g).bind fun h => (some (a.1, a.2.1, a.2.2, d, h)))
theorem laws_toDialed.mono : ∀ a b c d e k, LeO (laws_toDialed.f k a b c d e) (laws_toDialed.f (k + 1) a b c d e) := by
 intro a b c d e k
 unfold laws_toDialed.f
 exact mo2_ laws_toDeal.mono laws_toIntS.mono
theorem laws_toDialed.calls (k : Nat) (x : Bool) (y : Int) (D : Option Addr) (G : Nat) (m : List Int) (l : Int) (E : Option Addr) (I : Nat) (n : List Int) (r1 : Bool) (r2 : Int) (r3 : List Int) (r4 : Int) (r5 : List Int) (w : World) (hr0_2 : Kd.C (Kd.int .i64) w D m.length m) (V : m.length ≤ G) (hr0_4 : Kd.C (Kd.int .i64) w E n.length n) (W : n.length ≤ I) (h : laws_toDialed.f k x y m l n = some (r1, r2, r3, r4, r5)) :
  Calls Try.prog 64 #[.agg #[.bool x, .int .i64 y, .slice D m.length G, .int .i64 l, .slice E n.length I]] w fun e w' => ∃ v2_ v4_ : Value, e = .returned (.agg #[.bool r1, .int .i64 r2, v2_, .int .i64 r4, v4_]) ∧ Kd.R (Kd.int .i64) 3 w' w.heap.size (fun k_ => some k_ ≠ (v4_ : Value).ownBlock) v2_ r3 ∧ Kd.R (Kd.int .i64) 3 w' w.heap.size (fun k_ => some k_ ≠ (v2_ : Value).ownBlock) v4_ r5 ∧ Below w.heap.size w w' := by
 have hu89 := Try.underlying89
 have hu55 := Try.underlying55
 have hu87 := Try.underlying87
 have hu53 := Try.underlying53
 have ac := Q_ hr0_2
 have aa := Q_ V
 clear hr0_2 V
 have ad := Q_ hr0_4
 have ab := Q_ W
 clear hr0_4 W
 have HB := Q_ (Below.refl w.heap.size w)
 have H : ((laws_toDeal.f k x y m).bind fun O => ((laws_toIntS.f k n).bind fun q => (some (O.1, O.2.1, O.2.2, l, q)))) = some (r1, r2, r3, r4, r5) := h
 clear h
 obtain ⟨⟨z, A, B⟩, A2, H⟩ := bs_ H
 (try dsimp only at H)
 obtain ⟨q, A3, H⟩ := bs_ H
 replace H : (some (z, A, B, l, q)) = some (r1, r2, r3, r4, r5) := H
 simp only [Option.some.injEq, Prod.mk.injEq] at H
 obtain ⟨rfl, rfl, rfl, rfl, rfl⟩ := H
 go_enter Try.func64, Try.ntmps64
 go_wp2_with (first | ((with_reducible refine gate_dst (N := 1) rfl ?_); refine bx_ 1 #[.bool x, .int .i64 y, .slice D m.length G, .int .i64 l, .slice E n.length I] 89 ?_; intro ae hg w4 hbox hb; have _ := Q_ (below_step (pb_ HB.1) hb); have a := Q_ (hbox); have X := Q_ (gw_ (w := w) hg (pb_ HB.1)); have i := X; clear HB; rename_i HB; clear hb hbox hg) | ((with_reducible refine gate_dst (N := 2) rfl ?_); refine bx_ 2 #[.bool false, .int .i64 0, .slice none 0 0, .int .i64 0, .slice none 0 0] 55 ?_; intro d hg w5 hbox hb; have _ := Q_ (bb_ a.1 hb); have _ := Q_ (below_step (pb1_ HB.1 i.1) hb); have b := Q_ (hbox); have Y := Q_ (gw_ (w := w) hg (pb1_ HB.1 i.1)); have j := Y; have t := Q_ (nb_ hg a); have K := Q_ t.1.symm; clear a HB; rename_i a HB; clear hb hbox hg) | ((with_reducible refine gate_dst (N := 3) rfl ?_); refine bx_ 3 #[.bool false, .int .i64 0, .slice none 0 0, .int .i64 0, .slice none 0 0] 55 ?_; intro P hg w6 hbox hb; have _ := Q_ (bb_ a.1 hb); have _ := Q_ (bb_ b.1 hb); have _ := Q_ (below_step (pb2_ HB.1 i.1 j.1) hb); have c := Q_ (hbox); have Z := Q_ (gw_ (w := w) hg (pb2_ HB.1 i.1 j.1)); have r := Z; have u := Q_ (nb_ hg a); have L := Q_ u.1.symm; have v := Q_ (nb_ hg b); have M := Q_ v.1.symm; clear a b HB; rename_i a b HB; clear hb hbox hg; have av := t.1; have ax := K.1; have aw := u.1; have ay := L.1; have au := bc5_ a.1) | ((with_reducible refine gate_callee (f := 89) rfl ?_); refine gl_ (some 6) Try.func89 #[.agg #[.bool x, .int .i64 y, .slice D m.length G]] ?_; (with_reducible refine (laws_toDeal.calls k x y _ _ m z A B _ (cb_ ac HB) aa.1 A2.1).mono ?_); rintro e aD ⟨az, rfl, T, hb⟩; refine ⟨_, rfl, ?_⟩; have _ := Q_ (Kd.R_lower T (below_size (pb3_ HB.1 i.1 j.1 r.1))); have _ := Q_ (bb_ a.1 hb); have _ := Q_ (bb_ b.1 hb); have _ := Q_ (bb_ c.1 hb); have _ := Q_ (below_step (pb3_ HB.1 i.1 j.1 r.1) hb); clear a b c HB; rename_i s a b c HB; (try clear hb T); have aq := M.1; have ar := v.1; have am := bc5_ c.1; obtain ⟨Q, S, af⟩ := Kd.R_slice s.1; subst af; have an := bc5_ a.1) | ((with_reducible refine gate_callee (f := 21) rfl ?_); refine gl_ (some 13) Try.func21 #[.slice E n.length I] ?_; (with_reducible refine (laws_toIntS.calls k _ _ n q _ ?side1 ab.1 A3.1).mono ?_); (case side1 => exact Kd.C_below ad.1 (pb3_ HB.1 i.1 j.1 r.1)); rintro e aE ⟨aA, rfl, T, hb⟩; refine ⟨_, rfl, ?_⟩; have _ := Q_ (Kd.R_elder' (pr_ (rf4_ s.1 c.1)) (Kd.R_base T) hb); have _ := Q_ (Kd.R_lower (Kd.R_new' T (Kd.R_lt (pr_ (rf4_ s.1 c.1)))) (below_size (pb3_ HB.1 i.1 j.1 r.1))); have _ := Q_ (blk_below (g := ae) (o := .cells #[.bool x, .int .i64 y, .slice D m.length G, .int .i64 l, .slice E n.length I] 89 (0, 0)) (pp_ a.1) hb); have _ := Q_ (blk_below (g := d) (o := .cells #[.bool false, .int .i64 0, .slice none 0 0, .int .i64 0, .slice none 0 0] 55 (0, 0)) (pp_ b.1) hb); have _ := Q_ (blk_below (g := P) (o := .cells #[.bool z, .int .i64 A, .slice Q B.length S, .int .i64 l, .slice none 0 0] 55 (0, 0)) (pp_ c.1) hb); have _ := Q_ (below_step (pb3_ HB.1 i.1 j.1 r.1) hb); clear s a b c HB; rename_i s U a b c HB; (try clear hb T); obtain ⟨F, J, ag⟩ := Kd.R_slice U.1; subst ag; have ao := bc5_ c.1; have ap := bc5_ b.1))
 refine bodyPost_ret (results_cell_row rfl _ _ d 55 #[.bool z, .int .i64 A, .slice Q B.length S, .int .i64 l, .slice F q.length J] (0, 0) _ rfl (pp_ b.1) Try.underlying55 rfl (by kernel_rfl)) rfl ?_
 exact ⟨_, _, er_, pr_ (Kd.R_mono (Kd.R_far (p := ⟨d, 4, none⟩) (Kd.R_far (p := ⟨d, 3, none⟩) (Kd.R_far (p := ⟨d, 2, none⟩) (Kd.R_far (p := ⟨d, 1, none⟩) (Kd.R_far (p := ⟨d, 0, none⟩) (Kd.R_far (p := ⟨P, 4, none⟩) (Kd.R_types (Kd.R_types s.1 c.1 (by decide)) b.1 (by decide)) (fun _ hk => hk.1.2) (.slice F q.length J)) (fun _ hk => hk.2) (.bool z)) (fun _ hk => hk.2) (.int .i64 A)) (fun _ hk => hk.2) (.slice Q B.length S)) (fun _ hk => hk.2) (.int .i64 l)) (fun _ hk => hk.2) (.slice F q.length J)) (fun _ hk => hk.1.1.2)), pr_ (Kd.R_mono (Kd.R_far (p := ⟨d, 4, none⟩) (Kd.R_far (p := ⟨d, 3, none⟩) (Kd.R_far (p := ⟨d, 2, none⟩) (Kd.R_far (p := ⟨d, 1, none⟩) (Kd.R_far (p := ⟨d, 0, none⟩) (Kd.R_far (p := ⟨P, 4, none⟩) (Kd.R_types (Kd.R_types U.1 c.1 (by decide)) b.1 (by decide)) (fun _ hk => hk.1.2) (.slice F q.length J)) (fun _ hk => hk.2) (.bool z)) (fun _ hk => hk.2) (.int .i64 A)) (fun _ hk => hk.2) (.slice Q B.length S)) (fun _ hk => hk.2) (.int .i64 l)) (fun _ hk => hk.2) (.slice F q.length J)) (fun _ hk => hk.1.1.2)), pb3_ HB.1 i.1 j.1 r.1⟩

/-! ### laws_toDialedS: function 24 -/
def laws_toDialedS.l0 : Nat → List (S89) → List (S55) → Int → Option ((List (S55)))
 | 0, _, _, _ => none
 | k + 1, c, d, b => if b < (c.length : Int) then (if 0 ≤ b then ((laws_toDialed.f k ((rd_T89 c b).f0.f0) ((rd_T89 c b).f0.f1) ((rd_T89 c b).f0.f2) ((rd_T89 c b).f1) ((rd_T89 c b).f2)).bind fun a => (if b < (d.length : Int) then (laws_toDialedS.l0 k c (d.set (b : Int).toNat (⟨(⟨a.1, a.2.1, a.2.2.1⟩ : S53), a.2.2.2.1, a.2.2.2.2⟩ : S55)) (wrap64 (b + 1))) else (none))) else (none)) else (some d)
def laws_toDialedS.f (k : Nat) (a : List (S89)) : Option ((List (S55))) := if 0 ≤ (a.length : Int) then (if ((a.length : Int) : Int).toNat ≤ 3909374676536 then (laws_toDialedS.l0 k a (List.replicate ((a.length : Int) : Int).toNat z55) 0) else (none)) else (none)
theorem laws_toDialedS.mono_l : ∀ k, (∀ a b c, LeO (laws_toDialedS.l0 k a b c) (laws_toDialedS.l0 (k + 1) a b c))
 | 0 => fun _ _ _ r h => by simp [laws_toDialedS.l0] at h
 | k + 1 => by
  have ih0 := laws_toDialedS.mono_l k
  ·intro a b c
   unfold laws_toDialedS.l0
   exact mo2_ ih0 laws_toDialed.mono
theorem laws_toDialedS.mono : ∀ a k, LeO (laws_toDialedS.f k a) (laws_toDialedS.f (k + 1) a) := by
 intro a k
 have ih0 := laws_toDialedS.mono_l k
 unfold laws_toDialedS.f
 exact mo2_ ih0 laws_toDialed.mono
theorem laws_toDialedS.calls (k : Nat) (A0 : Option Addr) (c0 : Nat) (g : List (S89)) (r : List (S55)) (w : World) (hr0 : Kd.C k89 w A0 g.length g) (aE : g.length ≤ c0) (h : laws_toDialedS.f k g = some r) :
  Calls Try.prog 24 #[.slice A0 g.length c0] w fun e w' => ∃ v0_ : Value, e = .returned (v0_) ∧ Kd.S k55 55 w' w.heap.size (fun _ => True) v0_ r ∧ Below w.heap.size w w' := by
 have hu89 := Try.underlying89
 have hu55 := Try.underlying55
 have aS := Q_ hr0
 have a6 := Q_ aE
 clear hr0 aE
 have HB := Q_ (Below.refl w.heap.size w)
 have H : (if 0 ≤ (g.length : Int) then (if ((g.length : Int) : Int).toNat ≤ 3909374676536 then (laws_toDialedS.l0 k g (List.replicate ((g.length : Int) : Int).toNat z55) 0) else (none)) else (none)) = some r := h
 clear h
 by_cases c2 : 0 ≤ (g.length : Int)
 rotate_left
 ·rw [if_neg c2] at H
  exact nn_ H
 rw [if_pos c2] at H
 have aY := eq_true c2
 have aZ : decide (0 ≤ (g.length : Int)) = true := decide_eq_true c2
 clear c2
 by_cases c3 : ((g.length : Int) : Int).toNat ≤ 3909374676536
 rotate_left
 ·rw [if_neg c3] at H
  exact nn_ H
 rw [if_pos c3] at H
 have a0 := eq_true c3
 have a1 : decide (((g.length : Int) : Int).toNat ≤ 3909374676536) = true := decide_eq_true c3
 clear c3
 obtain ⟨an, hy259⟩ : ∃ y_ : List (S55), y_ = (List.replicate ((g.length : Int) : Int).toNat z55) := ⟨_, rfl⟩
 replace H : (laws_toDialedS.l0 k g an 0) = some r := hb_ hy259 H
 have O := Q_ hy259
 clear hy259
 have H' := Q_ H
 clear H
 go_enter Try.func24, Try.ntmps24
 go_wp2_with (first | ((with_reducible refine gate_dst (N := 7) rfl ?_); refine Kd.S_make k55 _ 55 rfl (N := 7) rfl 34 _ _ rfl (g.length : Int) rfl rfl Try.underlying34 (.agg #[(.bool false), (.int .i64 0), (.slice none 0 0), (.int .i64 0), (.slice none 0 0)]) 72 info55 rfl (by decide) (by omega) z55 (ok := fun _ => True) (okp := fun _ => True) (k55_mkM _ _ _ z55 (Kd.R_nil _ _ _ _ _) (Kd.R_nil _ _ _ _ _)) (fun _ hk => hk) trivial dt_ (Nat.le_trans (Nat.mul_le_mul_right _ (dt_ : (g.length : Int).toNat ≤ 3909374676536)) (by omega)) (Below.refl _ _) (Nat.le_refl _) ?_; intro aF w4 P hb hg_ hnew_; clear hg_ hnew_; (first | rw [← O.1] at P | (simp only [Int.reduceToNat] at P; rw [← O.1] at P)); have _ := Q_ (Kd.S_lower P (below_size (pb_ HB.1))); have _ := Q_ (below_step (pb_ HB.1) hb); clear HB; rename_i ao HB; clear hb P))
 (try simp only [Act.put, s1_, s2_, s3_])
 go_loopg [4] k (fun kq v4 w' => ∃ (d : List (S55)) (a : Int), v4 = .int .i64 a ∧ Aside0 (laws_toDialedS.l0 kq g d a = some r) ∧ Aside0 (kq ≤ k) ∧ Aside0 (Kd.S k55 55 w' w.heap.size (fun _ => True) aF d) ∧ Aside0 (Below w.heap.size w w'))
 case atStart => exact ⟨(an), (0), el_, H', ⟨Nat.le_refl _⟩, ⟨ps_ ao.1⟩, ⟨pb_ HB.1⟩⟩
 clear H'
 obtain ⟨d, a, rfl, HA, ay, c, HB⟩ := hrel
 rcases gk with _ | k1
 ·exact absurd HA.1 (by simp [laws_toDialedS.l0])
 have H := HA.1
 clear HA
 simp only [laws_toDialedS.l0] at H
 by_cases c6 : a < (g.length : Int)
 rotate_left
 ·rw [if_neg c6] at H
  have aC := decide_eq_false c6
  clear c6
  obtain rfl := Option.some.inj H
  go_wp2
  go_ret
  exact ⟨_, er_, ps_ c.1, pb_ HB.1⟩
 rw [if_pos c6] at H
 have aC := decide_eq_true c6
 clear c6
 by_cases c7 : 0 ≤ a
 rotate_left
 ·rw [if_neg c7] at H
  exact nn_ H
 rw [if_pos c7] at H
 have a2 := decide_eq_true c7
 clear c7
 obtain ⟨⟨n, o, E, q, F⟩, A8, H⟩ := bs_ H
 (try dsimp only at H)
 by_cases c9 : a < (d.length : Int)
 rotate_left
 ·rw [if_neg c9] at H
  exact nn_ H
 rw [if_pos c9] at H
 have a3 := decide_eq_true c9
 clear c9
 obtain ⟨T, hy272⟩ : ∃ y_ : List (S55), y_ = (d.set (a : Int).toNat (⟨(⟨n, o, E⟩ : S53), q, F⟩ : S55)) := ⟨_, rfl⟩
 replace H : (laws_toDialedS.l0 k1 g T (wrap64 (a + 1))) = some r := hb_ hy272 H
 have ap := Q_ hy272
 clear hy272
 have H' := Q_ H
 clear H
 have Q : 0 ≤ (a : Int) := dt_
 have R : a < (g.length : Int) := dt_
 obtain ⟨aT, U, W, V, X, aD, y, z, A, B, D, J, L, K, M⟩ := at_U89 aS.1 a Q R
 cases aD
 replace y := bt_ HB y
 replace z := bt_ HB z
 replace A := bt_ HB A
 replace B := bt_ HB B
 replace D := bt_ HB D
 replace Q := eq_true Q
 replace R := eq_true R
 go_wp2_with (first | ((with_reducible refine gate_callee (f := 64) rfl ?_); refine gl_ (some 20) Try.func64 #[.agg #[.bool ((rd_T89 g a).f0.f0), .int .i64 ((rd_T89 g a).f0.f1), .slice U ((rd_T89 g a).f0.f2).length W, .int .i64 ((rd_T89 g a).f1), .slice V ((rd_T89 g a).f2).length X]] ?_; (with_reducible refine (laws_toDialed.calls k1 ((rd_T89 g a).f0.f0) ((rd_T89 g a).f0.f1) _ _ ((rd_T89 g a).f0.f2) ((rd_T89 g a).f1) _ _ ((rd_T89 g a).f2) n o E q F _ (cb_ L HB) J.1 (cb_ M HB) K.1 A8.1).mono ?_); rintro e m ⟨G, I, rfl, aq, ar, hb⟩; refine ⟨_, rfl, ?_⟩; have _ := Q_ (Kd.S_mono (Kd.S_told (Kd.S_told (Kd.S_old (ps_ c.1) hb) (Kd.R_base aq)) (Kd.R_base ar)) (fun _ h_ => h_.1)); have _ := Q_ (Kd.R_lower aq (below_size (pb_ HB.1))); have _ := Q_ (Kd.R_lower ar (below_size (pb_ HB.1))); have _ := Q_ (below_step (pb_ HB.1) hb); clear c HB; rename_i c s u HB; (try clear hb aq ar); have au : 0 ≤ (a : Int) := dt_; have av : (a : Int) < ((d.length : Int) : Int) := dt_; obtain ⟨b, ai, aj, ak, gl10, a4, HG10⟩ := Kd.S_form c.1 (by omega); (first | cases aj | (injection aj with ea_ en_ ec_; (first | subst ea_ | (injection ea_ with ea_; subst ea_)); subst ec_; clear en_)); have x := Q_ ak; have aW := Q_ HG10; clear ak gl10 HG10; obtain ⟨_, ce10, hcl10, al, i, hfr10, _, _⟩ := Kd.S_elem c.1 z55 (a : Int) au av; obtain ⟨ve10_2, ve10_4, rfl, ge10_2, ge10_4⟩ := k55_openM al; have aN : m.cell? ⟨b, (a : Int).toNat * 5, none⟩ = some (.bool ((rd_T55 d a).f0.f0)) := i 0 _ rfl; have aO : m.cell? ⟨b, (a : Int).toNat * 5 + 1, none⟩ = some (.int .i64 ((rd_T55 d a).f0.f1)) := i 1 _ rfl; have aP : m.cell? ⟨b, (a : Int).toNat * 5 + 2, none⟩ = some (ve10_2) := i 2 _ rfl; have aQ : m.cell? ⟨b, (a : Int).toNat * 5 + 3, none⟩ = some (.int .i64 ((rd_T55 d a).f1)) := i 3 _ rfl; have aR : m.cell? ⟨b, (a : Int).toNat * 5 + 4, none⟩ = some (ve10_4) := i 4 _ rfl; have aI : m.frozen? ⟨b, (a : Int).toNat * 5, none⟩ = false := hfr10 0; have aJ : m.frozen? ⟨b, (a : Int).toNat * 5 + 1, none⟩ = false := hfr10 1; have aK : m.frozen? ⟨b, (a : Int).toNat * 5 + 2, none⟩ = false := hfr10 2; have aL : m.frozen? ⟨b, (a : Int).toNat * 5 + 3, none⟩ = false := hfr10 3; have aM : m.frozen? ⟨b, (a : Int).toNat * 5 + 4, none⟩ = false := hfr10 4; clear hcl10 i hfr10; (try clear al); replace au := eq_true au; replace av := eq_true av; have n_ := Q_ (Kd.S_mono (ok' := (fun k_ => some k_ ≠ (G : Value).ownBlock ∧ some k_ ≠ (I : Value).ownBlock)) c.1 (fun k_ hk => ⟨hk.1.2, hk.2⟩)); clear c; have c := n_; clear n_; have az := Q_ (show Kd.S k55 55 m w.heap.size (fun k_ => ((fun _ => True)) k_ ∧ ¬ ((fun k_ => some k_ = (G : Value).ownBlock ∨ some k_ = (I : Value).ownBlock)) k_) (.slice (some ⟨b, 0, none⟩) d.length ai) d from (by (with_reducible repeat (first | apply Kd.S_alloc | apply Kd.S_drewN | apply Kd.S_drew)); exact Kd.S_mono c.1 (fun k_ hk => ⟨trivial, fun e_ => e_.elim (fun h_ => hk.1 h_) (fun h_ => hk.2 h_)⟩))); obtain ⟨aU, ce12, hcl12, am, l, hfr12, hoki12, hH12⟩ := Kd.S_elem az.1 z55 (a : Int) dt_ (by have h_ : (a : Int) < ((d.length : Int) : Int) := dt_; first | exact h_ | (have e_ := (Kd.S_reads' c.1).1; omega) | simpa using h_); obtain ⟨ve12_2, ve12_4, rfl, ge12_2, ge12_4⟩ := k55_openM am; have HP12 := Kd.S_seg hH12 dt_ (by have h_ : (a : Int) < ((d.length : Int) : Int) := dt_; first | exact h_ | (have e_ := (Kd.S_reads' c.1).1; omega) | simpa using h_) (seg := [.bool n, .int .i64 o, G, .int .i64 q, I]) (j := 0) (show 5 ≤ 5 from by decide) (x' := (⟨(⟨n, o, E⟩ : S53), q, F⟩ : S55)) (k55_mkM _ _ _ (⟨(⟨n, o, E⟩ : S53), q, F⟩ : S55) (Kd.R_mono (Kd.R_tight rfl (Kd.R_mono (ok' := fun k_ => ((fun _ => True)) k_ ∧ k_ ≠ b) (Kd.R_apart' (s.1) (Kd.S_typed c.1) (by decide)) (fun k_ hk => ⟨trivial, fun e_ => (hk.2) (by rw [e_]; rfl)⟩))) (fun _ h_ => Or.inr (Or.inl h_))) (Kd.R_mono (Kd.R_tight rfl (Kd.R_mono (ok' := fun k_ => ((fun _ => True)) k_ ∧ k_ ≠ b) (Kd.R_apart' (u.1) (Kd.S_typed c.1) (by decide)) (fun k_ hk => ⟨trivial, fun e_ => (hk.2) (by rw [e_]; rfl)⟩))) (fun _ h_ => Or.inr (Or.inr (h_))))) (fun _ hk => hk) (fun k_ hk_ => hk_.elim (fun h_ => ((Kd.R_mono (ok' := fun k_ => ((fun _ => True)) k_ ∧ k_ ≠ b) (Kd.R_apart' (s.1) (Kd.S_typed c.1) (by decide)) (fun k_ hk => ⟨trivial, fun e_ => (hk.2) (by rw [e_]; rfl)⟩))).1 k_ h_.symm) (fun h_ => ((Kd.R_mono (ok' := fun k_ => ((fun _ => True)) k_ ∧ k_ ≠ b) (Kd.R_apart' (u.1) (Kd.S_typed c.1) (by decide)) (fun k_ hk => ⟨trivial, fun e_ => (hk.2) (by rw [e_]; rfl)⟩))).1 k_ h_.symm)); have ad := l 0 _ rfl; (try simp only [show (k55).sz = 5 from rfl, Nat.mul_one, Nat.add_zero] at ad); have Y := hfr12 0; (try simp only [show (k55).sz = 5 from rfl, Nat.mul_one, Nat.add_zero] at Y); have ae := l 1 _ rfl; (try simp only [show (k55).sz = 5 from rfl, Nat.mul_one, Nat.add_zero] at ae); have Z := hfr12 1; (try simp only [show (k55).sz = 5 from rfl, Nat.mul_one, Nat.add_zero] at Z); have af := l 2 _ rfl; (try simp only [show (k55).sz = 5 from rfl, Nat.mul_one, Nat.add_zero] at af); have aa := hfr12 2; (try simp only [show (k55).sz = 5 from rfl, Nat.mul_one, Nat.add_zero] at aa); have ag := l 3 _ rfl; (try simp only [show (k55).sz = 5 from rfl, Nat.mul_one, Nat.add_zero] at ag); have ab := hfr12 3; (try simp only [show (k55).sz = 5 from rfl, Nat.mul_one, Nat.add_zero] at ab); have ah := l 4 _ rfl; (try simp only [show (k55).sz = 5 from rfl, Nat.mul_one, Nat.add_zero] at ah); have ac := hfr12 4; (try simp only [show (k55).sz = 5 from rfl, Nat.mul_one, Nat.add_zero] at ac); clear hcl12 l hfr12 hoki12 hH12; (try clear am)) | ((with_reducible refine gate_store (t := 55) (p := 21) rfl ?_); refine store_event (t := 55) (p := 21) (v := ?vo_w13) (w1 := (((((m.setCell ⟨b, (a : Int).toNat * 5, none⟩ (.bool n)).setCell ⟨b, (a : Int).toNat * 5 + 1, none⟩ (.int .i64 o)).setCell ⟨b, (a : Int).toNat * 5 + 2, none⟩ (G)).setCell ⟨b, (a : Int).toNat * 5 + 3, none⟩ (.int .i64 q)).setCell ⟨b, (a : Int).toNat * 5 + 4, none⟩ (I))) ?hg ?ho ?hn ?hr ?_; (case ho => rfl); (case hg => rfl); (case hn => rfl); (case hr => first | (go_simp; done) | (go_simp; rfl) | (obtain ⟨Ae_, ce_, ee_⟩ := Kd.R_slice s.1; subst ee_; obtain ⟨Ae_, ce_, ee_⟩ := Kd.R_slice u.1; subst ee_; go_simp; first | done | rfl)); intro aw hw; have hg : m.grownBy aw (some b) := (by rw [hw]; exact HP12.2); have hp_ : Kd.S k55 55 aw w.heap.size (fun _ => True) (.slice (some ⟨b, 0, none⟩) d.length ai) T := (by rw [hw, ap.1]; exact HP12.1); clear HP12; have _ := Q_ (hp_); have _ := Q_ ((by rw [hw]; exact below_set (below_set (below_set (below_set (below_set (HB.1) x.1) x.1) x.1) x.1) x.1 : Below w.heap.size w aw)); clear c HB s u; rename_i c HB; clear hg hw hp_))
 go_roundg k1
 case measure => have := ay.1; omega
 case rel => exact ⟨(T), (wrap64 (a + 1)), el_, H', ⟨by have := ay.1; omega⟩, ⟨ps_ c.1⟩, ⟨pb_ HB.1⟩⟩

/-! ### laws_toLogged: function 65 -/
def laws_toLogged.f (k : Nat) (b : Int) (c : Int) (d : Bool) (e : Bool) (g : Int) (i : List Int) (h : Int) (j : List Int) : Option (Int × Int × Bool × Bool × Int × List Int × Int × List Int) := (laws_toDialed.f k e g i h j).bind fun a => (some (b, c, d, a.1, a.2.1, a.2.2.1, a.2.2.2.1, a.2.2.2.2))
theorem laws_toLogged.mono : ∀ a b c d e g h i k, LeO (laws_toLogged.f k a b c d e g h i) (laws_toLogged.f (k + 1) a b c d e g h i) := by
 intro a b c d e g h i k
 unfold laws_toLogged.f
 exact mo1_ laws_toDialed.mono
theorem laws_toLogged.calls (k : Nat) (q : Int) (r : Int) (s : Bool) (y : Bool) (z : Int) (J : Option Addr) (O : Nat) (l : List Int) (A : Int) (K : Option Addr) (P : Nat) (m : List Int) (r1 : Int) (r2 : Int) (r3 : Bool) (r4 : Bool) (r5 : Int) (r6 : List Int) (r7 : Int) (r8 : List Int) (w : World) (hr0_5 : Kd.C (Kd.int .i64) w J l.length l) (Y : l.length ≤ O) (hr0_7 : Kd.C (Kd.int .i64) w K m.length m) (Z : m.length ≤ P) (h : laws_toLogged.f k q r s y z l A m = some (r1, r2, r3, r4, r5, r6, r7, r8)) :
  Calls Try.prog 65 #[.agg #[.int .i64 q, .int .i64 r, .bool s, .bool y, .int .i64 z, .slice J l.length O, .int .i64 A, .slice K m.length P]] w fun e w' => ∃ v5_ v7_ : Value, e = .returned (.agg #[.int .i64 r1, .int .i64 r2, .bool r3, .bool r4, .int .i64 r5, v5_, .int .i64 r7, v7_]) ∧ Kd.R (Kd.int .i64) 3 w' w.heap.size (fun k_ => some k_ ≠ (v7_ : Value).ownBlock) v5_ r6 ∧ Kd.R (Kd.int .i64) 3 w' w.heap.size (fun k_ => some k_ ≠ (v5_ : Value).ownBlock) v7_ r8 ∧ Below w.heap.size w w' := by
 have hu92 := Try.underlying92
 have hu57 := Try.underlying57
 have hu89 := Try.underlying89
 have hu55 := Try.underlying55
 have af := Q_ hr0_5
 have ad := Q_ Y
 clear hr0_5 Y
 have ag := Q_ hr0_7
 have ae := Q_ Z
 clear hr0_7 Z
 have HB := Q_ (Below.refl w.heap.size w)
 have H : ((laws_toDialed.f k y z l A m).bind fun B => (some (q, r, s, B.1, B.2.1, B.2.2.1, B.2.2.2.1, B.2.2.2.2))) = some (r1, r2, r3, r4, r5, r6, r7, r8) := h
 clear h
 obtain ⟨⟨D, E, F, G, I⟩, A2, H⟩ := bs_ H
 (try dsimp only at H)
 simp only [Option.some.injEq, Prod.mk.injEq] at H
 obtain ⟨rfl, rfl, rfl, rfl, rfl, rfl, rfl, rfl⟩ := H
 go_enter Try.func65, Try.ntmps65
 go_wp2_with (first | ((with_reducible refine gate_dst (N := 1) rfl ?_); refine bx_ 1 #[.int .i64 q, .int .i64 r, .bool s, .bool y, .int .i64 z, .slice J l.length O, .int .i64 A, .slice K m.length P] 92 ?_; intro ah hg w3 hbox hb; have _ := Q_ (below_step (pb_ HB.1) hb); have b := Q_ (hbox); have aa := Q_ (gw_ (w := w) hg (pb_ HB.1)); have i := aa; clear HB; rename_i HB; clear hb hbox hg) | ((with_reducible refine gate_dst (N := 2) rfl ?_); refine bx_ 2 #[.int .i64 0, .int .i64 0, .bool false, .bool false, .int .i64 0, .slice none 0 0, .int .i64 0, .slice none 0 0] 57 ?_; intro a hg w4 hbox hb; have _ := Q_ (bb_ b.1 hb); have _ := Q_ (below_step (pb1_ HB.1 i.1) hb); have c := Q_ (hbox); have ab := Q_ (gw_ (w := w) hg (pb1_ HB.1 i.1)); have j := ab; have u := Q_ (nb_ hg b); have T := Q_ u.1.symm; clear b HB; rename_i b HB; clear hb hbox hg) | ((with_reducible refine gate_dst (N := 3) rfl ?_); refine bx_ 3 #[.int .i64 0, .int .i64 0, .bool false, .bool false, .int .i64 0, .slice none 0 0, .int .i64 0, .slice none 0 0] 57 ?_; intro d hg w5 hbox hb; have _ := Q_ (bb_ b.1 hb); have _ := Q_ (bb_ c.1 hb); have _ := Q_ (below_step (pb2_ HB.1 i.1 j.1) hb); have n := Q_ (hbox); have ac := Q_ (gw_ (w := w) hg (pb2_ HB.1 i.1 j.1)); have t := ac; have v := Q_ (nb_ hg b); have U := Q_ v.1.symm; have x := Q_ (nb_ hg c); have V := Q_ x.1.symm; clear b c HB; rename_i b c HB; clear hb hbox hg; have aA := u.1; have aD := T.1; have aB := v.1; have aE := U.1; have az := bc8_ b.1; have aC := V.1; have aF := x.1; have am := bc8_ n.1) | ((with_reducible refine gate_callee (f := 64) rfl ?_); refine gl_ (some 15) Try.func64 #[.agg #[.bool y, .int .i64 z, .slice J l.length O, .int .i64 A, .slice K m.length P]] ?_; (with_reducible refine (laws_toDialed.calls k y z _ _ l A _ _ m D E F G I _ ?side1 ad.1 ?side3 ae.1 A2.1).mono ?_); (case side1 => exact Kd.C_below af.1 (pb3_ HB.1 i.1 j.1 t.1)); (case side3 => exact Kd.C_below ag.1 (pb3_ HB.1 i.1 j.1 t.1)); rintro e aJ ⟨aG, aH, rfl, ak, al, hb⟩; refine ⟨_, rfl, ?_⟩; have _ := Q_ (Kd.R_lower ak (below_size (pb3_ HB.1 i.1 j.1 t.1))); have _ := Q_ (Kd.R_lower al (below_size (pb3_ HB.1 i.1 j.1 t.1))); have _ := Q_ (blk_below (g := ah) (o := .cells #[.int .i64 q, .int .i64 r, .bool s, .bool y, .int .i64 z, .slice J l.length O, .int .i64 A, .slice K m.length P] 92 (0, 0)) (pp_ b.1) hb); have _ := Q_ (blk_below (g := a) (o := .cells #[.int .i64 0, .int .i64 0, .bool false, .bool false, .int .i64 0, .slice none 0 0, .int .i64 0, .slice none 0 0] 57 (0, 0)) (pp_ c.1) hb); have _ := Q_ (blk_below (g := d) (o := .cells #[.int .i64 q, .int .i64 r, .bool s, .bool false, .int .i64 0, .slice none 0 0, .int .i64 0, .slice none 0 0] 57 (0, 0)) (pp_ n.1) hb); have _ := Q_ (below_step (pb3_ HB.1 i.1 j.1 t.1) hb); clear b c n HB; rename_i W X b c n HB; (try clear hb ak al); have an := bc8_ n.1; obtain ⟨L, Q, ai⟩ := Kd.R_slice W.1; subst ai; obtain ⟨M, S, aj⟩ := Kd.R_slice X.1; subst aj; have ao := bc8_ c.1))
 refine bodyPost_ret (results_cell_row rfl _ _ a 57 #[.int .i64 q, .int .i64 r, .bool s, .bool D, .int .i64 E, .slice L F.length Q, .int .i64 G, .slice M I.length S] (0, 0) _ rfl (pp_ c.1) Try.underlying57 rfl (by kernel_rfl)) rfl ?_
 exact ⟨_, _, er_, pr_ (Kd.R_mono (Kd.R_far (p := ⟨a, 7, none⟩) (Kd.R_far (p := ⟨a, 6, none⟩) (Kd.R_far (p := ⟨a, 5, none⟩) (Kd.R_far (p := ⟨a, 4, none⟩) (Kd.R_far (p := ⟨a, 3, none⟩) (Kd.R_far (p := ⟨a, 2, none⟩) (Kd.R_far (p := ⟨a, 1, none⟩) (Kd.R_far (p := ⟨a, 0, none⟩) (Kd.R_far (p := ⟨d, 7, none⟩) (Kd.R_far (p := ⟨d, 6, none⟩) (Kd.R_far (p := ⟨d, 5, none⟩) (Kd.R_far (p := ⟨d, 4, none⟩) (Kd.R_far (p := ⟨d, 3, none⟩) (Kd.R_types (Kd.R_types W.1 n.1 (by decide)) c.1 (by decide)) (fun _ hk => hk.1.2) (.bool D)) (fun _ hk => hk.1.2) (.int .i64 E)) (fun _ hk => hk.1.2) (.slice L F.length Q)) (fun _ hk => hk.1.2) (.int .i64 G)) (fun _ hk => hk.1.2) (.slice M I.length S)) (fun _ hk => hk.2) (.int .i64 q)) (fun _ hk => hk.2) (.int .i64 r)) (fun _ hk => hk.2) (.bool s)) (fun _ hk => hk.2) (.bool D)) (fun _ hk => hk.2) (.int .i64 E)) (fun _ hk => hk.2) (.slice L F.length Q)) (fun _ hk => hk.2) (.int .i64 G)) (fun _ hk => hk.2) (.slice M I.length S)) (fun _ hk => hk.1.1)), pr_ (Kd.R_mono (Kd.R_far (p := ⟨a, 7, none⟩) (Kd.R_far (p := ⟨a, 6, none⟩) (Kd.R_far (p := ⟨a, 5, none⟩) (Kd.R_far (p := ⟨a, 4, none⟩) (Kd.R_far (p := ⟨a, 3, none⟩) (Kd.R_far (p := ⟨a, 2, none⟩) (Kd.R_far (p := ⟨a, 1, none⟩) (Kd.R_far (p := ⟨a, 0, none⟩) (Kd.R_far (p := ⟨d, 7, none⟩) (Kd.R_far (p := ⟨d, 6, none⟩) (Kd.R_far (p := ⟨d, 5, none⟩) (Kd.R_far (p := ⟨d, 4, none⟩) (Kd.R_far (p := ⟨d, 3, none⟩) (Kd.R_types (Kd.R_types X.1 n.1 (by decide)) c.1 (by decide)) (fun _ hk => hk.1.2) (.bool D)) (fun _ hk => hk.1.2) (.int .i64 E)) (fun _ hk => hk.1.2) (.slice L F.length Q)) (fun _ hk => hk.1.2) (.int .i64 G)) (fun _ hk => hk.1.2) (.slice M I.length S)) (fun _ hk => hk.2) (.int .i64 q)) (fun _ hk => hk.2) (.int .i64 r)) (fun _ hk => hk.2) (.bool s)) (fun _ hk => hk.2) (.bool D)) (fun _ hk => hk.2) (.int .i64 E)) (fun _ hk => hk.2) (.slice L F.length Q)) (fun _ hk => hk.2) (.int .i64 G)) (fun _ hk => hk.2) (.slice M I.length S)) (fun _ hk => hk.1.1)), pb3_ HB.1 i.1 j.1 t.1⟩

end Go.Proofs.Ytchnkakjjbfklaa.Print
