-- Written by a program of this session (printx.py) out of the translation; Lean checks it.
import Derived.Test.YtldcchjbaglppaaPrint0
import Derived.Test.YtldcchjbaglppaaPrint1
import Derived.Test.YtldcchjbaglppaaPrint2
import Derived.Test.YtldcchjbaglppaaPrint5
import Derived.Test.YtldcchjbaglppaaPrint8
namespace Go.Proofs.Ytldcchjbaglppaa.Print
open Go.RowKit Go.Proofs.YtldcchjbaglppaaW.PrintWords Go.Proofs.YtldcchjbaglppaaW.PrintLast Go.Proofs.YtldcchjbaglppaaW.PrintMore Go.Proofs.Ytldcchjbaglppaa.Short
attribute [local go_sem] max2_int min2_int max_two min_two max_three min_three max_four min_four   -- for this text's walks alone
set_option linter.unusedVariables false
set_option maxHeartbeats 8000000
set_option maxRecDepth 100000
set_option linter.unusedSimpArgs false

/-! ### impl_FollowsAt: function 65 -/
mutual
def impl_FollowsAt.j0 : Nat → Int → Int → List Int → List Int → List Int → List Int → Bool → Int → List Bool → List (S78) → Int → List Bool → List (S78) → Option (Bool)
 | 0, _, _, _, _, _, _, _, _, _, _, _, _, _ => none
 | k + 1, g, h, n, i, l, j, m, a, b, c, d, e, f => if m = true then (some false) else (if (l.length : Int) > 0 then (if (n.length : Int) > 0 then (if (j.length : Int) = 0 then (impl_FollowsAt.j1 k g h (decide ((i.length : Int) > 0)) a b c d e f) else (impl_FollowsAt.j1 k g h false a b c d e f)) else (impl_FollowsAt.j1 k g h true a b c d e f)) else (if (n.length : Int) > 0 then (impl_FollowsAt.j1 k g h true a b c d e f) else (if (j.length : Int) = 0 then (impl_FollowsAt.j1 k g h (decide ((i.length : Int) > 0)) a b c d e f) else (impl_FollowsAt.j1 k g h false a b c d e f))))
def impl_FollowsAt.j1 : Nat → Int → Int → Bool → Int → List Bool → List (S78) → Int → List Bool → List (S78) → Option (Bool)
 | 0, _, _, _, _, _, _, _, _, _ => none
 | k + 1, l, m, j, a, b, c, d, e, g => if j = true then (some false) else ((impl_isEnd.f a b c l).bind fun h => (if h = true then (some true) else ((impl_isEnd.f d e g m).bind fun i => (some (!i)))))
end
def impl_FollowsAt.f (k : Nat) (a : Int) (c : List Bool) (d : List (S78)) (b : Int) (e : List Bool) (g : List (S78)) (o : Int) (p : Int) : Option (Bool) := (impl_MovesFrom.f k a c d o true).bind fun h => ((impl_MovesFrom.f k a c d o false).bind fun i => ((impl_MovesFrom.f k b e g p true).bind fun j => ((impl_MovesFrom.f k b e g p false).bind fun l => ((impl_without.f k l i).bind fun m => (if (m.length : Int) > 0 then (impl_FollowsAt.j0 k o p h i j l true a c d b e g) else ((impl_without.f k h j).bind fun n => (impl_FollowsAt.j0 k o p h i j l (decide ((n.length : Int) > 0)) a c d b e g)))))))
theorem impl_FollowsAt.mono_l : ∀ k, (∀ a b f g i j l m n o c d e, LeO (impl_FollowsAt.j0 k a b f g i j l m n o c d e) (impl_FollowsAt.j0 (k + 1) a b f g i j l m n o c d e)) ∧ (∀ a b f g i j l m n, LeO (impl_FollowsAt.j1 k a b f g i j l m n) (impl_FollowsAt.j1 (k + 1) a b f g i j l m n))
 | 0 => ⟨fun _ _ _ _ _ _ _ _ _ _ _ _ _ r h => by simp [impl_FollowsAt.j0] at h, fun _ _ _ _ _ _ _ _ _ r h => by simp [impl_FollowsAt.j1] at h⟩
 | k + 1 => by
  obtain ⟨ih0, ih1⟩ := impl_FollowsAt.mono_l k
  refine ⟨?_, ?_⟩
  ·intro a b f g i j l m n o c d e
   unfold impl_FollowsAt.j0
   exact mo4_ ih0 ih1 impl_MovesFrom.mono impl_without.mono
  ·intro a b f g i j l m n
   unfold impl_FollowsAt.j1
   exact mo4_ ih0 ih1 impl_MovesFrom.mono impl_without.mono
theorem impl_FollowsAt.mono : ∀ a b c d e g h i k, LeO (impl_FollowsAt.f k a b c d e g h i) (impl_FollowsAt.f (k + 1) a b c d e g h i) := by
 intro a b c d e g h i k
 obtain ⟨ih0, ih1⟩ := impl_FollowsAt.mono_l k
 unfold impl_FollowsAt.f
 exact mo4_ ih0 ih1 impl_MovesFrom.mono impl_without.mono
def impl_FollowsAt.T1 : Bool × List (List Nat × List Nat) := (true, [([], []), ([], []), ([0, 1], [0, 1]), ([], []), ([], []), ([3, 4, 2], [3, 4]), ([2, 5, 0, 1, 2], [2]), ([5, 6, 0, 1, 2, 3, 4, 5, 6], [5])])
def impl_FollowsAt.B1 : List Nat := [0, 0, 3, 0, 0, 31, 63, 127]
theorem impl_FollowsAt.tab1 : rtab .any (opsOf Try.f65 1) = impl_FollowsAt.T1 := by kernel_rfl
theorem impl_FollowsAt.bits1 : waitsOk impl_FollowsAt.T1.2 impl_FollowsAt.B1 = true := by kernel_rfl
def impl_FollowsAt.T2 : Bool × List (List Nat × List Nat) := (true, [([], []), ([], []), ([0, 1], [0, 1]), ([], []), ([], []), ([3, 4, 2], [3, 4]), ([2, 5, 0, 1, 2], [2]), ([5, 6, 0, 1, 2, 3, 4, 5, 6], [5])])
def impl_FollowsAt.B2 : List Nat := [0, 0, 3, 0, 0, 31, 63, 127]
theorem impl_FollowsAt.tab2 : rtab .any (opsOf Try.f65 2) = impl_FollowsAt.T2 := by kernel_rfl
theorem impl_FollowsAt.bits2 : waitsOk impl_FollowsAt.T2.2 impl_FollowsAt.B2 = true := by kernel_rfl
theorem impl_FollowsAt.calls (k : Nat) (s : Int) (A : Option Addr) (D : Nat) (o : List Bool) (B : Option Addr) (E : Nat) (p : List (S78)) (v : Int) (J : Option Addr) (M : Nat) (t : List Bool) (L : Option Addr) (O : Nat) (u : List (S78)) (a2 : Int) (a3 : Int) (r : Bool) (w : World) (hr0_1 : Kd.C Kd.bool w A o.length o) (aD : o.length ≤ D) (hr0_2 : Kd.C k78 w B p.length p) (aE : p.length ≤ E) (hr1_1 : Kd.C Kd.bool w J t.length t) (aF : t.length ≤ M) (hr1_2 : Kd.C k78 w L u.length u) (aG : u.length ≤ O) (h : impl_FollowsAt.f k s o p v t u a2 a3 = some r) :
  Calls Try.prog 65 #[.agg #[.int .i64 s, .slice A o.length D, .slice B p.length E], .agg #[.int .i64 v, .slice J t.length M, .slice L u.length O], .int .i64 a2, .int .i64 a3] w fun e w' => e = .returned (.bool r) ∧ Below w.heap.size w w' := by
 have hu34 := Try.underlying34
 have ac := Q_ hr0_1
 have Z := Q_ aD
 clear hr0_1 aD
 have ad := Q_ hr0_2
 have aa := Q_ aE
 clear hr0_2 aE
 have ak := Q_ hr1_1
 have ai := Q_ aF
 clear hr1_1 aF
 have al := Q_ hr1_2
 have aj := Q_ aG
 clear hr1_2 aG
 have HB := Q_ (Below.refl w.heap.size w)
 have H : ((impl_MovesFrom.f k s o p a2 true).bind fun x => ((impl_MovesFrom.f k s o p a2 false).bind fun y => ((impl_MovesFrom.f k v t u a3 true).bind fun z => ((impl_MovesFrom.f k v t u a3 false).bind fun q => ((impl_without.f k q y).bind fun X => (if (X.length : Int) > 0 then (impl_FollowsAt.j0 k a2 a3 x y z q true s o p v t u) else ((impl_without.f k x z).bind fun ao => (impl_FollowsAt.j0 k a2 a3 x y z q (decide ((ao.length : Int) > 0)) s o p v t u)))))))) = some r := h
 clear h
 obtain ⟨x, A5, H⟩ := bs_ H
 (try dsimp only at H)
 obtain ⟨y, A6, H⟩ := bs_ H
 (try dsimp only at H)
 obtain ⟨z, A7, H⟩ := bs_ H
 (try dsimp only at H)
 obtain ⟨q, A8, H⟩ := bs_ H
 (try dsimp only at H)
 have aN := Q_ H
 clear H
 go_enter Try.func65, Try.ntmps65
 try go_wp2_with (first | ((with_reducible refine gate_dst (N := 4) rfl ?_); (try (refine gate_guard (by rfl) ?_; dsimp only)); refine bx_ 4 #[.int .i64 s, .slice A o.length D, .slice B p.length E] 34 ?_; intro V hg cI hbox hb; have _ := Q_ (below_step (pb_ HB.1) hb); have a := Q_ (hbox); have aL := Q_ (gw_ (w := w) hg (pb_ HB.1)); have g := aL; clear HB; rename_i HB; clear hb hbox hg) | ((with_reducible refine gate_dst (N := 5) rfl ?_); (try (refine gate_guard (by rfl) ?_; dsimp only)); refine bx_ 5 #[.int .i64 v, .slice J t.length M, .slice L u.length O] 34 ?_; intro W hg bQ hbox hb; have _ := Q_ (bb_ a.1 hb); have _ := Q_ (below_step (pb1_ HB.1 g.1) hb); have b := Q_ (hbox); have aM := Q_ (gw_ (w := w) hg (pb1_ HB.1 g.1)); have i := aM; have G := Q_ (nb_ hg a); have Q := Q_ G.1.symm; clear a HB; rename_i a HB; clear hb hbox hg))
 have _ := Q_ (blk_drew a.1)
 have _ := Q_ (blk_drew b.1)
 have _ := Q_ (below_drew1 HB.1)
 clear a b HB
 rename_i a b HB
 refine start_ (n := 8) (S := fun w' => w'.cell? ⟨V, 0, none⟩ = some (.int .i64 s) ∧ w'.cell? ⟨V, 1, none⟩ = some (.slice A o.length D) ∧ w'.cell? ⟨V, 2, none⟩ = some (.slice B p.length E)) (ds := []) (tf_ 0 8) (by kernel_rfl) rfl rfl (sb_ a.1) (fun hHeld => ?_); refine with_tabW impl_FollowsAt.tab1 impl_FollowsAt.bits1 (fun HT_ HW_ => ?_)
 generalize bQ.drew = cJ at a b HB hHeld ⊢
 refine pu1_ 1 14 8 2 ?_
 refine pu1_ 4 17 8 18 ?_
 refine ta1_ 0 13 8 19 hHeld ?_
 refine ta1_ 3 16 8 27 hHeld ?_
 refine on_ 2 (some 15) (tf_ 5 8) HT_ (fun K hK => ?_)
 refine goes_ Try.func81 (by kernel_rfl) rfl #[.agg #[.int .i64 s, .slice A o.length D, .slice B p.length E], .int .i64 a2, .bool true] (by rfl) rfl rfl mp_ ?_
 with_reducible refine (impl_MovesFrom.calls k s _ _ o _ _ p a2 true x _ (cb_ ac HB) Z.1 (cb_ ad HB) aa.1 A5.1).mono ?_
 rintro e cK ⟨ap, rfl, m, hb⟩
 refine ⟨_, rfl, ?_⟩
 have _ := Q_ (Kd.R_lower m (below_size (pb2_ HB.1 g.1 i.1)))
 have _ := Q_ (bb_ a.1 hb)
 have _ := Q_ (bb_ b.1 hb)
 have _ := Q_ (below_step (pb2_ HB.1 g.1 i.1) hb)
 clear a b HB
 rename_i c a b HB
 (try clear hb m)
 refine hK.out _ _ (sb_ a.1) (fun hHeld => ?_)
 clear hK K
 refine no_ (some 15) ?_
 refine on_ 5 (some 18) (tf_ 6 8) HT_ (fun K hK => ?_)
 refine goes_ Try.func81 (by kernel_rfl) rfl #[.agg #[.int .i64 s, .slice A o.length D, .slice B p.length E], .int .i64 a2, .bool false] (by rfl) rfl rfl mp_ ?_
 with_reducible refine (impl_MovesFrom.calls k s _ _ o _ _ p a2 false y _ (cb_ ac HB) Z.1 (cb_ ad HB) aa.1 A6.1).mono ?_
 rintro e bR ⟨aq, rfl, m, hb⟩
 refine ⟨_, rfl, ?_⟩
 have _ := Q_ (Kd.R_elder' (pr_ c.1) (Kd.R_base m) hb)
 have _ := Q_ (Kd.R_lower (Kd.R_new' m (Kd.R_lt (pr_ c.1))) (below_size (pb2_ HB.1 g.1 i.1)))
 have _ := Q_ (bb_ a.1 hb)
 have _ := Q_ (bb_ b.1 hb)
 have _ := Q_ (below_step (pb2_ HB.1 g.1 i.1) hb)
 clear c a b HB
 rename_i c d a b HB
 (try clear hb m)
 refine hK.out _ _ (sb_ a.1) (fun hHeld => ?_)
 clear hK K
 refine no_ (some 18) ?_
 refine pu1_ 6 9 8 127 ?_
 refine pu1_ 7 10 8 255 ?_
 refine done_ (done_of HT_.1 (by kernel_rfl)) ?_
 try go_wp2
 have _ := Q_ (Kd.R_drew c.1)
 have _ := Q_ (Kd.R_drew d.1)
 have _ := Q_ (blk_drew a.1)
 have _ := Q_ (blk_drew b.1)
 have _ := Q_ (below_drew1 HB.1)
 clear c d a b HB
 rename_i c d a b HB
 refine start_ (n := 8) (S := fun w' => w'.cell? ⟨W, 0, none⟩ = some (.int .i64 v) ∧ w'.cell? ⟨W, 1, none⟩ = some (.slice J t.length M) ∧ w'.cell? ⟨W, 2, none⟩ = some (.slice L u.length O)) (ds := []) (tf_ 0 8) (by kernel_rfl) rfl rfl (sb_ b.1) (fun hHeld => ?_); refine with_tabW impl_FollowsAt.tab2 impl_FollowsAt.bits2 (fun HT_ HW_ => ?_)
 generalize bR.drew = cL at c d a b HB hHeld ⊢
 refine pu1_ 1 20 8 2 ?_
 refine pu1_ 4 23 8 18 ?_
 refine ta1_ 0 19 8 19 hHeld ?_
 refine ta1_ 3 22 8 27 hHeld ?_
 refine on_ 2 (some 21) (tf_ 5 8) HT_ (fun K hK => ?_)
 refine goes_ Try.func81 (by kernel_rfl) rfl #[.agg #[.int .i64 v, .slice J t.length M, .slice L u.length O], .int .i64 a3, .bool true] (by rfl) rfl rfl mp_ ?_
 with_reducible refine (impl_MovesFrom.calls k v _ _ t _ _ u a3 true z _ (cb_ ak HB) ai.1 (cb_ al HB) aj.1 A7.1).mono ?_
 rintro e cM ⟨ar, rfl, m, hb⟩
 refine ⟨_, rfl, ?_⟩
 have _ := Q_ (Kd.R_elder' (pr_ c.1) (Kd.R_base m) hb)
 have _ := Q_ (Kd.R_elder' (pr_ d.1) (Kd.R_base m) hb)
 have _ := Q_ (Kd.R_lower (Kd.R_new' (Kd.R_new' m (Kd.R_lt (pr_ c.1))) (Kd.R_lt (pr_ d.1))) (below_size (pb2_ HB.1 g.1 i.1)))
 have _ := Q_ (bb_ a.1 hb)
 have _ := Q_ (bb_ b.1 hb)
 have _ := Q_ (below_step (pb2_ HB.1 g.1 i.1) hb)
 clear c d a b HB
 rename_i c d j a b HB
 (try clear hb m)
 refine hK.out _ _ (sb_ b.1) (fun hHeld => ?_)
 clear hK K
 refine no_ (some 21) ?_
 refine on_ 5 (some 24) (tf_ 6 8) HT_ (fun K hK => ?_)
 refine goes_ Try.func81 (by kernel_rfl) rfl #[.agg #[.int .i64 v, .slice J t.length M, .slice L u.length O], .int .i64 a3, .bool false] (by rfl) rfl rfl mp_ ?_
 with_reducible refine (impl_MovesFrom.calls k v _ _ t _ _ u a3 false q _ (cb_ ak HB) ai.1 (cb_ al HB) aj.1 A8.1).mono ?_
 rintro e cN ⟨au, rfl, m, hb⟩
 refine ⟨_, rfl, ?_⟩
 have _ := Q_ (Kd.R_elder' (pr_ c.1) (Kd.R_base m) hb)
 have _ := Q_ (Kd.R_elder' (pr_ d.1) (Kd.R_base m) hb)
 have _ := Q_ (Kd.R_elder' (pr_ j.1) (Kd.R_base m) hb)
 have _ := Q_ (Kd.R_lower (Kd.R_new' (Kd.R_new' (Kd.R_new' m (Kd.R_lt (pr_ c.1))) (Kd.R_lt (pr_ d.1))) (Kd.R_lt (pr_ j.1))) (below_size (pb2_ HB.1 g.1 i.1)))
 have _ := Q_ (bb_ a.1 hb)
 have _ := Q_ (bb_ b.1 hb)
 have _ := Q_ (below_step (pb2_ HB.1 g.1 i.1) hb)
 clear c d j a b HB
 rename_i c d j l a b HB
 (try clear hb m)
 refine hK.out _ _ (sb_ b.1) (fun hHeld => ?_)
 clear hK K
 refine no_ (some 24) ?_
 refine pu1_ 6 11 8 127 ?_
 refine pu1_ 7 12 8 255 ?_
 refine done_ (done_of HT_.1 (by kernel_rfl)) ?_
 go_upto_region 3 with (fail)
 go_cut [25] (fun bO wc => ∃ (kq : Nat) (ae : Bool), bO = .bool ae ∧ Aside0 (impl_FollowsAt.j0 kq a2 a3 x y z q ae s o p v t u = some r) ∧ Aside0 (kq ≤ k) ∧ Aside0 (Kd.R (Kd.int .i64) 3 wc w.heap.size (fun k_ => some k_ ≠ (aq : Value).ownBlock ∧ some k_ ≠ (ar : Value).ownBlock ∧ some k_ ≠ (au : Value).ownBlock) ap x) ∧ Aside0 (Kd.R (Kd.int .i64) 3 wc w.heap.size (fun k_ => some k_ ≠ (ap : Value).ownBlock ∧ some k_ ≠ (ar : Value).ownBlock ∧ some k_ ≠ (au : Value).ownBlock) aq y) ∧ Aside0 (Kd.R (Kd.int .i64) 3 wc w.heap.size (fun k_ => some k_ ≠ (ap : Value).ownBlock ∧ some k_ ≠ (aq : Value).ownBlock ∧ some k_ ≠ (au : Value).ownBlock) ar z) ∧ Aside0 (Kd.R (Kd.int .i64) 3 wc w.heap.size (fun k_ => some k_ ≠ (ap : Value).ownBlock ∧ some k_ ≠ (aq : Value).ownBlock ∧ some k_ ≠ (ar : Value).ownBlock) au q) ∧ Aside0 (wc.heap[V]? = some (.cells #[.int .i64 s, (.slice A o.length D), (.slice B p.length E)] 34 (0, 0))) ∧ Aside0 (wc.heap[W]? = some (.cells #[.int .i64 v, (.slice J t.length M), (.slice L u.length O)] 34 (0, 0))) ∧ Aside0 (Below w.heap.size w wc))
 case first =>
  have H := aN.1
  clear aN
  obtain ⟨X, aX, H⟩ := bs_ H
  (try dsimp only at H)
  by_cases ax : (X.length : Int) > 0
  ·rw [if_pos ax] at H
   have T := decide_eq_true ax
   have am : decide (0 < X.length) = true := decide_eq_true (by omega)
   clear ax
   (first | rw [T] | (simp only [i64_w, i32_w]; rw [T]) | rw [am] | skip)
   have H' := Q_ H
   clear H
   obtain ⟨aZ, a5, a9⟩ := Kd.R_slice l.1
   subst a9
   obtain ⟨a0, a6, ba⟩ := Kd.R_slice d.1
   subst ba
   go_wp2_with (first | ((with_reducible refine gate_callee (f := 82) rfl ?_); refine gl_ (some 28) Try.func82 #[.slice aZ q.length a5, .slice a0 y.length a6] ?_; (with_reducible refine (impl_without.calls k _ _ q _ _ y X _ ?side1 ?side2 ?side3 ?side4 aX.1).mono ?_); (case side1 => exact pc_ ((Kd.R_reads' l.1).2.2)); (case side2 => exact (Kd.R_reads' l.1).2.1); (case side3 => exact pc_ ((Kd.R_reads' d.1).2.2)); (case side4 => exact (Kd.R_reads' d.1).2.1); rintro e cO ⟨bC, rfl, m, hb⟩; refine ⟨_, rfl, ?_⟩; have _ := Q_ (Kd.R_elder' (pr_ c.1) (Kd.R_base m) hb); have _ := Q_ (Kd.R_elder' (pr_ d.1) (Kd.R_base m) hb); have _ := Q_ (Kd.R_elder' (pr_ j.1) (Kd.R_base m) hb); have _ := Q_ (Kd.R_elder' (pr_ l.1) (Kd.R_base m) hb); have _ := Q_ (Kd.R_lower (Kd.R_new' (Kd.R_new' (Kd.R_new' (Kd.R_new' m (Kd.R_lt (pr_ c.1))) (Kd.R_lt (pr_ d.1))) (Kd.R_lt (pr_ j.1))) (Kd.R_lt (pr_ l.1))) (below_size (pb2_ HB.1 g.1 i.1))); have _ := Q_ (bb_ a.1 hb); have _ := Q_ (bb_ b.1 hb); have _ := Q_ (below_step (pb2_ HB.1 g.1 i.1) hb); clear c d j l a b HB; rename_i c d j l F a b HB; (try clear hb m); obtain ⟨bS, cg, bb⟩ := Kd.R_slice F.1; subst bb))
   go_meet
   case rel => exact ⟨_, (true), el_, H', ⟨by first | omega | exact Nat.le_refl _⟩, ⟨by (with_reducible repeat (first | apply Kd.R_alloc | apply Kd.R_drewN | apply Kd.R_drew)); exact Kd.R_mono c.1 (fun _ hk => ⟨hk.1.1.1.2, ⟨hk.1.1.2, hk.1.2⟩⟩)⟩, ⟨by (with_reducible repeat (first | apply Kd.R_alloc | apply Kd.R_drewN | apply Kd.R_drew)); exact Kd.R_mono d.1 (fun _ hk => ⟨hk.1.1.1.2, ⟨hk.1.1.2, hk.1.2⟩⟩)⟩, ⟨by (with_reducible repeat (first | apply Kd.R_alloc | apply Kd.R_drewN | apply Kd.R_drew)); exact Kd.R_mono j.1 (fun _ hk => ⟨hk.1.1.1.2, ⟨hk.1.1.2, hk.1.2⟩⟩)⟩, ⟨by (with_reducible repeat (first | apply Kd.R_alloc | apply Kd.R_drewN | apply Kd.R_drew)); exact Kd.R_mono l.1 (fun _ hk => ⟨hk.1.1.1.2, ⟨hk.1.1.2, hk.1.2⟩⟩)⟩, ⟨pk_ a.1⟩, ⟨pk_ b.1⟩, ⟨pb2_ HB.1 g.1 i.1⟩⟩
  rw [if_neg ax] at H
  have T := decide_eq_false ax
  have am : decide (0 < X.length) = false := decide_eq_false (by omega)
  clear ax
  (first | rw [T] | (simp only [i64_w, i32_w]; rw [T]) | rw [am] | skip)
  obtain ⟨ao, bD, H⟩ := bs_ H
  (try dsimp only at H)
  have H' := Q_ H
  clear H
  obtain ⟨a1, a7, bc⟩ := Kd.R_slice l.1
  subst bc
  obtain ⟨a4, a8, bd⟩ := Kd.R_slice d.1
  subst bd
  go_wp2_with (first | ((with_reducible refine gate_callee (f := 82) rfl ?_); refine gl_ (some 28) Try.func82 #[.slice a1 q.length a7, .slice a4 y.length a8] ?_; (with_reducible refine (impl_without.calls k _ _ q _ _ y X _ ?side1 ?side2 ?side3 ?side4 aX.1).mono ?_); (case side1 => exact pc_ ((Kd.R_reads' l.1).2.2)); (case side2 => exact (Kd.R_reads' l.1).2.1); (case side3 => exact pc_ ((Kd.R_reads' d.1).2.2)); (case side4 => exact (Kd.R_reads' d.1).2.1); rintro e cP ⟨bC, rfl, m, hb⟩; refine ⟨_, rfl, ?_⟩; have _ := Q_ (Kd.R_elder' (pr_ c.1) (Kd.R_base m) hb); have _ := Q_ (Kd.R_elder' (pr_ d.1) (Kd.R_base m) hb); have _ := Q_ (Kd.R_elder' (pr_ j.1) (Kd.R_base m) hb); have _ := Q_ (Kd.R_elder' (pr_ l.1) (Kd.R_base m) hb); have _ := Q_ (Kd.R_lower (Kd.R_new' (Kd.R_new' (Kd.R_new' (Kd.R_new' m (Kd.R_lt (pr_ c.1))) (Kd.R_lt (pr_ d.1))) (Kd.R_lt (pr_ j.1))) (Kd.R_lt (pr_ l.1))) (below_size (pb2_ HB.1 g.1 i.1))); have _ := Q_ (bb_ a.1 hb); have _ := Q_ (bb_ b.1 hb); have _ := Q_ (below_step (pb2_ HB.1 g.1 i.1) hb); clear c d j l a b HB; rename_i c d j l F a b HB; (try clear hb m); obtain ⟨bT, ch, be⟩ := Kd.R_slice F.1; subst be; obtain ⟨bU, ci, bf⟩ := Kd.R_slice c.1; subst bf; obtain ⟨bV, cj, bg⟩ := Kd.R_slice j.1; subst bg) | (go_at_call 82; (with_reducible refine (impl_without.calls k _ _ x _ _ z ao _ ?side1 ?side2 ?side3 ?side4 bD.1).mono ?_); (case side1 => exact pc_ ((Kd.R_reads' c.1).2.2)); (case side2 => exact (Kd.R_reads' c.1).2.1); (case side3 => exact pc_ ((Kd.R_reads' j.1).2.2)); (case side4 => exact (Kd.R_reads' j.1).2.1); rintro e cQ ⟨cD, rfl, m, hb⟩; have _ := Q_ (Kd.R_elder' (pr_ c.1) (Kd.R_base m) hb); have _ := Q_ (Kd.R_elder' (pr_ d.1) (Kd.R_base m) hb); have _ := Q_ (Kd.R_elder' (pr_ j.1) (Kd.R_base m) hb); have _ := Q_ (Kd.R_elder' (pr_ l.1) (Kd.R_base m) hb); have _ := Q_ (Kd.R_elder' (pr_ F.1) (Kd.R_base m) hb); have _ := Q_ (Kd.R_lower (Kd.R_new' (Kd.R_new' (Kd.R_new' (Kd.R_new' (Kd.R_new' m (Kd.R_lt (pr_ c.1))) (Kd.R_lt (pr_ d.1))) (Kd.R_lt (pr_ j.1))) (Kd.R_lt (pr_ l.1))) (Kd.R_lt (pr_ F.1))) (below_size (pb2_ HB.1 g.1 i.1))); have _ := Q_ (bb_ a.1 hb); have _ := Q_ (bb_ b.1 hb); have _ := Q_ (below_step (pb2_ HB.1 g.1 i.1) hb); clear c d j l F a b HB; rename_i c d j l F aO a b HB; (try clear hb m); obtain ⟨bW, ck, bh⟩ := Kd.R_slice aO.1; subst bh))
  go_meet
  case rel => exact ⟨_, (decide ((ao.length : Int) > 0)), el_, H', ⟨by first | omega | exact Nat.le_refl _⟩, ⟨by (with_reducible repeat (first | apply Kd.R_alloc | apply Kd.R_drewN | apply Kd.R_drew)); exact Kd.R_mono c.1 (fun _ hk => ⟨hk.1.1.1.1.2, ⟨hk.1.1.1.2, hk.1.1.2⟩⟩)⟩, ⟨by (with_reducible repeat (first | apply Kd.R_alloc | apply Kd.R_drewN | apply Kd.R_drew)); exact Kd.R_mono d.1 (fun _ hk => ⟨hk.1.1.1.1.2, ⟨hk.1.1.1.2, hk.1.1.2⟩⟩)⟩, ⟨by (with_reducible repeat (first | apply Kd.R_alloc | apply Kd.R_drewN | apply Kd.R_drew)); exact Kd.R_mono j.1 (fun _ hk => ⟨hk.1.1.1.1.2, ⟨hk.1.1.1.2, hk.1.1.2⟩⟩)⟩, ⟨by (with_reducible repeat (first | apply Kd.R_alloc | apply Kd.R_drewN | apply Kd.R_drew)); exact Kd.R_mono l.1 (fun _ hk => ⟨hk.1.1.1.1.2, ⟨hk.1.1.1.2, hk.1.1.2⟩⟩)⟩, ⟨pk_ a.1⟩, ⟨pk_ b.1⟩, ⟨pb2_ HB.1 g.1 i.1⟩⟩
 clear aN
 obtain ⟨kq, ae, rfl, HA, av, Y, aC, I, ab, a, b, HB⟩ := hcut
 rcases kq with _ | kj8
 ·exact absurd HA.1 (by simp [impl_FollowsAt.j0])
 have H := HA.1
 clear HA
 simp only [impl_FollowsAt.j0] at H
 by_cases aH : ae = true
 ·subst aH
  rw [if_pos rfl] at H
  obtain rfl := Option.some.inj H
  go_wp2
  go_ret
  exact ⟨er_, pb2_ HB.1 g.1 i.1⟩
 replace aH := bf_ aH
 subst aH
 rw [if_neg ff_] at H
 have aB := Q_ H
 clear H
 go_upto_region 5 with (fail)
 go_cut [38] (fun bP wc => ∃ (kq : Nat) (P : Bool), bP = .bool P ∧ Aside0 (impl_FollowsAt.j1 kq a2 a3 P s o p v t u = some r) ∧ Aside0 (kq ≤ kj8) ∧ Aside0 (wc.heap[V]? = some (.cells #[.int .i64 s, (.slice A o.length D), (.slice B p.length E)] 34 (0, 0))) ∧ Aside0 (wc.heap[W]? = some (.cells #[.int .i64 v, (.slice J t.length M), (.slice L u.length O)] 34 (0, 0))) ∧ Aside0 (Below w.heap.size w wc))
 case first =>
  have H := aB.1
  clear aB
  by_cases ay : (z.length : Int) > 0
  rotate_left
  ·rw [if_neg ay] at H
   have U := decide_eq_false ay
   have an : decide (0 < z.length) = false := decide_eq_false (by omega)
   clear ay
   (first | rw [U] | (simp only [i64_w, i32_w]; rw [U]) | rw [an] | skip)
   by_cases az : (x.length : Int) > 0
   ·rw [if_pos az] at H
    have aP := decide_eq_true az
    have aQ : decide (0 < x.length) = true := decide_eq_true (by omega)
    clear az
    have H' := Q_ H
    clear H
    obtain ⟨bX, cl, bi⟩ := Kd.R_slice I.1
    subst bi
    obtain ⟨bY, cm, bj⟩ := Kd.R_slice Y.1
    subst bj
    go_wp2
    go_meet
    case rel => exact ⟨_, (true), el_, H', ⟨by have := av.1; first | omega | exact Nat.le_refl _⟩, ⟨pk_ a.1⟩, ⟨pk_ b.1⟩, ⟨pb2_ HB.1 g.1 i.1⟩⟩
   rw [if_neg az] at H
   have aP := decide_eq_false az
   have aQ : decide (0 < x.length) = false := decide_eq_false (by omega)
   clear az
   by_cases af : (q.length : Int) = 0
   rotate_left
   ·rw [if_neg af] at H
    have aR : ((q.length : Int) == 0) = false := beq_eq_false_iff_ne.mpr af
    have aS : ((q.length : Int) != 0) = true := bne_iff_ne.mpr af
    have bF : ¬ (q = []) := fun h_ => af (by rw [h_]; rfl)
    have H' := Q_ H
    clear H
    obtain ⟨bZ, cn, bk⟩ := Kd.R_slice I.1
    subst bk
    obtain ⟨b0, co, bl⟩ := Kd.R_slice Y.1
    subst bl
    obtain ⟨b1, cp, bm⟩ := Kd.R_slice ab.1
    subst bm
    go_wp2
    go_meet
    case rel => exact ⟨_, (false), el_, H', ⟨by have := av.1; first | omega | exact Nat.le_refl _⟩, ⟨pk_ a.1⟩, ⟨pk_ b.1⟩, ⟨pb2_ HB.1 g.1 i.1⟩⟩
   rw [if_pos af] at H
   have aR : ((q.length : Int) == 0) = true := beq_iff_eq.mpr af
   have aS : ((q.length : Int) != 0) = false := bne_eq_false_iff_eq.mpr af
   clear af
   have H' := Q_ H
   clear H
   obtain ⟨b2, cq, bn⟩ := Kd.R_slice I.1
   subst bn
   obtain ⟨b3, cr, bo⟩ := Kd.R_slice Y.1
   subst bo
   obtain ⟨b4, cs, bp⟩ := Kd.R_slice ab.1
   subst bp
   obtain ⟨b5, ct, bq⟩ := Kd.R_slice aC.1
   subst bq
   go_wp2
   go_meet
   case rel => exact ⟨_, (decide ((y.length : Int) > 0)), el_, H', ⟨by have := av.1; first | omega | exact Nat.le_refl _⟩, ⟨pk_ a.1⟩, ⟨pk_ b.1⟩, ⟨pb2_ HB.1 g.1 i.1⟩⟩
  rw [if_pos ay] at H
  have U := decide_eq_true ay
  have an : decide (0 < z.length) = true := decide_eq_true (by omega)
  clear ay
  (first | rw [U] | (simp only [i64_w, i32_w]; rw [U]) | rw [an] | skip)
  by_cases aA : (x.length : Int) > 0
  rotate_left
  ·rw [if_neg aA] at H
   have aT := decide_eq_false aA
   have aU : decide (0 < x.length) = false := decide_eq_false (by omega)
   clear aA
   have H' := Q_ H
   clear H
   obtain ⟨b6, cu, br⟩ := Kd.R_slice I.1
   subst br
   obtain ⟨b7, cv, bs⟩ := Kd.R_slice Y.1
   subst bs
   go_wp2
   go_meet
   case rel => exact ⟨_, (true), el_, H', ⟨by have := av.1; first | omega | exact Nat.le_refl _⟩, ⟨pk_ a.1⟩, ⟨pk_ b.1⟩, ⟨pb2_ HB.1 g.1 i.1⟩⟩
  rw [if_pos aA] at H
  have aT := decide_eq_true aA
  have aU : decide (0 < x.length) = true := decide_eq_true (by omega)
  clear aA
  by_cases ag : (q.length : Int) = 0
  rotate_left
  ·rw [if_neg ag] at H
   have aV : ((q.length : Int) == 0) = false := beq_eq_false_iff_ne.mpr ag
   have aW : ((q.length : Int) != 0) = true := bne_iff_ne.mpr ag
   have bG : ¬ (q = []) := fun h_ => ag (by rw [h_]; rfl)
   have H' := Q_ H
   clear H
   obtain ⟨b8, cw, bt⟩ := Kd.R_slice I.1
   subst bt
   obtain ⟨b9, cx, bu⟩ := Kd.R_slice Y.1
   subst bu
   obtain ⟨ca, cy, bv⟩ := Kd.R_slice ab.1
   subst bv
   go_wp2
   go_meet
   case rel => exact ⟨_, (false), el_, H', ⟨by have := av.1; first | omega | exact Nat.le_refl _⟩, ⟨pk_ a.1⟩, ⟨pk_ b.1⟩, ⟨pb2_ HB.1 g.1 i.1⟩⟩
  rw [if_pos ag] at H
  have aV : ((q.length : Int) == 0) = true := beq_iff_eq.mpr ag
  have aW : ((q.length : Int) != 0) = false := bne_eq_false_iff_eq.mpr ag
  clear ag
  have H' := Q_ H
  clear H
  obtain ⟨cb, cz, bw⟩ := Kd.R_slice I.1
  subst bw
  obtain ⟨cc, cA, bx⟩ := Kd.R_slice Y.1
  subst bx
  obtain ⟨cd, cB, bz⟩ := Kd.R_slice ab.1
  subst bz
  obtain ⟨ce, cC, bA⟩ := Kd.R_slice aC.1
  subst bA
  go_wp2
  go_meet
  case rel => exact ⟨_, (decide ((y.length : Int) > 0)), el_, H', ⟨by have := av.1; first | omega | exact Nat.le_refl _⟩, ⟨pk_ a.1⟩, ⟨pk_ b.1⟩, ⟨pb2_ HB.1 g.1 i.1⟩⟩
 clear aB
 obtain ⟨kq, P, rfl, HA, cf, a, b, HB⟩ := hcut
 rcases kq with _ | kj33
 ·exact absurd HA.1 (by simp [impl_FollowsAt.j1])
 have H := HA.1
 clear HA
 simp only [impl_FollowsAt.j1] at H
 by_cases aI : P = true
 ·subst aI
  rw [if_pos rfl] at H
  obtain rfl := Option.some.inj H
  go_wp2
  go_ret
  exact ⟨er_, pb2_ HB.1 g.1 i.1⟩
 replace aI := bf_ aI
 subst aI
 rw [if_neg ff_] at H
 obtain ⟨bB, aY, H⟩ := bs_ H
 (try dsimp only at H)
 by_cases aJ : bB = true
 ·subst aJ
  rw [if_pos rfl] at H
  obtain rfl := Option.some.inj H
  have bK := G.1
  have bM := Q.1
  have bH := bc3_ a.1
  go_wp2_with (first | ((with_reducible refine gate_callee (f := 83) rfl ?_); refine gl_ (some 58) Try.func83 #[.agg #[.int .i64 s, .slice A o.length D, .slice B p.length E], .int .i64 a2] ?_; (with_reducible refine (impl_isEnd.calls s _ _ o _ _ p a2 true _ (cb_ ac HB) Z.1 (cb_ ad HB) aa.1 aY.1).mono ?_); rintro e cR ⟨rfl, hb⟩; refine ⟨_, rfl, ?_⟩; have _ := Q_ (bb_ a.1 hb); have _ := Q_ (bb_ b.1 hb); have _ := Q_ (below_step (pb2_ HB.1 g.1 i.1) hb); clear a b HB; rename_i a b HB; (try clear hb)))
  go_ret
  exact ⟨er_, pb2_ HB.1 g.1 i.1⟩
 replace aJ := bf_ aJ
 subst aJ
 rw [if_neg ff_] at H
 obtain ⟨aK, bE, H⟩ := bs_ H
 replace H : (some (!aK)) = some r := H
 obtain rfl := Option.some.inj H
 have bL := G.1
 have bN := Q.1
 have bI := bc3_ a.1
 go_wp2_with (first | ((with_reducible refine gate_callee (f := 83) rfl ?_); refine gl_ (some 58) Try.func83 #[.agg #[.int .i64 s, .slice A o.length D, .slice B p.length E], .int .i64 a2] ?_; (with_reducible refine (impl_isEnd.calls s _ _ o _ _ p a2 false _ (cb_ ac HB) Z.1 (cb_ ad HB) aa.1 aY.1).mono ?_); rintro e cS ⟨rfl, hb⟩; refine ⟨_, rfl, ?_⟩; have _ := Q_ (bb_ a.1 hb); have _ := Q_ (bb_ b.1 hb); have _ := Q_ (below_step (pb2_ HB.1 g.1 i.1) hb); clear a b HB; rename_i a b HB; (try clear hb); have bJ := bc3_ b.1) | (go_at_call 83; (with_reducible refine (impl_isEnd.calls v _ _ t _ _ u a3 aK _ (cb_ ak HB) ai.1 (cb_ al HB) aj.1 bE.1).mono ?_); rintro e cT ⟨rfl, hb⟩; have _ := Q_ (bb_ a.1 hb); have _ := Q_ (bb_ b.1 hb); have _ := Q_ (below_step (pb2_ HB.1 g.1 i.1) hb); clear a b HB; rename_i a b HB; (try clear hb)))
 go_ret
 exact ⟨er_, pb2_ HB.1 g.1 i.1⟩

/-! ### impl_Follows: function 48 -/
mutual
def impl_Follows.j0 : Nat → Bool → Int → List Bool → List (S78) → Int → List Bool → List (S78) → Option (Bool)
 | 0, _, _, _, _, _, _, _ => none
 | k + 1, i, a, b, c, d, e, g => if i = true then (some false) else ((impl_FollowPairs.f k a b c d e g).bind fun h => (impl_Follows.l0 k h (h.length : Int) 0 a b c d e g))
def impl_Follows.l0 : Nat → List (List Int) → Int → Int → Int → List Bool → List (S78) → Int → List Bool → List (S78) → Option (Bool)
 | 0, _, _, _, _, _, _, _, _, _ => none
 | k + 1, i, l, a, b, c, d, e, g, h => if a < l then (if 0 ≤ a then (if a < (i.length : Int) then (if 0 < ((rd_L3 i a).length : Int) then (if 1 < ((rd_L3 i a).length : Int) then ((impl_FollowsAt.f k b c d e g h (rd (rd_L3 i a) 0) (rd (rd_L3 i a) 1)).bind fun j => (if j = true then (impl_Follows.l0 k i l (wrap64 (a + 1)) b c d e g h) else (some false))) else (none)) else (none)) else (none)) else (none)) else (some true)
end
def impl_Follows.f (k : Nat) (a : Int) (c : List Bool) (d : List (S78)) (b : Int) (e : List Bool) (g : List (S78)) : Option (Bool) := (impl_IsMachine.f k a c d).bind fun h => (if h = true then ((impl_IsMachine.f k b e g).bind fun i => (impl_Follows.j0 k (!i) a c d b e g)) else (impl_Follows.j0 k true a c d b e g))
theorem impl_Follows.mono_l : ∀ k, (∀ a b c d e f g, LeO (impl_Follows.j0 k a b c d e f g) (impl_Follows.j0 (k + 1) a b c d e f g)) ∧ (∀ a b c d e f g i j, LeO (impl_Follows.l0 k a b c d e f g i j) (impl_Follows.l0 (k + 1) a b c d e f g i j))
 | 0 => ⟨fun _ _ _ _ _ _ _ r h => by simp [impl_Follows.j0] at h, fun _ _ _ _ _ _ _ _ _ r h => by simp [impl_Follows.l0] at h⟩
 | k + 1 => by
  obtain ⟨ih0, ih1⟩ := impl_Follows.mono_l k
  refine ⟨?_, ?_⟩
  ·intro a b c d e f g
   unfold impl_Follows.j0
   exact mo5_ ih0 ih1 impl_FollowPairs.mono impl_FollowsAt.mono impl_IsMachine.mono
  ·intro a b c d e f g i j
   unfold impl_Follows.l0
   exact mo5_ ih0 ih1 impl_FollowPairs.mono impl_FollowsAt.mono impl_IsMachine.mono
theorem impl_Follows.mono : ∀ a b c d e g k, LeO (impl_Follows.f k a b c d e g) (impl_Follows.f (k + 1) a b c d e g) := by
 intro a b c d e g k
 obtain ⟨ih0, ih1⟩ := impl_Follows.mono_l k
 unfold impl_Follows.f
 exact mo5_ ih0 ih1 impl_FollowPairs.mono impl_FollowsAt.mono impl_IsMachine.mono
def impl_Follows.T6 : Bool × List (List Nat × List Nat) := (true, [([], []), ([], []), ([], []), ([2], [2]), ([3], [3]), ([], []), ([5], [5]), ([6], [6]), ([0, 1, 4, 7], [0, 1, 4, 7]), ([8], [8])])
def impl_Follows.B6 : List Nat := [0, 0, 0, 4, 12, 0, 32, 96, 255, 511]
theorem impl_Follows.tab6 : rtab .any (opsOf Try.f48 6) = impl_Follows.T6 := by kernel_rfl
theorem impl_Follows.bits6 : waitsOk impl_Follows.T6.2 impl_Follows.B6 = true := by kernel_rfl
theorem impl_Follows.calls (k : Nat) (m : Int) (y : Option Addr) (A : Nat) (i : List Bool) (z : Option Addr) (B : Nat) (j : List (S78)) (t : Int) (G : Option Addr) (J : Nat) (p : List Bool) (I : Option Addr) (L : Nat) (q : List (S78)) (r : Bool) (w : World) (hr0_1 : Kd.C Kd.bool w y i.length i) (aj : i.length ≤ A) (hr0_2 : Kd.C k78 w z j.length j) (ak : j.length ≤ B) (hr1_1 : Kd.C Kd.bool w G p.length p) (al : p.length ≤ J) (hr1_2 : Kd.C k78 w I q.length q) (am : q.length ≤ L) (h : impl_Follows.f k m i j t p q = some r) :
  Calls Try.prog 48 #[.agg #[.int .i64 m, .slice y i.length A, .slice z j.length B], .agg #[.int .i64 t, .slice G p.length J, .slice I q.length L]] w fun e w' => e = .returned (.bool r) ∧ Below w.heap.size w w' := by
 have hu34 := Try.underlying34
 have R := Q_ hr0_1
 have P := Q_ aj
 clear hr0_1 aj
 have T := Q_ hr0_2
 have Q := Q_ ak
 clear hr0_2 ak
 have ac := Q_ hr1_1
 have aa := Q_ al
 clear hr1_1 al
 have ad := Q_ hr1_2
 have ab := Q_ am
 clear hr1_2 am
 have HB := Q_ (Below.refl w.heap.size w)
 have H : ((impl_IsMachine.f k m i j).bind fun au => (if au = true then ((impl_IsMachine.f k t p q).bind fun Z => (impl_Follows.j0 k (!Z) m i j t p q)) else (impl_Follows.j0 k true m i j t p q))) = some r := h
 clear h
 have aE := Q_ H
 clear H
 go_enter Try.func48, Try.ntmps48
 go_upto_region 1 with (first | ((with_reducible refine gate_dst (N := 2) rfl ?_); refine bx_ 2 #[.int .i64 m, .slice y i.length A, .slice z j.length B] 34 ?_; intro D hg w4 hbox hb; have _ := Q_ (below_step (pb_ HB.1) hb); have a := Q_ (hbox); have aC := Q_ (gw_ (w := w) hg (pb_ HB.1)); have s := aC; clear HB; rename_i HB; clear hb hbox hg) | ((with_reducible refine gate_dst (N := 3) rfl ?_); refine bx_ 3 #[.int .i64 t, .slice G p.length J, .slice I q.length L] 34 ?_; intro E hg w5 hbox hb; have _ := Q_ (bb_ a.1 hb); have _ := Q_ (below_step (pb1_ HB.1 s.1) hb); have b := Q_ (hbox); have aD := Q_ (gw_ (w := w) hg (pb1_ HB.1 s.1)); have u := aD; have x := Q_ (nb_ hg a); have F := Q_ x.1.symm; clear a HB; rename_i a HB; clear hb hbox hg))
 (try simp only [Act.put, s1_, s2_, s3_])
 go_cut [14] (fun bc wc => ∃ (kq : Nat) (W : Bool), bc = .bool W ∧ Aside0 (impl_Follows.j0 kq W m i j t p q = some r) ∧ Aside0 (kq ≤ k) ∧ Aside0 (wc.heap[D]? = some (.cells #[.int .i64 m, (.slice y i.length A), (.slice z j.length B)] 34 (0, 0))) ∧ Aside0 (wc.heap[E]? = some (.cells #[.int .i64 t, (.slice G p.length J), (.slice I q.length L)] 34 (0, 0))) ∧ Aside0 (Below w.heap.size w wc))
 case first =>
  have H := aE.1
  clear aE
  obtain ⟨au, A6, H⟩ := bs_ H
  (try dsimp only at H)
  by_cases c7 : au = true
  rotate_left
  ·replace c7 := bf_ c7
   subst c7
   rw [if_neg ff_] at H
   have H' := Q_ H
   clear H
   have bg := x.1
   have bh := F.1
   have bf := bc3_ a.1
   go_wp2_with (first | ((with_reducible refine gate_callee (f := 55) rfl ?_); refine gl_ (some 8) Try.func55 #[.agg #[.int .i64 m, .slice y i.length A, .slice z j.length B]] ?_; (with_reducible refine (impl_IsMachine.calls k m _ _ i _ _ j false _ (cb_ R HB) P.1 (cb_ T HB) Q.1 A6.1).mono ?_); rintro e bj ⟨rfl, hb⟩; refine ⟨_, rfl, ?_⟩; have _ := Q_ (bb_ a.1 hb); have _ := Q_ (bb_ b.1 hb); have _ := Q_ (below_step (pb2_ HB.1 s.1 u.1) hb); clear a b HB; rename_i a b HB; (try clear hb)))
   go_meet
   case rel => exact ⟨_, (true), el_, H', ⟨by first | omega | exact Nat.le_refl _⟩, ⟨pk_ a.1⟩, ⟨pk_ b.1⟩, ⟨pb2_ HB.1 s.1 u.1⟩⟩
  subst c7
  rw [if_pos rfl] at H
  obtain ⟨Z, aU, H⟩ := bs_ H
  replace H : (impl_Follows.j0 k (!Z) m i j t p q) = some r := H
  have H' := Q_ H
  clear H
  have a8 := x.1
  have ba := F.1
  have a4 := bc3_ a.1
  go_wp2_with (first | ((with_reducible refine gate_callee (f := 55) rfl ?_); refine gl_ (some 8) Try.func55 #[.agg #[.int .i64 m, .slice y i.length A, .slice z j.length B]] ?_; (with_reducible refine (impl_IsMachine.calls k m _ _ i _ _ j true _ (cb_ R HB) P.1 (cb_ T HB) Q.1 A6.1).mono ?_); rintro e bk ⟨rfl, hb⟩; refine ⟨_, rfl, ?_⟩; have _ := Q_ (bb_ a.1 hb); have _ := Q_ (bb_ b.1 hb); have _ := Q_ (below_step (pb2_ HB.1 s.1 u.1) hb); clear a b HB; rename_i a b HB; (try clear hb); have a5 := bc3_ b.1) | (go_at_call 55; (with_reducible refine (impl_IsMachine.calls k t _ _ p _ _ q Z _ (cb_ ac HB) aa.1 (cb_ ad HB) ab.1 aU.1).mono ?_); rintro e bl ⟨rfl, hb⟩; have _ := Q_ (bb_ a.1 hb); have _ := Q_ (bb_ b.1 hb); have _ := Q_ (below_step (pb2_ HB.1 s.1 u.1) hb); clear a b HB; rename_i a b HB; (try clear hb)))
  go_meet
  case rel => exact ⟨_, (!Z), el_, H', ⟨by first | omega | exact Nat.le_refl _⟩, ⟨pk_ a.1⟩, ⟨pk_ b.1⟩, ⟨pb2_ HB.1 s.1 u.1⟩⟩
 clear aE
 obtain ⟨kq, W, rfl, HA, aJ, a, b, HB⟩ := hcut
 rcases kq with _ | kj2
 ·exact absurd HA.1 (by simp [impl_Follows.j0])
 have H := HA.1
 clear HA
 simp only [impl_Follows.j0] at H
 by_cases av : W = true
 ·subst av
  rw [if_pos rfl] at H
  obtain rfl := Option.some.inj H
  go_wp2
  go_ret
  exact ⟨er_, pb2_ HB.1 s.1 u.1⟩
 replace av := bf_ av
 subst av
 rw [if_neg ff_] at H
 obtain ⟨l, aV, H⟩ := bs_ H
 (try dsimp only at H)
 have H' := Q_ H
 clear H
 have a9 := x.1
 have bb := F.1
 have a6 := bc3_ a.1
 have a7 := bc3_ b.1
 go_wp2_with (first | ((with_reducible refine gate_callee (f := 64) rfl ?_); refine gl_ (some 17) Try.func64 #[.agg #[.int .i64 m, .slice y i.length A, .slice z j.length B], .agg #[.int .i64 t, .slice G p.length J, .slice I q.length L]] ?_; (with_reducible refine (impl_FollowPairs.calls kj2 m _ _ i _ _ j t _ _ p _ _ q l _ (cb_ R HB) P.1 (cb_ T HB) Q.1 (cb_ ac HB) aa.1 (cb_ ad HB) ab.1 aV.1).mono ?_); rintro e bm ⟨bi, rfl, aQ, hb⟩; refine ⟨_, rfl, ?_⟩; have _ := Q_ (Kd.N_lower (Kd.N_mono (ok' := fun k_ => k_ ≠ D ∧ k_ ≠ E) aQ (fun k_ hk_ => ⟨(Kd.freshB (g := D) (o := .cells #[.int .i64 m, .slice y i.length A, .slice z j.length B] 34 (0, 0)) (pk_ a.1) k_ hk_), (Kd.freshB (g := E) (o := .cells #[.int .i64 t, .slice G p.length J, .slice I q.length L] 34 (0, 0)) (pk_ b.1) k_ hk_)⟩)) (below_size (pb2_ HB.1 s.1 u.1))); have _ := Q_ (bb_ a.1 hb); have _ := Q_ (bb_ b.1 hb); have _ := Q_ (below_step (pb2_ HB.1 s.1 u.1) hb); clear a b HB; rename_i ai a b HB; (try clear hb aQ); obtain ⟨aH, aL, aP⟩ := Kd.N_slice ai.1; subst aP))
 (try simp only [Act.put, s1_, s2_, s3_])
 go_loopg [19] kj2 (fun kq bd w' => ∃ (c : Int), bd = .int .i64 c ∧ Aside0 (impl_Follows.l0 kq l (l.length : Int) c m i j t p q = some r) ∧ Aside0 (kq ≤ kj2) ∧ Aside0 (Kd.N (Kd.slice 3 (Kd.int .i64)) 39 w' w.heap.size (fun k_ => k_ ≠ D ∧ k_ ≠ E) (.slice aH l.length aL) l) ∧ Aside0 (w'.heap[D]? = some (.cells #[.int .i64 m, (.slice y i.length A), (.slice z j.length B)] 34 (0, 0))) ∧ Aside0 (w'.heap[E]? = some (.cells #[.int .i64 t, (.slice G p.length J), (.slice I q.length L)] 34 (0, 0))) ∧ Aside0 (Below w.heap.size w w'))
 case atStart => exact ⟨(0), el_, H', ⟨Nat.le_refl _⟩, ⟨by (with_reducible repeat (first | apply Kd.N_alloc | apply Kd.N_drewN | apply Kd.N_drew)); exact ai.1⟩, ⟨pk_ a.1⟩, ⟨pk_ b.1⟩, ⟨pb2_ HB.1 s.1 u.1⟩⟩
 clear H'
 obtain ⟨c, rfl, HA, aK, v, a, b, HB⟩ := hrel
 rcases gk with _ | k2
 ·exact absurd HA.1 (by simp [impl_Follows.l0])
 have H := HA.1
 clear HA
 simp only [impl_Follows.l0] at H
 by_cases ah : c < (l.length : Int)
 rotate_left
 ·rw [if_neg ah] at H
  have aG := decide_eq_false ah
  clear ah
  obtain rfl := Option.some.inj H
  go_wp2
  go_ret
  exact ⟨er_, pb2_ HB.1 s.1 u.1⟩
 rw [if_pos ah] at H
 have aG := decide_eq_true ah
 clear ah
 by_cases aw : 0 ≤ c
 rotate_left
 ·rw [if_neg aw] at H
  exact nn_ H
 rw [if_pos aw] at H
 have aY := decide_eq_true aw
 clear aw
 by_cases ax : c < (l.length : Int)
 rotate_left
 ·rw [if_neg ax] at H
  exact nn_ H
 rw [if_pos ax] at H
 have aZ := decide_eq_true ax
 clear ax
 by_cases ay : 0 < ((rd_L3 l c).length : Int)
 rotate_left
 ·rw [if_neg ay] at H
  exact nn_ H
 rw [if_pos ay] at H
 have a0 := decide_eq_true ay
 have a1 : decide (0 < (rd_L3 l c).length) = true := decide_eq_true (by omega)
 clear ay
 by_cases az : 1 < ((rd_L3 l c).length : Int)
 rotate_left
 ·rw [if_neg az] at H
  exact nn_ H
 rw [if_pos az] at H
 have a2 := decide_eq_true az
 have a3 : decide (1 < (rd_L3 l c).length) = true := decide_eq_true (by omega)
 clear az
 obtain ⟨aB, aW, H⟩ := bs_ H
 (try dsimp only at H)
 have HS_ := Q_ H
 clear H
 have af : 0 ≤ (c : Int) := dt_
 have ag : c < (l.length : Int) := dt_
 obtain ⟨aX, aR, aS, aM, an, Y, X⟩ := at_L3 (Kd.N_reads' v.1).2.2 c af ag
 cases aM
 obtain ⟨ce315, hce315, hMe315, ae⟩ := Kd.N_get v.1 [] c af (by first | exact ag | exact dt_ | (have e_ := (Kd.N_reads' v.1).1; omega))
 obtain ⟨ua315_0, uc315_0, rfl, ul315_0, ge315_0⟩ := Kd.FK_slice_open hMe315
 have hv315_0 := ae 0 _ rfl
 rw [Nat.add_zero, show ((Kd.slice 3 (Kd.int .i64))).sz = 1 from rfl, Nat.mul_one] at hv315_0
 replace hv315_0 := Option.some.inj (hv315_0.symm.trans an)
 injection hv315_0 with hva_ hvn_ hvc_
 rw [hva_] at ge315_0
 rw [hvc_] at ul315_0
 have HL315_0 := Q_ (show Kd.V (Kd.int .i64) 3 _ w.heap.size _ _ (rd_L3 l c) from Kd.V_mk ul315_0 ge315_0)
 clear hva_ hvn_ hvc_ ge315_0 ul315_0
 clear ae hce315
 have d := Q_ X
 have aI := Q_ Y
 clear X Y
 replace af := eq_true af
 replace ag := eq_true ag
 try go_wp2
 have _ := Q_ (Kd.N_drew v.1)
 have _ := Q_ (Kd.V_drew HL315_0.1)
 have _ := Q_ (blk_drew a.1)
 have _ := Q_ (blk_drew b.1)
 have _ := Q_ (Kd.C_drew d.1)
 have _ := Q_ (below_drew1 HB.1)
 clear v HL315_0 a b d HB
 rename_i v HL315_0 a b d HB
 have ao : 0 ≤ (0 : Int) := (by omega)
 have aq : 0 < ((rd_L3 l c).length : Int) := dt_
 obtain ⟨U, aN, M⟩ := Kd.at_int (by repeat (first | (with_reducible exact d.1) | (with_reducible refine Kd.C_alloc ?_ _) | (with_reducible refine Kd.C_drewN ?_ _) | (with_reducible refine Kd.C_drew ?_) | exact d.1)) 0 ao aq
 cases aN
 have qi316 : (0 < (rd_L3 l c).length) = True := eq_true (by omega)
 (try rw [show ((0 : Int)).toNat = 0 from rfl] at M)
 (try rw [Addr.add_zero'] at M)
 replace ao := eq_true ao
 replace aq := eq_true aq
 have ap : 0 ≤ (1 : Int) := (by omega)
 have ar : 1 < ((rd_L3 l c).length : Int) := dt_
 obtain ⟨aF, aO, O⟩ := Kd.at_int (by repeat (first | (with_reducible exact d.1) | (with_reducible refine Kd.C_alloc ?_ _) | (with_reducible refine Kd.C_drewN ?_ _) | (with_reducible refine Kd.C_drew ?_) | exact d.1)) 1 ap ar
 obtain rfl : U = aF := (by injection aO)
 (try simp only [show (1 : Int).toNat = 1 from rfl, Nat.reduceMul, Nat.reduceEqDiff, Go.Addr.add, ↓reduceIte] at O)
 have qi317 : (1 < (rd_L3 l c).length) = True := eq_true (by omega)
 (try rw [show ((1 : Int)).toNat = 1 from rfl] at O)
 replace ap := eq_true ap
 replace ar := eq_true ar
 refine start_ (n := 10) (S := fun w' => w'.cell? ⟨D, 0, none⟩ = some (.int .i64 m) ∧ w'.cell? ⟨D, 1, none⟩ = some (.slice y i.length A) ∧ w'.cell? ⟨D, 2, none⟩ = some (.slice z j.length B) ∧ w'.cell? ⟨E, 0, none⟩ = some (.int .i64 t) ∧ w'.cell? ⟨E, 1, none⟩ = some (.slice G p.length J) ∧ w'.cell? ⟨E, 2, none⟩ = some (.slice I q.length L) ∧ w'.cell? U = some (.int .i64 (rd (rd_L3 l c) 0)) ∧ w'.cell? ⟨U.block, U.off + 1, none⟩ = some (.int .i64 (rd (rd_L3 l c) 1))) (ds := []) (tf_ 0 10) (by kernel_rfl) rfl rfl ⟨(blk_cell a.1 0).trans rfl, (blk_cell a.1 1).trans rfl, (blk_cell a.1 2).trans rfl, (blk_cell b.1 0).trans rfl, (blk_cell b.1 1).trans rfl, (blk_cell b.1 2).trans rfl, M, O⟩ (fun hHeld => ?_); refine with_tabW impl_Follows.tab6 impl_Follows.bits6 (fun HT_ HW_ => ?_)
 generalize wr.drew = bn at v HL315_0 a b d HB M O hHeld ⊢
 refine pu1_ 2 25 10 4 ?_
 refine pu1_ 3 26 10 12 ?_
 refine pu1_ 5 28 10 44 ?_
 refine pu1_ 6 29 10 108 ?_
 refine ta1_ 0 23 10 109 hHeld ?_
 refine ta1_ 1 24 10 111 hHeld ?_
 refine ta1_ 4 27 10 127 hHeld ?_
 refine ta1_ 7 30 10 255 hHeld ?_
 refine on_ 8 (some 31) (tf_ 9 10) HT_ (fun K hK => ?_)
 refine goes_ Try.func65 (by kernel_rfl) rfl #[.agg #[.int .i64 m, .slice y i.length A, .slice z j.length B], .agg #[.int .i64 t, .slice G p.length J, .slice I q.length L], .int .i64 (rd (rd_L3 l c) 0), .int .i64 (rd (rd_L3 l c) 1)] (by rfl) rfl rfl mp_ ?_
 with_reducible refine (impl_FollowsAt.calls k2 m _ _ i _ _ j t _ _ p _ _ q (rd (rd_L3 l c) 0) (rd (rd_L3 l c) 1) aB _ (cb_ R HB) P.1 (cb_ T HB) Q.1 (cb_ ac HB) aa.1 (cb_ ad HB) ab.1 aW.1).mono ?_
 rintro e bo ⟨rfl, hb⟩
 have HS6_ := (hb.cell (World.block_lt_of_cell? _ _ (hHeld.2.2.2.2.2.2.1))).trans (hHeld.2.2.2.2.2.2.1)
 have HS7_ := (hb.cell (World.block_lt_of_cell? _ _ (hHeld.2.2.2.2.2.2.2))).trans (hHeld.2.2.2.2.2.2.2)
 refine ⟨_, rfl, ?_⟩
 have _ := Q_ (Kd.N_below (by (with_reducible repeat (first | apply Kd.N_alloc | apply Kd.N_drewN | apply Kd.N_drew)); exact v.1) hb)
 have _ := Q_ (Kd.V_below (by (with_reducible repeat (first | apply Kd.V_alloc | apply Kd.V_drewN | apply Kd.V_drew)); exact HL315_0.1) hb)
 have _ := Q_ (bb_ a.1 hb)
 have _ := Q_ (bb_ b.1 hb)
 have _ := Q_ (Kd.C_below (by repeat (first | (with_reducible exact d.1) | (with_reducible refine Kd.C_alloc ?_ _) | (with_reducible refine Kd.C_drewN ?_ _) | (with_reducible refine Kd.C_drew ?_) | exact d.1)) hb)
 have _ := Q_ (below_step (pb2_ HB.1 s.1 u.1) hb)
 clear v HL315_0 a b d HB
 rename_i v HL315_0 a b d HB
 (try clear hb)
 refine hK.out _ _ ⟨(blk_cell a.1 0).trans rfl, (blk_cell a.1 1).trans rfl, (blk_cell a.1 2).trans rfl, (blk_cell b.1 0).trans rfl, (blk_cell b.1 1).trans rfl, (blk_cell b.1 2).trans rfl, HS6_, HS7_⟩ (fun hHeld => ?_)
 clear hK K
 refine no_ (some 31) ?_
 refine pu1_ 9 32 10 1023 ?_
 refine done_ (done_of HT_.1 (by kernel_rfl)) ?_
 go_upto_if 32 with (fail)
 have H := HS_.1
 clear HS_
 by_cases aA : aB = true
 rotate_left
 ·replace aA := bf_ aA
  subst aA
  rw [if_neg ff_] at H
  obtain rfl := Option.some.inj H
  go_wp2
  go_ret
  exact ⟨er_, pb2_ HB.1 s.1 u.1⟩
 subst aA
 rw [if_pos rfl] at H
 have H' := Q_ H
 clear H
 go_wp2
 go_roundg k2
 case measure => have := aJ.1; have := aK.1; omega
 case rel => exact ⟨(wrap64 (c + 1)), el_, H', ⟨by have := aJ.1; have := aK.1; omega⟩, ⟨by (with_reducible repeat (first | apply Kd.N_alloc | apply Kd.N_drewN | apply Kd.N_drew)); exact v.1⟩, ⟨pk_ a.1⟩, ⟨pk_ b.1⟩, ⟨pb2_ HB.1 s.1 u.1⟩⟩

end Go.Proofs.Ytldcchjbaglppaa.Print
