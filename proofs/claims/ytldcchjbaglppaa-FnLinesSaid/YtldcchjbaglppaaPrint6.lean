-- Written by a program of this session (printx.py) out of the translation; Lean checks it.
import Derived.Test.YtldcchjbaglppaaPrint0
import Derived.Test.YtldcchjbaglppaaPrint1
import Derived.Test.YtldcchjbaglppaaPrint2
import Derived.Test.YtldcchjbaglppaaPrint4
import Derived.Test.YtldcchjbaglppaaPrint5
namespace Go.Proofs.Ytldcchjbaglppaa.Print
open Go.RowKit Go.Proofs.YtldcchjbaglppaaW.PrintWords Go.Proofs.YtldcchjbaglppaaW.PrintLast Go.Proofs.YtldcchjbaglppaaW.PrintMore Go.Proofs.Ytldcchjbaglppaa.Short
attribute [local go_sem] max2_int min2_int max_two min_two max_three min_three max_four min_four   -- for this text's walks alone
set_option linter.unusedVariables false
set_option maxHeartbeats 8000000
set_option maxRecDepth 100000
set_option linter.unusedSimpArgs false

/-! ### impl_TroubleAt: function 74 -/
def impl_TroubleAt.j0 : Nat → Int → Int → Bool → Int → List Bool → List (S78) → Int → List Bool → List (S78) → Option (Int)
 | 0, _, _, _, _, _, _, _, _, _ => none
 | k + 1, l, m, n, a, b, c, d, e, g => if n = true then (some 1) else ((impl_NextPairs.f k a b c d e g l m).bind fun h => (if (h.length : Int) = 0 then ((impl_isEnd.f a b c l).bind fun i => (if i = true then ((impl_isEnd.f d e g m).bind fun j => (if j = true then (some 0) else (some 2))) else (some 2))) else (some 0)))
def impl_TroubleAt.f (k : Nat) (a : Int) (c : List Bool) (d : List (S78)) (b : Int) (e : List Bool) (g : List (S78)) (o : Int) (p : Int) : Option (Int) := (impl_MovesFrom.f k a c d o true).bind fun h => ((impl_MovesFrom.f k b e g p false).bind fun i => ((impl_without.f k h i).bind fun j => (if (j.length : Int) > 0 then (impl_TroubleAt.j0 k o p true a c d b e g) else ((impl_MovesFrom.f k b e g p true).bind fun l => ((impl_MovesFrom.f k a c d o false).bind fun m => ((impl_without.f k l m).bind fun n => (impl_TroubleAt.j0 k o p (decide ((n.length : Int) > 0)) a c d b e g)))))))
theorem impl_TroubleAt.mono_l : ∀ k, (∀ a b c d e f g i j, LeO (impl_TroubleAt.j0 k a b c d e f g i j) (impl_TroubleAt.j0 (k + 1) a b c d e f g i j))
 | 0 => fun _ _ _ _ _ _ _ _ _ r h => by simp [impl_TroubleAt.j0] at h
 | k + 1 => by
  have ih0 := impl_TroubleAt.mono_l k
  ·intro a b c d e f g i j
   unfold impl_TroubleAt.j0
   exact mo4_ ih0 impl_MovesFrom.mono impl_NextPairs.mono impl_without.mono
theorem impl_TroubleAt.mono : ∀ a b c d e g h i k, LeO (impl_TroubleAt.f k a b c d e g h i) (impl_TroubleAt.f (k + 1) a b c d e g h i) := by
 intro a b c d e g h i k
 have ih0 := impl_TroubleAt.mono_l k
 unfold impl_TroubleAt.f
 exact mo4_ ih0 impl_MovesFrom.mono impl_NextPairs.mono impl_without.mono
def impl_TroubleAt.T1 : Bool × List (List Nat × List Nat) := (true, [([], []), ([], []), ([0, 1], [0, 1]), ([], []), ([], []), ([3, 4, 2], [3, 4]), ([2, 5, 5], [2, 5]), ([6], [6]), ([7], [7]), ([8, 6], [8]), ([9], [9]), ([9], [9]), ([10, 11, 9, 9], [9, 10, 11]), ([9], [9]), ([9], [9]), ([13, 14, 12, 9], [9, 13, 14]), ([12, 15, 15, 9], [9, 12, 15]), ([16, 9], [9, 16]), ([17, 9], [9, 17]), ([9, 18], [9, 18]), ([19, 16], [19])])
def impl_TroubleAt.B1 : List Nat := [0, 0, 3, 0, 0, 31, 63, 127, 255, 511, 1023, 1023, 4095, 1023, 1023, 32767, 65535, 131071, 262143, 524287, 1048575]
theorem impl_TroubleAt.tab1 : rtab .any (opsOf Try.f74 1) = impl_TroubleAt.T1 := by kernel_rfl
theorem impl_TroubleAt.bits1 : waitsOk impl_TroubleAt.T1.2 impl_TroubleAt.B1 = true := by kernel_rfl
theorem impl_TroubleAt.calls (k : Nat) (q : Int) (y : Option Addr) (D : Nat) (l : List Bool) (z : Option Addr) (E : Nat) (m : List (S78)) (s : Int) (A : Option Addr) (F : Nat) (o : List Bool) (B : Option Addr) (G : Nat) (p : List (S78)) (a2 : Int) (a3 : Int) (r : Int) (w : World) (hr0_1 : Kd.C Kd.bool w y l.length l) (al : l.length ≤ D) (hr0_2 : Kd.C k78 w z m.length m) (am : m.length ≤ E) (hr1_1 : Kd.C Kd.bool w A o.length o) (an : o.length ≤ F) (hr1_2 : Kd.C k78 w B p.length p) (ao : p.length ≤ G) (h : impl_TroubleAt.f k q l m s o p a2 a3 = some r) :
  Calls Try.prog 74 #[.agg #[.int .i64 q, .slice y l.length D, .slice z m.length E], .agg #[.int .i64 s, .slice A o.length F, .slice B p.length G], .int .i64 a2, .int .i64 a3] w fun e w' => e = .returned (.int .i64 r) ∧ Below w.heap.size w w' := by
 have hu34 := Try.underlying34
 have L := Q_ hr0_1
 have I := Q_ al
 clear hr0_1 al
 have M := Q_ hr0_2
 have J := Q_ am
 clear hr0_2 am
 have R := Q_ hr1_1
 have O := Q_ an
 clear hr1_1 an
 have T := Q_ hr1_2
 have P := Q_ ao
 clear hr1_2 ao
 have HB := Q_ (Below.refl w.heap.size w)
 have H : ((impl_MovesFrom.f k q l m a2 true).bind fun Y => ((impl_MovesFrom.f k s o p a3 false).bind fun Z => ((impl_without.f k Y Z).bind fun ab => (if (ab.length : Int) > 0 then (impl_TroubleAt.j0 k a2 a3 true q l m s o p) else ((impl_MovesFrom.f k s o p a3 true).bind fun af => ((impl_MovesFrom.f k q l m a2 false).bind fun ag => ((impl_without.f k af ag).bind fun ai => (impl_TroubleAt.j0 k a2 a3 (decide ((ai.length : Int) > 0)) q l m s o p)))))))) = some r := h
 clear h
 have aI := Q_ H
 clear H
 go_enter Try.func74, Try.ntmps74
 go_upto_region 1 with (first | ((with_reducible refine gate_dst (N := 4) rfl ?_); (try (refine gate_guard (by rfl) ?_; dsimp only)); refine bx_ 4 #[.int .i64 q, .slice y l.length D, .slice z m.length E] 34 ?_; intro V hg w6 hbox hb; have _ := Q_ (below_step (pb_ HB.1) hb); have a := Q_ (hbox); have aG := Q_ (gw_ (w := w) hg (pb_ HB.1)); have c := aG; clear HB; rename_i HB; clear hb hbox hg) | ((with_reducible refine gate_dst (N := 5) rfl ?_); (try (refine gate_guard (by rfl) ?_; dsimp only)); refine bx_ 5 #[.int .i64 s, .slice A o.length F, .slice B p.length G] 34 ?_; intro W hg w7 hbox hb; have _ := Q_ (bb_ a.1 hb); have _ := Q_ (below_step (pb1_ HB.1 c.1) hb); have b := Q_ (hbox); have aH := Q_ (gw_ (w := w) hg (pb1_ HB.1 c.1)); have g := aH; have x := Q_ (nb_ hg a); have U := Q_ x.1.symm; clear a HB; rename_i a HB; clear hb hbox hg))
 (try simp only [Act.put, s1_, s2_, s3_])
 go_cut [9] (fun v9 wc => ∃ (kq : Nat) (aj : Bool), v9 = .bool aj ∧ Aside0 (impl_TroubleAt.j0 kq a2 a3 aj q l m s o p = some r) ∧ Aside0 (kq ≤ k) ∧ Aside0 (wc.heap[V]? = some (.cells #[.int .i64 q, (.slice y l.length D), (.slice z m.length E)] 34 (0, 0))) ∧ Aside0 (wc.heap[W]? = some (.cells #[.int .i64 s, (.slice A o.length F), (.slice B p.length G)] 34 (0, 0))) ∧ Aside0 (Below w.heap.size w wc))
 case first =>
  have H := aI.1
  clear aI
  obtain ⟨Y, A8, H⟩ := bs_ H
  (try dsimp only at H)
  obtain ⟨Z, A9, H⟩ := bs_ H
  (try dsimp only at H)
  obtain ⟨ab, aM, H⟩ := bs_ H
  (try dsimp only at H)
  by_cases ak : (ab.length : Int) > 0
  ·rw [if_pos ak] at H
   have aa := decide_eq_true ak
   have ah : decide (0 < ab.length) = true := decide_eq_true (by omega)
   clear ak
   (first | rw [aa] | (simp only [i64_w, i32_w]; rw [aa]) | rw [ah] | skip)
   have H' := Q_ H
   clear H
   try go_wp2
   have _ := Q_ (blk_drew a.1)
   have _ := Q_ (blk_drew b.1)
   have _ := Q_ (below_drew1 HB.1)
   clear a b HB
   rename_i a b HB
   refine start_ (n := 21) (S := fun w' => w'.cell? ⟨V, 0, none⟩ = some (.int .i64 q) ∧ w'.cell? ⟨V, 1, none⟩ = some (.slice y l.length D) ∧ w'.cell? ⟨V, 2, none⟩ = some (.slice z m.length E) ∧ w'.cell? ⟨W, 0, none⟩ = some (.int .i64 s) ∧ w'.cell? ⟨W, 1, none⟩ = some (.slice A o.length F) ∧ w'.cell? ⟨W, 2, none⟩ = some (.slice B p.length G)) (ds := []) (tf_ 0 21) (by kernel_rfl) rfl rfl ⟨(blk_cell a.1 0).trans rfl, (blk_cell a.1 1).trans rfl, (blk_cell a.1 2).trans rfl, (blk_cell b.1 0).trans rfl, (blk_cell b.1 1).trans rfl, (blk_cell b.1 2).trans rfl⟩ (fun hHeld => ?_); refine with_tabW impl_TroubleAt.tab1 impl_TroubleAt.bits1 (fun HT_ HW_ => ?_)
   generalize w7.drew = bO at a b HB hHeld ⊢
   refine pu1_ 1 11 21 2 ?_
   refine pu1_ 4 14 21 18 ?_
   refine ta1_ 0 10 21 19 hHeld ?_
   refine ta1_ 3 13 21 27 hHeld ?_
   refine on_ 2 (some 12) (tf_ 5 21) HT_ (fun K hK => ?_)
   refine goes_ Try.func81 (by kernel_rfl) rfl #[.agg #[.int .i64 q, .slice y l.length D, .slice z m.length E], .int .i64 a2, .bool true] (by rfl) rfl rfl mp_ ?_
   with_reducible refine (impl_MovesFrom.calls k q _ _ l _ _ m a2 true Y _ (cb_ L HB) I.1 (cb_ M HB) J.1 A8.1).mono ?_
   rintro e bP ⟨a6, rfl, j, hb⟩
   refine ⟨_, rfl, ?_⟩
   have _ := Q_ (Kd.R_lower j (below_size (pb2_ HB.1 c.1 g.1)))
   have _ := Q_ (bb_ a.1 hb)
   have _ := Q_ (bb_ b.1 hb)
   have _ := Q_ (below_step (pb2_ HB.1 c.1 g.1) hb)
   clear a b HB
   rename_i d a b HB
   (try clear hb j)
   refine hK.out _ _ ⟨(blk_cell a.1 0).trans rfl, (blk_cell a.1 1).trans rfl, (blk_cell a.1 2).trans rfl, (blk_cell b.1 0).trans rfl, (blk_cell b.1 1).trans rfl, (blk_cell b.1 2).trans rfl⟩ (fun hHeld => ?_)
   clear hK K
   refine no_ (some 12) ?_
   refine on_ 5 (some 15) (tf_ 6 21) HT_ (fun K hK => ?_)
   refine goes_ Try.func81 (by kernel_rfl) rfl #[.agg #[.int .i64 s, .slice A o.length F, .slice B p.length G], .int .i64 a3, .bool false] (by rfl) rfl rfl mp_ ?_
   with_reducible refine (impl_MovesFrom.calls k s _ _ o _ _ p a3 false Z _ (cb_ R HB) O.1 (cb_ T HB) P.1 A9.1).mono ?_
   rintro e bQ ⟨a7, rfl, j, hb⟩
   refine ⟨_, rfl, ?_⟩
   have _ := Q_ (Kd.R_elder' (pr_ d.1) (Kd.R_base j) hb)
   have _ := Q_ (Kd.R_lower (Kd.R_new' j (Kd.R_lt (pr_ d.1))) (below_size (pb2_ HB.1 c.1 g.1)))
   have _ := Q_ (bb_ a.1 hb)
   have _ := Q_ (bb_ b.1 hb)
   have _ := Q_ (below_step (pb2_ HB.1 c.1 g.1) hb)
   clear d a b HB
   rename_i d i a b HB
   (try clear hb j)
   obtain ⟨aO, aU, av⟩ := Kd.R_slice d.1
   (first | subst av | (injection av with f1_ f2_ f3_; have f4_ := f1_.symm; have f5_ := f3_.symm; clear f1_ f2_ f3_; subst f4_; subst f5_))
   obtain ⟨aP, aV, aw⟩ := Kd.R_slice i.1
   (first | subst aw | (injection aw with f1_ f2_ f3_; have f4_ := f1_.symm; have f5_ := f3_.symm; clear f1_ f2_ f3_; subst f4_; subst f5_))
   refine hK.out _ _ ⟨(blk_cell a.1 0).trans rfl, (blk_cell a.1 1).trans rfl, (blk_cell a.1 2).trans rfl, (blk_cell b.1 0).trans rfl, (blk_cell b.1 1).trans rfl, (blk_cell b.1 2).trans rfl⟩ (fun hHeld => ?_)
   clear hK K
   refine no_ (some 15) ?_
   refine on_ 6 (some 16) (tf_ 7 21) HT_ (fun K hK => ?_)
   refine goes_ Try.func82 (by kernel_rfl) rfl #[.slice aO Y.length aU, .slice aP Z.length aV] (by rfl) rfl rfl mp_ ?_
   with_reducible refine (impl_without.calls k _ _ Y _ _ Z ab _ ?side1 ?side2 ?side3 ?side4 aM.1).mono ?_
   (case side1 => exact pc_ ((Kd.R_reads' d.1).2.2))
   (case side2 => exact (Kd.R_reads' d.1).2.1)
   (case side3 => exact pc_ ((Kd.R_reads' i.1).2.2))
   (case side4 => exact (Kd.R_reads' i.1).2.1)
   rintro e bR ⟨a8, rfl, j, hb⟩
   refine ⟨_, rfl, ?_⟩
   have _ := Q_ (Kd.R_elder' (pr_ d.1) (Kd.R_base j) hb)
   have _ := Q_ (Kd.R_elder' (pr_ i.1) (Kd.R_base j) hb)
   have _ := Q_ (Kd.R_lower (Kd.R_new' (Kd.R_new' j (Kd.R_lt (pr_ d.1))) (Kd.R_lt (pr_ i.1))) (below_size (pb2_ HB.1 c.1 g.1)))
   have _ := Q_ (bb_ a.1 hb)
   have _ := Q_ (bb_ b.1 hb)
   have _ := Q_ (below_step (pb2_ HB.1 c.1 g.1) hb)
   clear d i a b HB
   rename_i d i t a b HB
   (try clear hb j)
   obtain ⟨bv, bC, ax⟩ := Kd.R_slice t.1
   (first | subst ax | (injection ax with f1_ f2_ f3_; have f4_ := f1_.symm; have f5_ := f3_.symm; clear f1_ f2_ f3_; subst f4_; subst f5_))
   refine hK.out _ _ ⟨(blk_cell a.1 0).trans rfl, (blk_cell a.1 1).trans rfl, (blk_cell a.1 2).trans rfl, (blk_cell b.1 0).trans rfl, (blk_cell b.1 1).trans rfl, (blk_cell b.1 2).trans rfl⟩ (fun hHeld => ?_)
   clear hK K
   refine no_ (some 16) ?_
   refine pu1_ 7 17 21 255 ?_
   refine pu1_ 8 18 21 511 ?_
   refine pu1_ 9 19 21 1023 ?_
   refine pn1_ 10 20 21 2047 ?_
   refine pn1_ 11 21 21 4095 ?_
   refine pn1_ 12 22 21 8191 ?_
   refine pn1_ 13 23 21 16383 ?_
   refine pn1_ 14 24 21 32767 ?_
   refine pn1_ 15 25 21 65535 ?_
   refine pn1_ 16 26 21 131071 ?_
   refine pn1_ 17 27 21 262143 ?_
   refine pn1_ 18 28 21 524287 ?_
   refine pu1_ 19 29 21 1048575 ?_
   refine pu1_ 20 9 21 2097151 ?_
   refine done_ (done_of HT_.1 (by kernel_rfl)) ?_
   try go_wp2
   go_meet
   case rel => exact ⟨_, (true), el_, H', ⟨by first | omega | exact Nat.le_refl _⟩, ⟨pk_ a.1⟩, ⟨pk_ b.1⟩, ⟨pb2_ HB.1 c.1 g.1⟩⟩
  rw [if_neg ak] at H
  have aa := decide_eq_false ak
  have ah : decide (0 < ab.length) = false := decide_eq_false (by omega)
  clear ak
  (first | rw [aa] | (simp only [i64_w, i32_w]; rw [aa]) | rw [ah] | skip)
  obtain ⟨af, a9, H⟩ := bs_ H
  (try dsimp only at H)
  obtain ⟨ag, ba, H⟩ := bs_ H
  (try dsimp only at H)
  obtain ⟨ai, bb, H⟩ := bs_ H
  (try dsimp only at H)
  have H' := Q_ H
  clear H
  try go_wp2
  have _ := Q_ (blk_drew a.1)
  have _ := Q_ (blk_drew b.1)
  have _ := Q_ (below_drew1 HB.1)
  clear a b HB
  rename_i a b HB
  refine start_ (n := 21) (S := fun w' => w'.cell? ⟨V, 0, none⟩ = some (.int .i64 q) ∧ w'.cell? ⟨V, 1, none⟩ = some (.slice y l.length D) ∧ w'.cell? ⟨V, 2, none⟩ = some (.slice z m.length E) ∧ w'.cell? ⟨W, 0, none⟩ = some (.int .i64 s) ∧ w'.cell? ⟨W, 1, none⟩ = some (.slice A o.length F) ∧ w'.cell? ⟨W, 2, none⟩ = some (.slice B p.length G)) (ds := []) (tf_ 0 21) (by kernel_rfl) rfl rfl ⟨(blk_cell a.1 0).trans rfl, (blk_cell a.1 1).trans rfl, (blk_cell a.1 2).trans rfl, (blk_cell b.1 0).trans rfl, (blk_cell b.1 1).trans rfl, (blk_cell b.1 2).trans rfl⟩ (fun hHeld => ?_); refine with_tabW impl_TroubleAt.tab1 impl_TroubleAt.bits1 (fun HT_ HW_ => ?_)
  generalize w7.drew = bS at a b HB hHeld ⊢
  refine pu1_ 1 11 21 2 ?_
  refine pu1_ 4 14 21 18 ?_
  refine ta1_ 0 10 21 19 hHeld ?_
  refine ta1_ 3 13 21 27 hHeld ?_
  refine on_ 2 (some 12) (tf_ 5 21) HT_ (fun K hK => ?_)
  refine goes_ Try.func81 (by kernel_rfl) rfl #[.agg #[.int .i64 q, .slice y l.length D, .slice z m.length E], .int .i64 a2, .bool true] (by rfl) rfl rfl mp_ ?_
  with_reducible refine (impl_MovesFrom.calls k q _ _ l _ _ m a2 true Y _ (cb_ L HB) I.1 (cb_ M HB) J.1 A8.1).mono ?_
  rintro e bT ⟨a6, rfl, j, hb⟩
  refine ⟨_, rfl, ?_⟩
  have _ := Q_ (Kd.R_lower j (below_size (pb2_ HB.1 c.1 g.1)))
  have _ := Q_ (bb_ a.1 hb)
  have _ := Q_ (bb_ b.1 hb)
  have _ := Q_ (below_step (pb2_ HB.1 c.1 g.1) hb)
  clear a b HB
  rename_i d a b HB
  (try clear hb j)
  (try (obtain ⟨Ao_, co_, eo_⟩ := Kd.R_slice d.1; subst eo_))
  refine hK.out _ _ ⟨(blk_cell a.1 0).trans rfl, (blk_cell a.1 1).trans rfl, (blk_cell a.1 2).trans rfl, (blk_cell b.1 0).trans rfl, (blk_cell b.1 1).trans rfl, (blk_cell b.1 2).trans rfl⟩ (fun hHeld => ?_)
  clear hK K
  refine no_ (some 12) ?_
  refine on_ 5 (some 15) (tf_ 6 21) HT_ (fun K hK => ?_)
  refine goes_ Try.func81 (by kernel_rfl) rfl #[.agg #[.int .i64 s, .slice A o.length F, .slice B p.length G], .int .i64 a3, .bool false] (by rfl) rfl rfl mp_ ?_
  with_reducible refine (impl_MovesFrom.calls k s _ _ o _ _ p a3 false Z _ (cb_ R HB) O.1 (cb_ T HB) P.1 A9.1).mono ?_
  rintro e bU ⟨a7, rfl, j, hb⟩
  refine ⟨_, rfl, ?_⟩
  have _ := Q_ (Kd.R_elder' (pr_ d.1) (Kd.R_base j) hb)
  have _ := Q_ (Kd.R_lower (Kd.R_new' j (Kd.R_lt (pr_ d.1))) (below_size (pb2_ HB.1 c.1 g.1)))
  have _ := Q_ (bb_ a.1 hb)
  have _ := Q_ (bb_ b.1 hb)
  have _ := Q_ (below_step (pb2_ HB.1 c.1 g.1) hb)
  clear d a b HB
  rename_i d i a b HB
  (try clear hb j)
  obtain ⟨aQ, aW, ay⟩ := Kd.R_slice d.1
  (first | subst ay | (injection ay with f1_ f2_ f3_; have f4_ := f1_.symm; have f5_ := f3_.symm; clear f1_ f2_ f3_; subst f4_; subst f5_))
  obtain ⟨aR, aX, az⟩ := Kd.R_slice i.1
  (first | subst az | (injection az with f1_ f2_ f3_; have f4_ := f1_.symm; have f5_ := f3_.symm; clear f1_ f2_ f3_; subst f4_; subst f5_))
  refine hK.out _ _ ⟨(blk_cell a.1 0).trans rfl, (blk_cell a.1 1).trans rfl, (blk_cell a.1 2).trans rfl, (blk_cell b.1 0).trans rfl, (blk_cell b.1 1).trans rfl, (blk_cell b.1 2).trans rfl⟩ (fun hHeld => ?_)
  clear hK K
  refine no_ (some 15) ?_
  refine on_ 6 (some 16) (tf_ 7 21) HT_ (fun K hK => ?_)
  refine goes_ Try.func82 (by kernel_rfl) rfl #[.slice aQ Y.length aW, .slice aR Z.length aX] (by rfl) rfl rfl mp_ ?_
  with_reducible refine (impl_without.calls k _ _ Y _ _ Z ab _ ?side1 ?side2 ?side3 ?side4 aM.1).mono ?_
  (case side1 => exact pc_ ((Kd.R_reads' d.1).2.2))
  (case side2 => exact (Kd.R_reads' d.1).2.1)
  (case side3 => exact pc_ ((Kd.R_reads' i.1).2.2))
  (case side4 => exact (Kd.R_reads' i.1).2.1)
  rintro e bV ⟨a8, rfl, j, hb⟩
  refine ⟨_, rfl, ?_⟩
  have _ := Q_ (Kd.R_elder' (pr_ d.1) (Kd.R_base j) hb)
  have _ := Q_ (Kd.R_elder' (pr_ i.1) (Kd.R_base j) hb)
  have _ := Q_ (Kd.R_lower (Kd.R_new' (Kd.R_new' j (Kd.R_lt (pr_ d.1))) (Kd.R_lt (pr_ i.1))) (below_size (pb2_ HB.1 c.1 g.1)))
  have _ := Q_ (bb_ a.1 hb)
  have _ := Q_ (bb_ b.1 hb)
  have _ := Q_ (below_step (pb2_ HB.1 c.1 g.1) hb)
  clear d i a b HB
  rename_i d i t a b HB
  (try clear hb j)
  obtain ⟨bw, bD, aA⟩ := Kd.R_slice t.1
  (first | subst aA | (injection aA with f1_ f2_ f3_; have f4_ := f1_.symm; have f5_ := f3_.symm; clear f1_ f2_ f3_; subst f4_; subst f5_))
  refine hK.out _ _ ⟨(blk_cell a.1 0).trans rfl, (blk_cell a.1 1).trans rfl, (blk_cell a.1 2).trans rfl, (blk_cell b.1 0).trans rfl, (blk_cell b.1 1).trans rfl, (blk_cell b.1 2).trans rfl⟩ (fun hHeld => ?_)
  clear hK K
  refine no_ (some 16) ?_
  refine pu1_ 7 17 21 255 ?_
  refine pu1_ 8 18 21 511 ?_
  refine pu1_ 9 19 21 1023 ?_
  refine pu1_ 11 21 21 3071 ?_
  refine pu1_ 14 24 21 19455 ?_
  refine ta1_ 10 20 21 20479 hHeld ?_
  refine ta1_ 13 23 21 28671 hHeld ?_
  refine on_ 12 (some 22) (tf_ 15 21) HT_ (fun K hK => ?_)
  refine goes_ Try.func81 (by kernel_rfl) rfl #[.agg #[.int .i64 s, .slice A o.length F, .slice B p.length G], .int .i64 a3, .bool true] (by rfl) rfl rfl mp_ ?_
  with_reducible refine (impl_MovesFrom.calls k s _ _ o _ _ p a3 true af _ (cb_ R HB) O.1 (cb_ T HB) P.1 a9.1).mono ?_
  rintro e bW ⟨bI, rfl, j, hb⟩
  refine ⟨_, rfl, ?_⟩
  have _ := Q_ (Kd.R_elder' (pr_ d.1) (Kd.R_base j) hb)
  have _ := Q_ (Kd.R_elder' (pr_ i.1) (Kd.R_base j) hb)
  have _ := Q_ (Kd.R_elder' (pr_ t.1) (Kd.R_base j) hb)
  have _ := Q_ (Kd.R_lower (Kd.R_new' (Kd.R_new' (Kd.R_new' j (Kd.R_lt (pr_ d.1))) (Kd.R_lt (pr_ i.1))) (Kd.R_lt (pr_ t.1))) (below_size (pb2_ HB.1 c.1 g.1)))
  have _ := Q_ (bb_ a.1 hb)
  have _ := Q_ (bb_ b.1 hb)
  have _ := Q_ (below_step (pb2_ HB.1 c.1 g.1) hb)
  clear d i t a b HB
  rename_i d i t v a b HB
  (try clear hb j)
  refine hK.out _ _ ⟨(blk_cell a.1 0).trans rfl, (blk_cell a.1 1).trans rfl, (blk_cell a.1 2).trans rfl, (blk_cell b.1 0).trans rfl, (blk_cell b.1 1).trans rfl, (blk_cell b.1 2).trans rfl⟩ (fun hHeld => ?_)
  clear hK K
  refine no_ (some 22) ?_
  refine on_ 15 (some 25) (tf_ 16 21) HT_ (fun K hK => ?_)
  refine goes_ Try.func81 (by kernel_rfl) rfl #[.agg #[.int .i64 q, .slice y l.length D, .slice z m.length E], .int .i64 a2, .bool false] (by rfl) rfl rfl mp_ ?_
  with_reducible refine (impl_MovesFrom.calls k q _ _ l _ _ m a2 false ag _ (cb_ L HB) I.1 (cb_ M HB) J.1 ba.1).mono ?_
  rintro e bX ⟨bJ, rfl, j, hb⟩
  refine ⟨_, rfl, ?_⟩
  have _ := Q_ (Kd.R_elder' (pr_ d.1) (Kd.R_base j) hb)
  have _ := Q_ (Kd.R_elder' (pr_ i.1) (Kd.R_base j) hb)
  have _ := Q_ (Kd.R_elder' (pr_ t.1) (Kd.R_base j) hb)
  have _ := Q_ (Kd.R_elder' (pr_ v.1) (Kd.R_base j) hb)
  have _ := Q_ (Kd.R_lower (Kd.R_new' (Kd.R_new' (Kd.R_new' (Kd.R_new' j (Kd.R_lt (pr_ d.1))) (Kd.R_lt (pr_ i.1))) (Kd.R_lt (pr_ t.1))) (Kd.R_lt (pr_ v.1))) (below_size (pb2_ HB.1 c.1 g.1)))
  have _ := Q_ (bb_ a.1 hb)
  have _ := Q_ (bb_ b.1 hb)
  have _ := Q_ (below_step (pb2_ HB.1 c.1 g.1) hb)
  clear d i t v a b HB
  rename_i d i t v Q a b HB
  (try clear hb j)
  obtain ⟨aS, aY, aB⟩ := Kd.R_slice v.1
  (first | subst aB | (injection aB with f1_ f2_ f3_; have f4_ := f1_.symm; have f5_ := f3_.symm; clear f1_ f2_ f3_; subst f4_; subst f5_))
  obtain ⟨aT, aZ, aC⟩ := Kd.R_slice Q.1
  (first | subst aC | (injection aC with f1_ f2_ f3_; have f4_ := f1_.symm; have f5_ := f3_.symm; clear f1_ f2_ f3_; subst f4_; subst f5_))
  refine hK.out _ _ ⟨(blk_cell a.1 0).trans rfl, (blk_cell a.1 1).trans rfl, (blk_cell a.1 2).trans rfl, (blk_cell b.1 0).trans rfl, (blk_cell b.1 1).trans rfl, (blk_cell b.1 2).trans rfl⟩ (fun hHeld => ?_)
  clear hK K
  refine no_ (some 25) ?_
  refine on_ 16 (some 26) (tf_ 17 21) HT_ (fun K hK => ?_)
  refine goes_ Try.func82 (by kernel_rfl) rfl #[.slice aS af.length aY, .slice aT ag.length aZ] (by rfl) rfl rfl mp_ ?_
  with_reducible refine (impl_without.calls k _ _ af _ _ ag ai _ ?side1 ?side2 ?side3 ?side4 bb.1).mono ?_
  (case side1 => exact pc_ ((Kd.R_reads' v.1).2.2))
  (case side2 => exact (Kd.R_reads' v.1).2.1)
  (case side3 => exact pc_ ((Kd.R_reads' Q.1).2.2))
  (case side4 => exact (Kd.R_reads' Q.1).2.1)
  rintro e bY ⟨bK, rfl, j, hb⟩
  refine ⟨_, rfl, ?_⟩
  have _ := Q_ (Kd.R_elder' (pr_ d.1) (Kd.R_base j) hb)
  have _ := Q_ (Kd.R_elder' (pr_ i.1) (Kd.R_base j) hb)
  have _ := Q_ (Kd.R_elder' (pr_ t.1) (Kd.R_base j) hb)
  have _ := Q_ (Kd.R_elder' (pr_ v.1) (Kd.R_base j) hb)
  have _ := Q_ (Kd.R_elder' (pr_ Q.1) (Kd.R_base j) hb)
  have _ := Q_ (Kd.R_lower (Kd.R_new' (Kd.R_new' (Kd.R_new' (Kd.R_new' (Kd.R_new' j (Kd.R_lt (pr_ d.1))) (Kd.R_lt (pr_ i.1))) (Kd.R_lt (pr_ t.1))) (Kd.R_lt (pr_ v.1))) (Kd.R_lt (pr_ Q.1))) (below_size (pb2_ HB.1 c.1 g.1)))
  have _ := Q_ (bb_ a.1 hb)
  have _ := Q_ (bb_ b.1 hb)
  have _ := Q_ (below_step (pb2_ HB.1 c.1 g.1) hb)
  clear d i t v Q a b HB
  rename_i d i t v Q aJ a b HB
  (try clear hb j)
  obtain ⟨bx, bE, aD⟩ := Kd.R_slice aJ.1
  (first | subst aD | (injection aD with f1_ f2_ f3_; have f4_ := f1_.symm; have f5_ := f3_.symm; clear f1_ f2_ f3_; subst f4_; subst f5_))
  refine hK.out _ _ ⟨(blk_cell a.1 0).trans rfl, (blk_cell a.1 1).trans rfl, (blk_cell a.1 2).trans rfl, (blk_cell b.1 0).trans rfl, (blk_cell b.1 1).trans rfl, (blk_cell b.1 2).trans rfl⟩ (fun hHeld => ?_)
  clear hK K
  refine no_ (some 26) ?_
  refine pu1_ 17 27 21 262143 ?_
  refine pu1_ 18 28 21 524287 ?_
  refine pu1_ 19 29 21 1048575 ?_
  refine pu1_ 20 9 21 2097151 ?_
  refine done_ (done_of HT_.1 (by kernel_rfl)) ?_
  try go_wp2
  go_meet
  case rel => exact ⟨_, (decide ((ai.length : Int) > 0)), el_, H', ⟨by first | omega | exact Nat.le_refl _⟩, ⟨pk_ a.1⟩, ⟨pk_ b.1⟩, ⟨pb2_ HB.1 c.1 g.1⟩⟩
 clear aI
 obtain ⟨kq, aj, rfl, HA, bM, a, b, HB⟩ := hcut
 rcases kq with _ | kj4
 ·exact absurd HA.1 (by simp [impl_TroubleAt.j0])
 have H := HA.1
 clear HA
 simp only [impl_TroubleAt.j0] at H
 by_cases aq : aj = true
 ·subst aq
  rw [if_pos rfl] at H
  obtain rfl := Option.some.inj H
  go_wp2
  go_ret
  exact ⟨er_, pb2_ HB.1 c.1 g.1⟩
 replace aq := bf_ aq
 subst aq
 rw [if_neg ff_] at H
 obtain ⟨X, aF, H⟩ := bs_ H
 (try dsimp only at H)
 by_cases ae : (X.length : Int) = 0
 rotate_left
 ·rw [if_neg ae] at H
  have aK : ((X.length : Int) == 0) = false := beq_eq_false_iff_ne.mpr ae
  have aL : ((X.length : Int) != 0) = true := bne_iff_ne.mpr ae
  have bd : ¬ (X = []) := fun h_ => ae (by rw [h_]; rfl)
  obtain rfl := Option.some.inj H
  have bn := x.1
  have bq := U.1
  have be := bc3_ a.1
  have bf := bc3_ b.1
  go_wp2_with (first | ((with_reducible refine gate_callee (f := 88) rfl ?_); refine gl_ (some 35) Try.func88 #[.agg #[.int .i64 q, .slice y l.length D, .slice z m.length E], .agg #[.int .i64 s, .slice A o.length F, .slice B p.length G], .int .i64 a2, .int .i64 a3] ?_; (with_reducible refine (impl_NextPairs.calls kj4 q _ _ l _ _ m s _ _ o _ _ p a2 a3 X _ (cb_ L HB) I.1 (cb_ M HB) J.1 (cb_ R HB) O.1 (cb_ T HB) P.1 aF.1).mono ?_); rintro e bZ ⟨aE, rfl, j, hb⟩; refine ⟨_, rfl, ?_⟩; have _ := Q_ (Kd.S_lower j (below_size (pb2_ HB.1 c.1 g.1))); have _ := Q_ (bb_ a.1 hb); have _ := Q_ (bb_ b.1 hb); have _ := Q_ (below_step (pb2_ HB.1 c.1 g.1) hb); clear a b HB; rename_i u a b HB; (try clear hb j); obtain ⟨bz, bF, a0⟩ := Kd.S_slice u.1; subst a0))
  go_ret
  exact ⟨er_, pb2_ HB.1 c.1 g.1⟩
 rw [if_pos ae] at H
 have aK : ((X.length : Int) == 0) = true := beq_iff_eq.mpr ae
 have aL : ((X.length : Int) != 0) = false := bne_eq_false_iff_eq.mpr ae
 clear ae
 obtain ⟨a5, aN, H⟩ := bs_ H
 (try dsimp only at H)
 by_cases ar : a5 = true
 rotate_left
 ·replace ar := bf_ ar
  subst ar
  rw [if_neg ff_] at H
  obtain rfl := Option.some.inj H
  have bo := x.1
  have br := U.1
  have bg := bc3_ a.1
  have bh := bc3_ b.1
  go_wp2_with (first | ((with_reducible refine gate_callee (f := 88) rfl ?_); refine gl_ (some 35) Try.func88 #[.agg #[.int .i64 q, .slice y l.length D, .slice z m.length E], .agg #[.int .i64 s, .slice A o.length F, .slice B p.length G], .int .i64 a2, .int .i64 a3] ?_; (with_reducible refine (impl_NextPairs.calls kj4 q _ _ l _ _ m s _ _ o _ _ p a2 a3 X _ (cb_ L HB) I.1 (cb_ M HB) J.1 (cb_ R HB) O.1 (cb_ T HB) P.1 aF.1).mono ?_); rintro e b0 ⟨aE, rfl, j, hb⟩; refine ⟨_, rfl, ?_⟩; have _ := Q_ (Kd.S_lower j (below_size (pb2_ HB.1 c.1 g.1))); have _ := Q_ (bb_ a.1 hb); have _ := Q_ (bb_ b.1 hb); have _ := Q_ (below_step (pb2_ HB.1 c.1 g.1) hb); clear a b HB; rename_i u a b HB; (try clear hb j); obtain ⟨bA, bG, a1⟩ := Kd.S_slice u.1; subst a1; have bi := bc3_ a.1) | (go_at_call 83; (with_reducible refine (impl_isEnd.calls q _ _ l _ _ m a2 false _ (cb_ L HB) I.1 (cb_ M HB) J.1 aN.1).mono ?_); rintro e b1 ⟨rfl, hb⟩; have _ := Q_ (Kd.S_below (ps_ u.1) hb); have _ := Q_ (bb_ a.1 hb); have _ := Q_ (bb_ b.1 hb); have _ := Q_ (below_step (pb2_ HB.1 c.1 g.1) hb); clear u a b HB; rename_i u a b HB; (try clear hb)))
  go_ret
  exact ⟨er_, pb2_ HB.1 c.1 g.1⟩
 subst ar
 rw [if_pos rfl] at H
 obtain ⟨ap, bc, H⟩ := bs_ H
 replace H : (if ap = true then (some 0) else (some 2)) = some r := H
 have HS_ := Q_ H
 clear H
 have bp := x.1
 have bs := U.1
 have bj := bc3_ a.1
 have bk := bc3_ b.1
 go_upto_if 30 with (first | ((with_reducible refine gate_callee (f := 88) rfl ?_); refine gl_ (some 35) Try.func88 #[.agg #[.int .i64 q, .slice y l.length D, .slice z m.length E], .agg #[.int .i64 s, .slice A o.length F, .slice B p.length G], .int .i64 a2, .int .i64 a3] ?_; (with_reducible refine (impl_NextPairs.calls kj4 q _ _ l _ _ m s _ _ o _ _ p a2 a3 X _ (cb_ L HB) I.1 (cb_ M HB) J.1 (cb_ R HB) O.1 (cb_ T HB) P.1 aF.1).mono ?_); rintro e b2 ⟨aE, rfl, j, hb⟩; refine ⟨_, rfl, ?_⟩; have _ := Q_ (Kd.S_lower j (below_size (pb2_ HB.1 c.1 g.1))); have _ := Q_ (bb_ a.1 hb); have _ := Q_ (bb_ b.1 hb); have _ := Q_ (below_step (pb2_ HB.1 c.1 g.1) hb); clear a b HB; rename_i u a b HB; (try clear hb j); obtain ⟨bB, bH, a4⟩ := Kd.S_slice u.1; subst a4; have bl := bc3_ a.1) | (go_at_call 83; (with_reducible refine (impl_isEnd.calls q _ _ l _ _ m a2 true _ (cb_ L HB) I.1 (cb_ M HB) J.1 aN.1).mono ?_); rintro e b3 ⟨rfl, hb⟩; have _ := Q_ (Kd.S_below (ps_ u.1) hb); have _ := Q_ (bb_ a.1 hb); have _ := Q_ (bb_ b.1 hb); have _ := Q_ (below_step (pb2_ HB.1 c.1 g.1) hb); clear u a b HB; rename_i u a b HB; (try clear hb); have bm := bc3_ b.1) | (go_at_call 83; (with_reducible refine (impl_isEnd.calls s _ _ o _ _ p a3 ap _ (cb_ R HB) O.1 (cb_ T HB) P.1 bc.1).mono ?_); rintro e b4 ⟨rfl, hb⟩; have _ := Q_ (Kd.S_below (ps_ u.1) hb); have _ := Q_ (bb_ a.1 hb); have _ := Q_ (bb_ b.1 hb); have _ := Q_ (below_step (pb2_ HB.1 c.1 g.1) hb); clear u a b HB; rename_i u a b HB; (try clear hb)))
 (try simp only [Act.put, s1_, s2_, s3_])
 have H := HS_.1
 clear HS_
 by_cases au : ap = true
 rotate_left
 ·replace au := bf_ au
  subst au
  rw [if_neg ff_] at H
  obtain rfl := Option.some.inj H
  go_wp2
  go_ret
  exact ⟨er_, pb2_ HB.1 c.1 g.1⟩
 subst au
 rw [if_pos rfl] at H
 obtain rfl := Option.some.inj H
 go_wp2
 go_ret
 exact ⟨er_, pb2_ HB.1 c.1 g.1⟩

/-! ### impl_FirstTrouble: function 61 -/
def impl_FirstTrouble.l0 : Nat → List (List Int) → Int → Int → Int → List Bool → List (S78) → Int → List Bool → List (S78) → Option (List Int)
 | 0, _, _, _, _, _, _, _, _, _ => none
 | k + 1, i, l, a, b, c, d, e, g, h => if a < l then (if 0 ≤ a then (if a < (i.length : Int) then (if 0 < ((rd_L3 i a).length : Int) then (if 1 < ((rd_L3 i a).length : Int) then ((impl_TroubleAt.f k b c d e g h (rd (rd_L3 i a) 0) (rd (rd_L3 i a) 1)).bind fun j => (if j = 0 then (impl_FirstTrouble.l0 k i l (wrap64 (a + 1)) b c d e g h) else (some (rd_L3 i a)))) else (none)) else (none)) else (none)) else (none)) else (some ([] : List Int))
def impl_FirstTrouble.f (k : Nat) (a : Int) (c : List Bool) (d : List (S78)) (b : Int) (e : List Bool) (g : List (S78)) : Option (List Int) := (impl_PairsOf.f k a c d b e g).bind fun h => (impl_FirstTrouble.l0 k h (h.length : Int) 0 a c d b e g)
theorem impl_FirstTrouble.mono_l : ∀ k, (∀ a b c d e f g i j, LeO (impl_FirstTrouble.l0 k a b c d e f g i j) (impl_FirstTrouble.l0 (k + 1) a b c d e f g i j))
 | 0 => fun _ _ _ _ _ _ _ _ _ r h => by simp [impl_FirstTrouble.l0] at h
 | k + 1 => by
  have ih0 := impl_FirstTrouble.mono_l k
  ·intro a b c d e f g i j
   unfold impl_FirstTrouble.l0
   exact mo3_ ih0 impl_PairsOf.mono impl_TroubleAt.mono
theorem impl_FirstTrouble.mono : ∀ a b c d e g k, LeO (impl_FirstTrouble.f k a b c d e g) (impl_FirstTrouble.f (k + 1) a b c d e g) := by
 intro a b c d e g k
 have ih0 := impl_FirstTrouble.mono_l k
 unfold impl_FirstTrouble.f
 exact mo3_ ih0 impl_PairsOf.mono impl_TroubleAt.mono
def impl_FirstTrouble.T4 : Bool × List (List Nat × List Nat) := (true, [([], []), ([], []), ([], []), ([2], [2]), ([3], [3]), ([], []), ([5], [5]), ([6], [6]), ([0, 1, 4, 7], [0, 1, 4, 7]), ([8], [8])])
def impl_FirstTrouble.B4 : List Nat := [0, 0, 0, 4, 12, 0, 32, 96, 255, 511]
theorem impl_FirstTrouble.tab4 : rtab .any (opsOf Try.f61 4) = impl_FirstTrouble.T4 := by kernel_rfl
theorem impl_FirstTrouble.bits4 : waitsOk impl_FirstTrouble.T4.2 impl_FirstTrouble.B4 = true := by kernel_rfl
theorem impl_FirstTrouble.calls (k : Nat) (s : Int) (B : Option Addr) (G : Nat) (j : List Bool) (D : Option Addr) (I : Nat) (l : List (S78)) (t : Int) (E : Option Addr) (J : Nat) (m : List Bool) (F : Option Addr) (L : Nat) (p : List (S78)) (r : List Int) (w : World) (hr0_1 : Kd.C Kd.bool w B j.length j) (al : j.length ≤ G) (hr0_2 : Kd.C k78 w D l.length l) (am : l.length ≤ I) (hr1_1 : Kd.C Kd.bool w E m.length m) (an : m.length ≤ J) (hr1_2 : Kd.C k78 w F p.length p) (ao : p.length ≤ L) (h : impl_FirstTrouble.f k s j l t m p = some r) :
  Calls Try.prog 61 #[.agg #[.int .i64 s, .slice B j.length G, .slice D l.length I], .agg #[.int .i64 t, .slice E m.length J, .slice F p.length L]] w fun e w' => ∃ v0_ : Value, e = .returned (v0_) ∧ Kd.V (Kd.int .i64) 3 w' w.heap.size (fun k_ => (w.heap.size ≤ k_)) v0_ r ∧ Below w.heap.size w w' := by
 have hu34 := Try.underlying34
 have ah := Q_ hr0_1
 have ac := Q_ al
 clear hr0_1 al
 have ai := Q_ hr0_2
 have ad := Q_ am
 clear hr0_2 am
 have aj := Q_ hr1_1
 have ae := Q_ an
 clear hr1_1 an
 have ak := Q_ hr1_2
 have af := Q_ ao
 clear hr1_2 ao
 have HB := Q_ (Below.refl w.heap.size w)
 have H : ((impl_PairsOf.f k s j l t m p).bind fun d => (impl_FirstTrouble.l0 k d (d.length : Int) 0 s j l t m p)) = some r := h
 clear h
 obtain ⟨d, A3, H⟩ := bs_ H
 (try dsimp only at H)
 have H' := Q_ H
 clear H
 go_enter Try.func61, Try.ntmps61
 go_wp2_with (first | ((with_reducible refine gate_dst (N := 2) rfl ?_); refine bx_ 2 #[.int .i64 s, .slice B j.length G, .slice D l.length I] 34 ?_; intro x hg w4 hbox hb; have _ := Q_ (below_step (pb_ HB.1) hb); have b := Q_ (hbox); have aA := Q_ (gw_ (w := w) hg (pb_ HB.1)); have q := aA; clear HB; rename_i HB; clear hb hbox hg) | ((with_reducible refine gate_dst (N := 3) rfl ?_); refine bx_ 3 #[.int .i64 t, .slice E m.length J, .slice F p.length L] 34 ?_; intro y hg w5 hbox hb; have _ := Q_ (bb_ b.1 hb); have _ := Q_ (below_step (pb1_ HB.1 q.1) hb); have c := Q_ (hbox); have aB := Q_ (gw_ (w := w) hg (pb1_ HB.1 q.1)); have u := aB; have M := Q_ (nb_ hg b); have W := Q_ M.1.symm; clear b HB; rename_i b HB; clear hb hbox hg; have a0 := M.1; have a1 := W.1; have aY := bc3_ b.1; have aZ := bc3_ c.1) | ((with_reducible refine gate_callee (f := 73) rfl ?_); refine gl_ (some 9) Try.func73 #[.agg #[.int .i64 s, .slice B j.length G, .slice D l.length I], .agg #[.int .i64 t, .slice E m.length J, .slice F p.length L]] ?_; (with_reducible refine (impl_PairsOf.calls k s _ _ j _ _ l t _ _ m _ _ p d _ (cb_ ah HB) ac.1 (cb_ ai HB) ad.1 (cb_ aj HB) ae.1 (cb_ ak HB) af.1 A3.1).mono ?_); rintro e w9 ⟨a2, rfl, aM, hb⟩; refine ⟨_, rfl, ?_⟩; have _ := Q_ (Kd.N_lower (Kd.N_mono (ok' := fun k_ => (w.heap.size ≤ k_) ∧ k_ ≠ x ∧ k_ ≠ y) aM (fun k_ hk_ => ⟨(Nat.le_trans (below_size (pb2_ HB.1 q.1 u.1)) hk_), (Kd.freshB (g := x) (o := .cells #[.int .i64 s, .slice B j.length G, .slice D l.length I] 34 (0, 0)) (pk_ b.1) k_ hk_), (Kd.freshB (g := y) (o := .cells #[.int .i64 t, .slice E m.length J, .slice F p.length L] 34 (0, 0)) (pk_ c.1) k_ hk_)⟩)) (below_size (pb2_ HB.1 q.1 u.1))); have _ := Q_ (bb_ b.1 hb); have _ := Q_ (bb_ c.1 hb); have _ := Q_ (below_step (pb2_ HB.1 q.1 u.1) hb); clear b c HB; rename_i ag b c HB; (try clear hb aM); obtain ⟨aE, aH, aL⟩ := Kd.N_slice ag.1; subst aL))
 (try simp only [Act.put, s1_, s2_, s3_])
 go_loopg [11] k (fun kq aX w' => ∃ (a : Int), aX = .int .i64 a ∧ Aside0 (impl_FirstTrouble.l0 kq d (d.length : Int) a s j l t m p = some r) ∧ Aside0 (kq ≤ k) ∧ Aside0 (Kd.N (Kd.slice 3 (Kd.int .i64)) 39 w' w.heap.size (fun k_ => (w.heap.size ≤ k_) ∧ k_ ≠ x ∧ k_ ≠ y) (.slice aE d.length aH) d) ∧ Aside0 (w'.heap[x]? = some (.cells #[.int .i64 s, (.slice B j.length G), (.slice D l.length I)] 34 (0, 0))) ∧ Aside0 (w'.heap[y]? = some (.cells #[.int .i64 t, (.slice E m.length J), (.slice F p.length L)] 34 (0, 0))) ∧ Aside0 (Below w.heap.size w w'))
 case atStart => exact ⟨(0), el_, H', ⟨Nat.le_refl _⟩, ⟨by (with_reducible repeat (first | apply Kd.N_alloc | apply Kd.N_drewN | apply Kd.N_drew)); exact ag.1⟩, ⟨pk_ b.1⟩, ⟨pk_ c.1⟩, ⟨pb2_ HB.1 q.1 u.1⟩⟩
 clear H'
 obtain ⟨a, rfl, HA, aG, v, b, c, HB⟩ := hrel
 rcases gk with _ | k1
 ·exact absurd HA.1 (by simp [impl_FirstTrouble.l0])
 have H := HA.1
 clear HA
 simp only [impl_FirstTrouble.l0] at H
 by_cases ab : a < (d.length : Int)
 rotate_left
 ·rw [if_neg ab] at H
  have aD := decide_eq_false ab
  clear ab
  obtain rfl := Option.some.inj H
  go_wp2
  go_ret
  exact ⟨_, er_, (by exact Kd.V_nil _ _ _ _ _), pb2_ HB.1 q.1 u.1⟩
 rw [if_pos ab] at H
 have aD := decide_eq_true ab
 clear ab
 by_cases aw : 0 ≤ a
 rotate_left
 ·rw [if_neg aw] at H
  exact nn_ H
 rw [if_pos aw] at H
 have aR := decide_eq_true aw
 clear aw
 by_cases ax : a < (d.length : Int)
 rotate_left
 ·rw [if_neg ax] at H
  exact nn_ H
 rw [if_pos ax] at H
 have aS := decide_eq_true ax
 clear ax
 by_cases ay : 0 < ((rd_L3 d a).length : Int)
 rotate_left
 ·rw [if_neg ay] at H
  exact nn_ H
 rw [if_pos ay] at H
 have aT := decide_eq_true ay
 have aU : decide (0 < (rd_L3 d a).length) = true := decide_eq_true (by omega)
 clear ay
 by_cases az : 1 < ((rd_L3 d a).length : Int)
 rotate_left
 ·rw [if_neg az] at H
  exact nn_ H
 rw [if_pos az] at H
 have aV := decide_eq_true az
 have aW : decide (1 < (rd_L3 d a).length) = true := decide_eq_true (by omega)
 clear az
 obtain ⟨Q, aP, H⟩ := bs_ H
 (try dsimp only at H)
 have HS_ := Q_ H
 clear H
 have Z : 0 ≤ (a : Int) := dt_
 have aa : a < (d.length : Int) := dt_
 obtain ⟨aQ, aN, aO, aI, ap, U, T⟩ := at_L3 (Kd.N_reads' v.1).2.2 a Z aa
 cases aI
 obtain ⟨ce227, hce227, hMe227, Y⟩ := Kd.N_get v.1 [] a Z (by first | exact aa | exact dt_ | (have e_ := (Kd.N_reads' v.1).1; omega))
 obtain ⟨ua227_0, uc227_0, rfl, ul227_0, ge227_0⟩ := Kd.FK_slice_open hMe227
 have hv227_0 := Y 0 _ rfl
 rw [Nat.add_zero, show ((Kd.slice 3 (Kd.int .i64))).sz = 1 from rfl, Nat.mul_one] at hv227_0
 replace hv227_0 := Option.some.inj (hv227_0.symm.trans ap)
 injection hv227_0 with hva_ hvn_ hvc_
 rw [hva_] at ge227_0
 rw [hvc_] at ul227_0
 have HL227_0 := Q_ (show Kd.V (Kd.int .i64) 3 _ w.heap.size _ _ (rd_L3 d a) from Kd.V_mk ul227_0 ge227_0)
 clear hva_ hvn_ hvc_ ge227_0 ul227_0
 clear Y hce227
 have i := Q_ T
 have aF := Q_ U
 clear T U
 replace Z := eq_true Z
 replace aa := eq_true aa
 try go_wp2
 have _ := Q_ (Kd.N_drew v.1)
 have _ := Q_ (Kd.V_drew HL227_0.1)
 have _ := Q_ (blk_drew b.1)
 have _ := Q_ (blk_drew c.1)
 have _ := Q_ (Kd.C_drew i.1)
 have _ := Q_ (below_drew1 HB.1)
 clear v HL227_0 b c i HB
 rename_i v HL227_0 b c i HB
 have aq : 0 ≤ (0 : Int) := (by omega)
 have au : 0 < ((rd_L3 d a).length : Int) := dt_
 obtain ⟨R, aJ, z⟩ := Kd.at_int (by repeat (first | (with_reducible exact i.1) | (with_reducible refine Kd.C_alloc ?_ _) | (with_reducible refine Kd.C_drewN ?_ _) | (with_reducible refine Kd.C_drew ?_) | exact i.1)) 0 aq au
 cases aJ
 have qi228 : (0 < (rd_L3 d a).length) = True := eq_true (by omega)
 (try rw [show ((0 : Int)).toNat = 0 from rfl] at z)
 (try rw [Addr.add_zero'] at z)
 replace aq := eq_true aq
 replace au := eq_true au
 have ar : 0 ≤ (1 : Int) := (by omega)
 have av : 1 < ((rd_L3 d a).length : Int) := dt_
 obtain ⟨aC, aK, A⟩ := Kd.at_int (by repeat (first | (with_reducible exact i.1) | (with_reducible refine Kd.C_alloc ?_ _) | (with_reducible refine Kd.C_drewN ?_ _) | (with_reducible refine Kd.C_drew ?_) | exact i.1)) 1 ar av
 obtain rfl : R = aC := (by injection aK)
 (try simp only [show (1 : Int).toNat = 1 from rfl, Nat.reduceMul, Nat.reduceEqDiff, Go.Addr.add, ↓reduceIte] at A)
 have qi229 : (1 < (rd_L3 d a).length) = True := eq_true (by omega)
 (try rw [show ((1 : Int)).toNat = 1 from rfl] at A)
 replace ar := eq_true ar
 replace av := eq_true av
 refine start_ (n := 10) (S := fun w' => w'.cell? ⟨x, 0, none⟩ = some (.int .i64 s) ∧ w'.cell? ⟨x, 1, none⟩ = some (.slice B j.length G) ∧ w'.cell? ⟨x, 2, none⟩ = some (.slice D l.length I) ∧ w'.cell? ⟨y, 0, none⟩ = some (.int .i64 t) ∧ w'.cell? ⟨y, 1, none⟩ = some (.slice E m.length J) ∧ w'.cell? ⟨y, 2, none⟩ = some (.slice F p.length L) ∧ w'.cell? R = some (.int .i64 (rd (rd_L3 d a) 0)) ∧ w'.cell? ⟨R.block, R.off + 1, none⟩ = some (.int .i64 (rd (rd_L3 d a) 1))) (ds := []) (tf_ 0 10) (by kernel_rfl) rfl rfl ⟨(blk_cell b.1 0).trans rfl, (blk_cell b.1 1).trans rfl, (blk_cell b.1 2).trans rfl, (blk_cell c.1 0).trans rfl, (blk_cell c.1 1).trans rfl, (blk_cell c.1 2).trans rfl, z, A⟩ (fun hHeld => ?_); refine with_tabW impl_FirstTrouble.tab4 impl_FirstTrouble.bits4 (fun HT_ HW_ => ?_)
 generalize wr.drew = a4 at v HL227_0 b c i HB z A hHeld ⊢
 refine pu1_ 2 17 10 4 ?_
 refine pu1_ 3 18 10 12 ?_
 refine pu1_ 5 20 10 44 ?_
 refine pu1_ 6 21 10 108 ?_
 refine ta1_ 0 15 10 109 hHeld ?_
 refine ta1_ 1 16 10 111 hHeld ?_
 refine ta1_ 4 19 10 127 hHeld ?_
 refine ta1_ 7 22 10 255 hHeld ?_
 refine on_ 8 (some 23) (tf_ 9 10) HT_ (fun K hK => ?_)
 refine goes_ Try.func74 (by kernel_rfl) rfl #[.agg #[.int .i64 s, .slice B j.length G, .slice D l.length I], .agg #[.int .i64 t, .slice E m.length J, .slice F p.length L], .int .i64 (rd (rd_L3 d a) 0), .int .i64 (rd (rd_L3 d a) 1)] (by rfl) rfl rfl mp_ ?_
 with_reducible refine (impl_TroubleAt.calls k1 s _ _ j _ _ l t _ _ m _ _ p (rd (rd_L3 d a) 0) (rd (rd_L3 d a) 1) Q _ (cb_ ah HB) ac.1 (cb_ ai HB) ad.1 (cb_ aj HB) ae.1 (cb_ ak HB) af.1 aP.1).mono ?_
 rintro e a5 ⟨rfl, hb⟩
 have HS6_ := (hb.cell (World.block_lt_of_cell? _ _ (hHeld.2.2.2.2.2.2.1))).trans (hHeld.2.2.2.2.2.2.1)
 have HS7_ := (hb.cell (World.block_lt_of_cell? _ _ (hHeld.2.2.2.2.2.2.2))).trans (hHeld.2.2.2.2.2.2.2)
 refine ⟨_, rfl, ?_⟩
 have _ := Q_ (Kd.N_below (by (with_reducible repeat (first | apply Kd.N_alloc | apply Kd.N_drewN | apply Kd.N_drew)); exact v.1) hb)
 have _ := Q_ (Kd.V_below (by (with_reducible repeat (first | apply Kd.V_alloc | apply Kd.V_drewN | apply Kd.V_drew)); exact HL227_0.1) hb)
 have _ := Q_ (bb_ b.1 hb)
 have _ := Q_ (bb_ c.1 hb)
 have _ := Q_ (Kd.C_below (by repeat (first | (with_reducible exact i.1) | (with_reducible refine Kd.C_alloc ?_ _) | (with_reducible refine Kd.C_drewN ?_ _) | (with_reducible refine Kd.C_drew ?_) | exact i.1)) hb)
 have _ := Q_ (below_step (pb2_ HB.1 q.1 u.1) hb)
 clear v HL227_0 b c i HB
 rename_i v HL227_0 b c i HB
 (try clear hb)
 refine hK.out _ _ ⟨(blk_cell b.1 0).trans rfl, (blk_cell b.1 1).trans rfl, (blk_cell b.1 2).trans rfl, (blk_cell c.1 0).trans rfl, (blk_cell c.1 1).trans rfl, (blk_cell c.1 2).trans rfl, HS6_, HS7_⟩ (fun hHeld => ?_)
 clear hK K
 refine no_ (some 23) ?_
 refine pu1_ 9 24 10 1023 ?_
 refine done_ (done_of HT_.1 (by kernel_rfl)) ?_
 go_upto_if 24 with (fail)
 have H := HS_.1
 clear HS_
 by_cases X : Q = 0
 rotate_left
 ·rw [if_neg X] at H
  have O : (Q == 0) = false := beq_eq_false_iff_ne.mpr X
  have P : (Q != 0) = true := bne_iff_ne.mpr X
  (first | rw [O] | (simp only [i64_w, i32_w]; rw [O]) | rw [P] | (have c_ := P; rw [bne] at c_; rw [c_]; clear c_) | skip)
  obtain rfl := Option.some.inj H
  go_wp2
  go_ret
  exact ⟨_, er_, by (with_reducible repeat (first | apply Kd.V_alloc | apply Kd.V_drewN | apply Kd.V_drew)); exact Kd.V_mono HL227_0.1 (fun _ hk => hk.1.1), pb2_ HB.1 q.1 u.1⟩
 rw [if_pos X] at H
 have O : (Q == 0) = true := beq_iff_eq.mpr X
 have P : (Q != 0) = false := bne_eq_false_iff_eq.mpr X
 clear X
 (first | rw [O] | (simp only [i64_w, i32_w]; rw [O]) | rw [P] | (have c_ := P; rw [bne] at c_; rw [c_]; clear c_) | skip)
 have H' := Q_ H
 clear H
 go_wp2
 go_roundg k1
 case measure => have := aG.1; omega
 case rel => exact ⟨(wrap64 (a + 1)), el_, H', ⟨by have := aG.1; omega⟩, ⟨by (with_reducible repeat (first | apply Kd.N_alloc | apply Kd.N_drewN | apply Kd.N_drew)); exact v.1⟩, ⟨pk_ b.1⟩, ⟨pk_ c.1⟩, ⟨pb2_ HB.1 q.1 u.1⟩⟩

/-! ### impl_IsSafe: function 42 -/
def impl_IsSafe.f (k : Nat) (a : Int) (c : List Bool) (d : List (S78)) (b : Int) (e : List Bool) (g : List (S78)) : Option (Bool) := (impl_IsMachine.f k a c d).bind fun h => (if h = true then ((impl_IsMachine.f k b e g).bind fun i => (if i = true then ((impl_FirstTrouble.f k a c d b e g).bind fun j => (some ((j.length : Int) == 0))) else (some false))) else (some false))
theorem impl_IsSafe.mono : ∀ a b c d e g k, LeO (impl_IsSafe.f k a b c d e g) (impl_IsSafe.f (k + 1) a b c d e g) := by
 intro a b c d e g k
 unfold impl_IsSafe.f
 exact mo2_ impl_FirstTrouble.mono impl_IsMachine.mono
theorem impl_IsSafe.calls (k : Nat) (l : Int) (t : Option Addr) (v : Nat) (d : List Bool) (u : Option Addr) (x : Nat) (i : List (S78)) (s : Int) (I : Option Addr) (K : Nat) (n : List Bool) (J : Option Addr) (L : Nat) (p : List (S78)) (r : Bool) (w : World) (hr0_1 : Kd.C Kd.bool w t d.length d) (Q : d.length ≤ v) (hr0_2 : Kd.C k78 w u i.length i) (R : i.length ≤ x) (hr1_1 : Kd.C Kd.bool w I n.length n) (S : n.length ≤ K) (hr1_2 : Kd.C k78 w J p.length p) (T : p.length ≤ L) (h : impl_IsSafe.f k l d i s n p = some r) :
  Calls Try.prog 42 #[.agg #[.int .i64 l, .slice t d.length v, .slice u i.length x], .agg #[.int .i64 s, .slice I n.length K, .slice J p.length L]] w fun e w' => e = .returned (.bool r) ∧ Below w.heap.size w w' := by
 have hu34 := Try.underlying34
 have A := Q_ hr0_1
 have y := Q_ Q
 clear hr0_1 Q
 have B := Q_ hr0_2
 have z := Q_ R
 clear hr0_2 R
 have F := Q_ hr1_1
 have D := Q_ S
 clear hr1_1 S
 have G := Q_ hr1_2
 have E := Q_ T
 clear hr1_2 T
 have HB := Q_ (Below.refl w.heap.size w)
 have H : ((impl_IsMachine.f k l d i).bind fun U => (if U = true then ((impl_IsMachine.f k s n p).bind fun V => (if V = true then ((impl_FirstTrouble.f k l d i s n p).bind fun M => (some ((M.length : Int) == 0))) else (some false))) else (some false))) = some r := h
 clear h
 have HS_ := Q_ H
 clear H
 go_enter Try.func42, Try.ntmps42
 go_upto_region 1 with (first | ((with_reducible refine gate_dst (N := 2) rfl ?_); (try (refine gate_guard (by rfl) ?_; dsimp only)); refine bx_ 2 #[.int .i64 l, .slice t d.length v, .slice u i.length x] 34 ?_; intro O hg w3 hbox hb; have _ := Q_ (below_step (pb_ HB.1) hb); have a := Q_ (hbox); have X := Q_ (gw_ (w := w) hg (pb_ HB.1)); have c := X; clear HB; rename_i HB; clear hb hbox hg) | ((with_reducible refine gate_dst (N := 3) rfl ?_); (try (refine gate_guard (by rfl) ?_; dsimp only)); refine bx_ 3 #[.int .i64 s, .slice I n.length K, .slice J p.length L] 34 ?_; intro P hg w4 hbox hb; have _ := Q_ (bb_ a.1 hb); have _ := Q_ (below_step (pb1_ HB.1 c.1) hb); have b := Q_ (hbox); have Y := Q_ (gw_ (w := w) hg (pb1_ HB.1 c.1)); have j := Y; have m := Q_ (nb_ hg a); have q := Q_ m.1.symm; clear a HB; rename_i a HB; clear hb hbox hg))
 (try simp only [Act.put, s1_, s2_, s3_])
 have H := HS_.1
 clear HS_
 obtain ⟨U, A5, H⟩ := bs_ H
 (try dsimp only at H)
 by_cases c6 : U = true
 rotate_left
 ·replace c6 := bf_ c6
  subst c6
  rw [if_neg ff_] at H
  obtain rfl := Option.some.inj H
  have av := m.1
  have aw := q.1
  have au := bc3_ a.1
  go_wp2_with (first | ((with_reducible refine gate_callee (f := 55) rfl ?_); refine gl_ (some 6) Try.func55 #[.agg #[.int .i64 l, .slice t d.length v, .slice u i.length x]] ?_; (with_reducible refine (impl_IsMachine.calls k l _ _ d _ _ i false _ (cb_ A HB) y.1 (cb_ B HB) z.1 A5.1).mono ?_); rintro e w9 ⟨rfl, hb⟩; refine ⟨_, rfl, ?_⟩; have _ := Q_ (bb_ a.1 hb); have _ := Q_ (bb_ b.1 hb); have _ := Q_ (below_step (pb2_ HB.1 c.1 j.1) hb); clear a b HB; rename_i a b HB; (try clear hb)))
  go_ret
  exact ⟨er_, pb2_ HB.1 c.1 j.1⟩
 subst c6
 rw [if_pos rfl] at H
 obtain ⟨V, aa, H⟩ := bs_ H
 (try dsimp only at H)
 by_cases W : V = true
 rotate_left
 ·replace W := bf_ W
  subst W
  rw [if_neg ff_] at H
  obtain rfl := Option.some.inj H
  have am := m.1
  have ao := q.1
  have ag := bc3_ a.1
  go_wp2_with (first | ((with_reducible refine gate_callee (f := 55) rfl ?_); refine gl_ (some 6) Try.func55 #[.agg #[.int .i64 l, .slice t d.length v, .slice u i.length x]] ?_; (with_reducible refine (impl_IsMachine.calls k l _ _ d _ _ i true _ (cb_ A HB) y.1 (cb_ B HB) z.1 A5.1).mono ?_); rintro e ay ⟨rfl, hb⟩; refine ⟨_, rfl, ?_⟩; have _ := Q_ (bb_ a.1 hb); have _ := Q_ (bb_ b.1 hb); have _ := Q_ (below_step (pb2_ HB.1 c.1 j.1) hb); clear a b HB; rename_i a b HB; (try clear hb); have ah := bc3_ b.1) | (go_at_call 55; (with_reducible refine (impl_IsMachine.calls k s _ _ n _ _ p false _ (cb_ F HB) D.1 (cb_ G HB) E.1 aa.1).mono ?_); rintro e az ⟨rfl, hb⟩; have _ := Q_ (bb_ a.1 hb); have _ := Q_ (bb_ b.1 hb); have _ := Q_ (below_step (pb2_ HB.1 c.1 j.1) hb); clear a b HB; rename_i a b HB; (try clear hb)))
  go_ret
  exact ⟨er_, pb2_ HB.1 c.1 j.1⟩
 subst W
 rw [if_pos rfl] at H
 obtain ⟨M, ae, H⟩ := bs_ H
 replace H : (some ((M.length : Int) == 0)) = some r := H
 obtain rfl := Option.some.inj H
 have an := m.1
 have ap := q.1
 have ai := bc3_ a.1
 go_wp2_with (first | ((with_reducible refine gate_callee (f := 55) rfl ?_); refine gl_ (some 6) Try.func55 #[.agg #[.int .i64 l, .slice t d.length v, .slice u i.length x]] ?_; (with_reducible refine (impl_IsMachine.calls k l _ _ d _ _ i true _ (cb_ A HB) y.1 (cb_ B HB) z.1 A5.1).mono ?_); rintro e aA ⟨rfl, hb⟩; refine ⟨_, rfl, ?_⟩; have _ := Q_ (bb_ a.1 hb); have _ := Q_ (bb_ b.1 hb); have _ := Q_ (below_step (pb2_ HB.1 c.1 j.1) hb); clear a b HB; rename_i a b HB; (try clear hb); have aj := bc3_ b.1) | (go_at_call 55; (with_reducible refine (impl_IsMachine.calls k s _ _ n _ _ p true _ (cb_ F HB) D.1 (cb_ G HB) E.1 aa.1).mono ?_); rintro e aB ⟨rfl, hb⟩; have _ := Q_ (bb_ a.1 hb); have _ := Q_ (bb_ b.1 hb); have _ := Q_ (below_step (pb2_ HB.1 c.1 j.1) hb); clear a b HB; rename_i a b HB; (try clear hb); have ak := bc3_ a.1; have al := bc3_ b.1) | (go_at_call 61; (with_reducible refine (impl_FirstTrouble.calls k l _ _ d _ _ i s _ _ n _ _ p M _ (cb_ A HB) y.1 (cb_ B HB) z.1 (cb_ F HB) D.1 (cb_ G HB) E.1 ae.1).mono ?_); rintro e aC ⟨ax, rfl, ac, hb⟩; have _ := Q_ (Kd.V_lower (Kd.V_mono (ok' := fun k_ => k_ ≠ O ∧ k_ ≠ P) ac (fun k_ hk_ => ⟨(Kd.freshB (g := O) (o := .cells #[.int .i64 l, .slice t d.length v, .slice u i.length x] 34 (0, 0)) (pk_ a.1) k_ hk_), (Kd.freshB (g := P) (o := .cells #[.int .i64 s, .slice I n.length K, .slice J p.length L] 34 (0, 0)) (pk_ b.1) k_ hk_)⟩)) (below_size (pb2_ HB.1 c.1 j.1))); have _ := Q_ (bb_ a.1 hb); have _ := Q_ (bb_ b.1 hb); have _ := Q_ (below_step (pb2_ HB.1 c.1 j.1) hb); clear a b HB; rename_i Z a b HB; (try clear hb ac); obtain ⟨aq, ar, ab⟩ := Kd.V_slice Z.1; subst ab))
 go_ret
 exact ⟨er_, pb2_ HB.1 c.1 j.1⟩

end Go.Proofs.Ytldcchjbaglppaa.Print
