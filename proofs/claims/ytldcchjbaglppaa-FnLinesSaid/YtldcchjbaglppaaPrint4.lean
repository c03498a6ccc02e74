-- Written by a program of this session (printx.py) out of the translation; Lean checks it.
import Derived.Test.YtldcchjbaglppaaPrint0
import Derived.Test.YtldcchjbaglppaaPrint1
import Derived.Test.YtldcchjbaglppaaPrint2
import Derived.Test.YtldcchjbaglppaaPrint3
namespace Go.Proofs.Ytldcchjbaglppaa.Print
open Go.RowKit Go.Proofs.YtldcchjbaglppaaW.PrintWords Go.Proofs.YtldcchjbaglppaaW.PrintLast Go.Proofs.YtldcchjbaglppaaW.PrintMore Go.Proofs.Ytldcchjbaglppaa.Short
attribute [local go_sem] max2_int min2_int max_two min_two max_three min_three max_four min_four   -- for this text's walks alone
set_option linter.unusedVariables false
set_option maxHeartbeats 8000000
set_option maxRecDepth 100000
set_option linter.unusedSimpArgs false

/-! ### impl_NextPairs: function 88 -/
mutual
def impl_NextPairs.l0 : Nat → Int → Int → List (List Int) → List Bool → Int → Int → Int → List Bool → List (S78) → Int → List Bool → List (S78) → Option ((List (List Int)))
 | 0, _, _, _, _, _, _, _, _, _, _, _, _ => none
 | k + 1, n, o, p, i, j, h, a, b, c, d, e, g => if h < j then (if 0 ≤ h then (if h < (i.length : Int) then ((impl_MovesFrom.f k a b c n true).bind fun l => (if rdOf false i h = true then (impl_NextPairs.j1 k n o p (rdOf false i h) l i j h a b c d e g) else ((impl_MovesFrom.f k d e g o true).bind fun m => (impl_NextPairs.j1 k n o p (rdOf false i h) m i j h a b c d e g)))) else (none)) else (none)) else (some p)
def impl_NextPairs.j1 : Nat → Int → Int → List (List Int) → Bool → List Int → List Bool → Int → Int → Int → List Bool → List (S78) → Int → List Bool → List (S78) → Option ((List (List Int)))
 | 0, _, _, _, _, _, _, _, _, _, _, _, _, _, _ => none
 | k + 1, m, n, o, h, g, i, j, l, a, b, c, d, e, f => impl_NextPairs.l1 k m n o h i j l g (g.length : Int) 0 a b c d e f
def impl_NextPairs.l1 : Nat → Int → Int → List (List Int) → Bool → List Bool → Int → Int → List Int → Int → Int → Int → List Bool → List (S78) → Int → List Bool → List (S78) → Option ((List (List Int)))
 | 0, _, _, _, _, _, _, _, _, _, _, _, _, _, _, _, _ => none
 | k + 1, r, s, t, m, n, o, p, l, q, h, c, d, a, e, g, b => if h < q then (if 0 ≤ h then (if h < (l.length : Int) then ((impl_MoveOf.f k c d a r m (rd l h)).bind fun i => ((impl_MoveOf.f k e g b s (!m) (rd l h)).bind fun j => (if i ≥ 0 then (if j ≥ 0 then (if 0 ≤ i then (if i < (a.length : Int) then (if 0 ≤ j then (if j < (b.length : Int) then (if t.length < 5864062014805 then (impl_NextPairs.l1 k r s (t ++ [(([(rd_T78 a i).f3, (rd_T78 b j).f3] : List Int))]) m n o p l q (wrap64 (h + 1)) c d a e g b) else (none)) else (none)) else (none)) else (none)) else (none)) else (impl_NextPairs.l1 k r s t m n o p l q (wrap64 (h + 1)) c d a e g b)) else (impl_NextPairs.l1 k r s t m n o p l q (wrap64 (h + 1)) c d a e g b)))) else (none)) else (none)) else (impl_NextPairs.l0 k r s t n o (wrap64 (p + 1)) c d a e g b)
end
def impl_NextPairs.f (k : Nat) (b : Int) (d : List Bool) (e : List (S78)) (c : Int) (g : List Bool) (h : List (S78)) (i : Int) (j : Int) : Option ((List (List Int))) := (some (([true, false] : List Bool) : List Bool)).bind fun a => (impl_NextPairs.l0 k i j (([] : List (List Int))) a (a.length : Int) 0 b d e c g h)
theorem impl_NextPairs.mono_l : ∀ k, (∀ e f g i j l m n o p a b, LeO (impl_NextPairs.l0 k e f g i j l m n o p a b) (impl_NextPairs.l0 (k + 1) e f g i j l m n o p a b)) ∧ (∀ e f g i j l m n o p a b c d, LeO (impl_NextPairs.j1 k e f g i j l m n o p a b c d) (impl_NextPairs.j1 (k + 1) e f g i j l m n o p a b c d)) ∧ (∀ e f g i j l m n o p a b c d q s, LeO (impl_NextPairs.l1 k e f g i j l m n o p a b c d q s) (impl_NextPairs.l1 (k + 1) e f g i j l m n o p a b c d q s))
 | 0 => ⟨fun _ _ _ _ _ _ _ _ _ _ _ _ r h => by simp [impl_NextPairs.l0] at h, fun _ _ _ _ _ _ _ _ _ _ _ _ _ _ r h => by simp [impl_NextPairs.j1] at h, fun _ _ _ _ _ _ _ _ _ _ _ _ _ _ _ _ r h => by simp [impl_NextPairs.l1] at h⟩
 | k + 1 => by
  obtain ⟨ih0, ih1, ih2⟩ := impl_NextPairs.mono_l k
  refine ⟨?_, ?_, ?_⟩
  ·intro e f g i j l m n o p a b
   unfold impl_NextPairs.l0
   exact mo5_ ih0 ih1 ih2 impl_MoveOf.mono impl_MovesFrom.mono
  ·intro e f g i j l m n o p a b c d
   unfold impl_NextPairs.j1
   exact mo5_ ih0 ih1 ih2 impl_MoveOf.mono impl_MovesFrom.mono
  ·intro e f g i j l m n o p a b c d q s
   unfold impl_NextPairs.l1
   exact mo5_ ih0 ih1 ih2 impl_MoveOf.mono impl_MovesFrom.mono
theorem impl_NextPairs.mono : ∀ a b c d e g h i k, LeO (impl_NextPairs.f k a b c d e g h i) (impl_NextPairs.f (k + 1) a b c d e g h i) := by
 intro a b c d e g h i k
 obtain ⟨ih0, ih1, ih2⟩ := impl_NextPairs.mono_l k
 unfold impl_NextPairs.f
 exact mo5_ ih0 ih1 ih2 impl_MoveOf.mono impl_MovesFrom.mono
def impl_NextPairs.T11 : Bool × List (List Nat × List Nat) := (true, [([], []), ([], []), ([], []), ([], []), ([0, 1, 2, 3], [0, 1, 2, 3]), ([], []), ([], []), ([], []), ([7], [7]), ([], []), ([5, 6, 8, 9, 4], [5, 6, 8, 9]), ([4, 10, 0, 1, 2, 3, 4], [4]), ([10, 11, 0, 1, 2, 3, 4, 5, 6, 7, 8, 9, 10, 11], [10])])
def impl_NextPairs.B11 : List Nat := [0, 0, 0, 0, 15, 0, 0, 0, 128, 0, 1023, 2047, 4095]
theorem impl_NextPairs.tab11 : rtab .any (opsOf Try.f88 11) = impl_NextPairs.T11 := by kernel_rfl
theorem impl_NextPairs.bits11 : waitsOk impl_NextPairs.T11.2 impl_NextPairs.B11 = true := by kernel_rfl
def impl_NextPairs.T13 : Bool × List (List Nat × List Nat) := (true, [([], []), ([], []), ([1], [1]), ([], []), ([2, 3], [2, 3]), ([4], [4]), ([5], [5]), ([], []), ([7], [7]), ([], []), ([8, 9], [8, 9]), ([10], [10]), ([11], [11]), ([6, 12], [6, 12]), ([13], [13]), ([0, 14], [0, 14]), ([15, 15, 0, 1, 2, 3, 4, 5, 6, 7, 8, 9, 10, 11, 12, 13, 14, 15], [0, 15])])
def impl_NextPairs.B13 : List Nat := [0, 0, 2, 0, 14, 30, 62, 0, 128, 0, 896, 1920, 3968, 8190, 16382, 32767, 65535]
theorem impl_NextPairs.tab13 : rtab .any (opsOf Try.f88 13) = impl_NextPairs.T13 := by kernel_rfl
theorem impl_NextPairs.bits13 : waitsOk impl_NextPairs.T13.2 impl_NextPairs.B13 = true := by kernel_rfl
theorem impl_NextPairs.calls (k : Nat) (A : Int) (J : Option Addr) (O : Nat) (x : List Bool) (ae : Option Addr) (P : Nat) (m : List (S78)) (z : Int) (L : Option Addr) (Q : Nat) (u : List Bool) (af : Option Addr) (T : Nat) (j : List (S78)) (a2 : Int) (a3 : Int) (r : List (List Int)) (w : World) (hr0_1 : Kd.C Kd.bool w J x.length x) (bc : x.length ≤ O) (hr0_2 : Kd.C k78 w ae m.length m) (bd : m.length ≤ P) (hr1_1 : Kd.C Kd.bool w L u.length u) (be : u.length ≤ Q) (hr1_2 : Kd.C k78 w af j.length j) (bf : j.length ≤ T) (h : impl_NextPairs.f k A x m z u j a2 a3 = some r) :
  Calls Try.prog 88 #[.agg #[.int .i64 A, .slice J x.length O, .slice ae m.length P], .agg #[.int .i64 z, .slice L u.length Q, .slice af j.length T], .int .i64 a2, .int .i64 a3] w fun e w' => ∃ v0_ : Value, e = .returned (v0_) ∧ Kd.S (Kd.slice 3 (Kd.int .i64)) 39 w' w.heap.size (fun _ => True) v0_ r ∧ Below w.heap.size w w' := by
 have hu34 := Try.underlying34
 have a5 := Q_ hr0_1
 have aW := Q_ bc
 clear hr0_1 bc
 have aJ := Q_ hr0_2
 have aX := Q_ bd
 clear hr0_2 bd
 have a6 := Q_ hr1_1
 have aZ := Q_ be
 clear hr1_1 be
 have aK := Q_ hr1_2
 have a0 := Q_ bf
 clear hr1_2 bf
 have HB := Q_ (Below.refl w.heap.size w)
 have H : ((some (([true, false] : List Bool) : List Bool)).bind fun i => (impl_NextPairs.l0 k a2 a3 (([] : List (List Int))) i (i.length : Int) 0 A x m z u j)) = some r := h
 clear h
 obtain ⟨bq, hy153⟩ : ∃ y_ : List (List Int), y_ = (([] : List (List Int))) := ⟨_, rfl⟩
 replace H : ((some (([true, false] : List Bool) : List Bool)).bind fun i => (impl_NextPairs.l0 k a2 a3 bq i (i.length : Int) 0 A x m z u j)) = some r := hb_ hy153 H
 have a7 := Q_ hy153
 clear hy153
 obtain ⟨i, hy156⟩ : ∃ y_ : List Bool, y_ = (([true, false] : List Bool)) := ⟨_, rfl⟩
 replace H : (impl_NextPairs.l0 k a2 a3 bq i (i.length : Int) 0 A x m z u j) = some r := hb_ hy156 H
 have a8 := Q_ hy156
 clear hy156
 have H' := Q_ H
 clear H
 go_enter Try.func88, Try.ntmps88
 go_wp2_with (first | ((with_reducible refine gate_dst (N := 4) rfl ?_); refine bx_ 4 #[.int .i64 A, .slice J x.length O, .slice ae m.length P] 34 ?_; intro E hg w5 hbox hb; have _ := Q_ (below_step (pb_ HB.1) hb); have a := Q_ (hbox); have bH := Q_ (gw_ (w := w) hg (pb_ HB.1)); have q := bH; clear HB; rename_i HB; clear hb hbox hg) | ((with_reducible refine gate_dst (N := 5) rfl ?_); refine bx_ 5 #[.int .i64 z, .slice L u.length Q, .slice af j.length T] 34 ?_; intro F hg w6 hbox hb; have _ := Q_ (bb_ a.1 hb); have _ := Q_ (below_step (pb1_ HB.1 q.1) hb); have b := Q_ (hbox); have bI := Q_ (gw_ (w := w) hg (pb1_ HB.1 q.1)); have t := bI; have ad := Q_ (nb_ hg a); have ar := Q_ ad.1.symm; clear a HB; rename_i a HB; clear hb hbox hg) | ((with_reducible refine gate_dst (N := 17) rfl ?_); refine Kd.S_lit (Kd.slice 3 (Kd.int .i64)) _ 39 ?hg (N := 17) ?hd (xs := ([] : List (List Int))) (inner := []) (ok := fun _ => True) (okp := fun _ => True) ?hr ?hp (fun _ hk => hk) trivial (Below.refl _ _) (Nat.le_refl _) (by simp) ?_; (case hd => rfl); (case hg => rfl); (case hr => first | (go_simp; done) | (go_simp; rfl)); (case hp => exact (Reps.none _ _)); intro cm w7 bg hb hg_ hnew_; clear hg_ hnew_; (first | rw [← a7.1] at bg | (simp only [Int.reduceToNat] at bg; rw [← a7.1] at bg)); have _ := Q_ (Kd.S_lower bg (below_size (pb2_ HB.1 q.1 t.1))); have _ := Q_ (bb_ a.1 hb); have _ := Q_ (bb_ b.1 hb); have _ := Q_ (below_step (pb2_ HB.1 q.1 t.1) hb); clear a b HB; rename_i ay a b HB; clear hb bg) | ((with_reducible refine gate_dst (N := 18) rfl ?_); refine Kd.R_lit Kd.bool _ 4 ?hg (N := 18) ?hd (xs := ([true, false] : List Bool)) (inner := [.bool true, .bool false]) (ok := fun _ => True) (okp := fun _ => True) ?hr ?hp (fun _ hk => hk) trivial (Below.refl _ _) (Nat.le_refl _) (by simp) ?_; (case hd => rfl); (case hg => rfl); (case hr => first | (go_simp; done) | (go_simp; rfl)); (case hp => exact (Reps.one (show Kd.M Kd.bool _ _ _ true [.bool true] from rfl) (Reps.one (show Kd.M Kd.bool _ _ _ false [.bool false] from rfl) (Reps.none _ _)))); intro cn w9 aG hb hg_ hnew_; clear hg_ hnew_; (first | rw [← a8.1] at aG | (simp only [Int.reduceToNat] at aG; rw [← a8.1] at aG)); have _ := Q_ (Kd.S_below (ps_ ay.1) hb); have _ := Q_ (Kd.R_lower aG (below_size (pb2_ HB.1 q.1 t.1))); have _ := Q_ (bb_ a.1 hb); have _ := Q_ (bb_ b.1 hb); have _ := Q_ (below_step (pb2_ HB.1 q.1 t.1) hb); clear ay a b HB; rename_i ay a1 a b HB; clear hb aG; obtain ⟨bQ, bb, bV⟩ := Kd.R_slice a1.1; subst bV))
 (try simp only [Act.put, s1_, s2_, s3_])
 go_loopg [9, 20] k (fun kq v9 ci w' => ∃ (ap : List (List Int)) (s : Int), ci = .int .i64 s ∧ Aside0 (impl_NextPairs.l0 kq a2 a3 ap i (i.length : Int) s A x m z u j = some r) ∧ Aside0 (kq ≤ k) ∧ Aside0 (Kd.S (Kd.slice 3 (Kd.int .i64)) 39 w' w.heap.size (fun _ => True) v9 ap) ∧ Aside0 (Kd.R Kd.bool 4 w' w.heap.size (fun _ => True) (.slice bQ i.length bb) i) ∧ Aside0 (w'.heap[E]? = some (.cells #[.int .i64 A, (.slice J x.length O), (.slice ae m.length P)] 34 (0, 0))) ∧ Aside0 (w'.heap[F]? = some (.cells #[.int .i64 z, (.slice L u.length Q), (.slice af j.length T)] 34 (0, 0))) ∧ Aside0 (Below w.heap.size w w'))
 case atStart => exact ⟨(bq), (0), el_, H', ⟨Nat.le_refl _⟩, ⟨ps_ ay.1⟩, ⟨pr_ a1.1⟩, ⟨pk_ a.1⟩, ⟨pk_ b.1⟩, ⟨pb2_ HB.1 q.1 t.1⟩⟩
 clear H'
 obtain ⟨ap, s, rfl, HA, ax, d, c, a, b, HB⟩ := hrel
 rcases gk with _ | k1
 ·exact absurd HA.1 (by simp [impl_NextPairs.l0])
 have H := HA.1
 clear HA
 simp only [impl_NextPairs.l0] at H
 by_cases aR : s < (i.length : Int)
 rotate_left
 ·rw [if_neg aR] at H
  have bN := decide_eq_false aR
  clear aR
  obtain rfl := Option.some.inj H
  go_wp2
  go_ret
  exact ⟨_, er_, ps_ d.1, pb2_ HB.1 q.1 t.1⟩
 rw [if_pos aR] at H
 have bN := decide_eq_true aR
 clear aR
 by_cases br : 0 ≤ s
 rotate_left
 ·rw [if_neg br] at H
  exact nn_ H
 rw [if_pos br] at H
 have b4 := decide_eq_true br
 clear br
 by_cases bs : s < (i.length : Int)
 rotate_left
 ·rw [if_neg bs] at H
  exact nn_ H
 rw [if_pos bs] at H
 have b5 := decide_eq_true bs
 clear bs
 obtain ⟨bp, b0, H⟩ := bs_ H
 (try dsimp only at H)
 have aY := Q_ H
 clear H
 have bh : 0 ≤ (s : Int) := dt_
 have bl : s < (i.length : Int) := dt_
 obtain ⟨ba, bR, bX⟩ := Kd.at_bool (Kd.R_reads' c.1).2.2 s bh bl
 cases bR
 replace bh := eq_true bh
 replace bl := eq_true bl
 have ce := ad.1
 have cg := ar.1
 have cc := bc3_ a.1
 go_upto_if 28 with (first | ((with_reducible refine gate_callee (f := 81) rfl ?_); refine gl_ (some 26) Try.func81 #[.agg #[.int .i64 A, .slice J x.length O, .slice ae m.length P], .int .i64 a2, .bool true] ?_; (with_reducible refine (impl_MovesFrom.calls k1 A _ _ x _ _ m a2 true bp _ (cb_ a5 HB) aW.1 (cb_ aJ HB) aX.1 b0.1).mono ?_); rintro e cs ⟨co, rfl, aE, hb⟩; refine ⟨_, rfl, ?_⟩; have _ := Q_ (Kd.S_elder' (ps_ d.1) (Kd.R_base aE) hb); have _ := Q_ (Kd.R_below (pr_ c.1) hb); have _ := Q_ (Kd.R_lower aE (below_size (pb2_ HB.1 q.1 t.1))); have _ := Q_ (bb_ a.1 hb); have _ := Q_ (bb_ b.1 hb); have _ := Q_ (below_step (pb2_ HB.1 q.1 t.1) hb); clear d c a b HB; rename_i d c aq a b HB; (try clear hb aE)))
 (try simp only [Act.put, s1_, s2_, s3_])
 go_cut [12] (fun bZ wc => ∃ (kq : Nat) (l : List Int), Aside0 (impl_NextPairs.j1 kq a2 a3 ap (rdOf false i s) l i (i.length : Int) s A x m z u j = some r) ∧ Aside0 (kq ≤ k1) ∧ Aside0 (Kd.S (Kd.slice 3 (Kd.int .i64)) 39 wc w.heap.size (fun k_ => some k_ ≠ (bZ : Value).ownBlock) u9 ap) ∧ Aside0 (Kd.R (Kd.int .i64) 3 wc w.heap.size (fun _ => True) bZ l) ∧ Aside0 (Kd.R Kd.bool 4 wc w.heap.size (fun _ => True) (.slice (some ba) i.length bb) i) ∧ Aside0 (wc.heap[E]? = some (.cells #[.int .i64 A, (.slice J x.length O), (.slice ae m.length P)] 34 (0, 0))) ∧ Aside0 (wc.heap[F]? = some (.cells #[.int .i64 z, (.slice L u.length Q), (.slice af j.length T)] 34 (0, 0))) ∧ Aside0 (Below w.heap.size w wc))
 case first =>
  have H := aY.1
  clear aY
  obtain ⟨aN, hbq20⟩ : ∃ b_ : Bool, b_ = (rdOf false i s) := ⟨_, rfl⟩
  replace H : (if aN = true then (impl_NextPairs.j1 k1 a2 a3 ap aN bp i (i.length : Int) s A x m z u j) else ((impl_MovesFrom.f k1 z u j a3 true).bind fun aQ => (impl_NextPairs.j1 k1 a2 a3 ap aN aQ i (i.length : Int) s A x m z u j))) = some r := by rw [← hbq20] at H; exact H
  have au := Q_ hbq20
  clear hbq20
  (try rw [← au.1])
  by_cases bt : aN = true
  ·subst bt
   rw [if_pos rfl] at H
   have H' := Q_ H
   clear H
   go_wp2
   refine Met.intro ?_; go_step; (try rw [← au.1]); (repeat apply Exists.intro); refine ⟨?rel, rfl⟩
   case rel => (try rw [← au.1]); exact ⟨_, (bp), H', ⟨by have := ax.1; first | omega | exact Nat.le_refl _⟩, ⟨ps_ (Kd.S_mono d.1 (fun _ hk => hk.2))⟩, ⟨pr_ aq.1⟩, ⟨pr_ c.1⟩, ⟨pk_ a.1⟩, ⟨pk_ b.1⟩, ⟨pb2_ HB.1 q.1 t.1⟩⟩
  replace bt := bf_ bt
  subst bt
  rw [if_neg ff_] at H
  obtain ⟨aQ, b1, H⟩ := bs_ H
  (try dsimp only at H)
  have H' := Q_ H
  clear H
  have cf := ar.1
  have ch := ad.1
  have cd := bc3_ b.1
  go_wp2_with (first | ((with_reducible refine gate_callee (f := 81) rfl ?_); refine gl_ (some 31) Try.func81 #[.agg #[.int .i64 z, .slice L u.length Q, .slice af j.length T], .int .i64 a3, .bool true] ?_; (with_reducible refine (impl_MovesFrom.calls k1 z _ _ u _ _ j a3 true aQ _ (cb_ a6 HB) aZ.1 (cb_ aK HB) a0.1 b1.1).mono ?_); rintro e ct ⟨cp, rfl, aE, hb⟩; refine ⟨_, rfl, ?_⟩; have _ := Q_ (Kd.S_elder' (ps_ d.1) (Kd.R_base aE) hb); have _ := Q_ (Kd.R_below (pr_ c.1) hb); have _ := Q_ (Kd.R_elder' (pr_ aq.1) (Kd.R_base aE) hb); have _ := Q_ (Kd.R_lower (Kd.R_new' aE (Kd.R_lt (pr_ aq.1))) (below_size (pb2_ HB.1 q.1 t.1))); have _ := Q_ (bb_ a.1 hb); have _ := Q_ (bb_ b.1 hb); have _ := Q_ (below_step (pb2_ HB.1 q.1 t.1) hb); clear d c aq a b HB; rename_i d c aq bJ a b HB; (try clear hb aE)))
  refine Met.intro ?_; go_step; (try rw [← au.1]); (repeat apply Exists.intro); refine ⟨?rel, rfl⟩
  case rel => (try rw [← au.1]); exact ⟨_, (aQ), H', ⟨by have := ax.1; first | omega | exact Nat.le_refl _⟩, ⟨ps_ (Kd.S_mono d.1 (fun _ hk => hk.2))⟩, ⟨pr_ (Kd.R_mono bJ.1 (fun _ hk => trivial))⟩, ⟨pr_ c.1⟩, ⟨pk_ a.1⟩, ⟨pk_ b.1⟩, ⟨pb2_ HB.1 q.1 t.1⟩⟩
 clear aY
 obtain ⟨kq, l, HA, ao, d, a4, c, a, b, HB⟩ := hcut
 rcases kq with _ | kj15
 ·exact absurd HA.1 (by simp [impl_NextPairs.j1])
 have H := HA.1
 clear HA
 simp only [impl_NextPairs.j1] at H
 have H' := Q_ H
 clear H
 obtain ⟨bC, aD, bW⟩ := Kd.R_slice a4.1
 subst bW
 go_wp2
 go_loopg [9, 34] kj15 (fun kq v9 cj w' => ∃ (ac : List (List Int)) (y : Int), cj = .int .i64 y ∧ Aside0 (impl_NextPairs.l1 kq a2 a3 ac (rdOf false i s) i (i.length : Int) s l (l.length : Int) y A x m z u j = some r) ∧ Aside0 (kq ≤ kj15) ∧ Aside0 (Kd.S (Kd.slice 3 (Kd.int .i64)) 39 w' w.heap.size (fun k_ => some k_ ≠ ((.slice bC l.length aD) : Value).ownBlock) v9 ac) ∧ Aside0 (Kd.R Kd.bool 4 w' w.heap.size (fun _ => True) (.slice (some ba) i.length bb) i) ∧ Aside0 (Kd.R (Kd.int .i64) 3 w' w.heap.size (fun _ => True) (.slice bC l.length aD) l) ∧ Aside0 (w'.heap[E]? = some (.cells #[.int .i64 A, (.slice J x.length O), (.slice ae m.length P)] 34 (0, 0))) ∧ Aside0 (w'.heap[F]? = some (.cells #[.int .i64 z, (.slice L u.length Q), (.slice af j.length T)] 34 (0, 0))) ∧ Aside0 (Below w.heap.size w w'))
 case atStart => exact ⟨(ap), (0), el_, H', ⟨Nat.le_refl _⟩, ⟨ps_ d.1⟩, ⟨pr_ c.1⟩, ⟨pr_ a4.1⟩, ⟨pk_ a.1⟩, ⟨pk_ b.1⟩, ⟨pb2_ HB.1 q.1 t.1⟩⟩
 clear H'
 obtain ⟨ac, y, rfl, HA, aA, d, c, p, a, b, HB⟩ := hrel
 rcases gk with _ | k3
 ·exact absurd HA.1 (by simp [impl_NextPairs.l1])
 have H := HA.1
 clear HA
 simp only [impl_NextPairs.l1] at H
 by_cases aT : y < (l.length : Int)
 rotate_left
 ·rw [if_neg aT] at H
  have bO := decide_eq_false aT
  clear aT
  have H' := Q_ H
  clear H
  go_wp2
  go_roundg k3
  case measure => have := ax.1; have := ao.1; have := aA.1; omega
  case rel => exact ⟨(ac), (wrap64 (s + 1)), el_, H', ⟨by have := ax.1; have := ao.1; have := aA.1; omega⟩, ⟨ps_ (Kd.S_mono d.1 (fun _ hk => trivial))⟩, ⟨pr_ c.1⟩, ⟨pk_ a.1⟩, ⟨pk_ b.1⟩, ⟨pb2_ HB.1 q.1 t.1⟩⟩
 rw [if_pos aT] at H
 have bO := decide_eq_true aT
 clear aT
 by_cases bu : 0 ≤ y
 rotate_left
 ·rw [if_neg bu] at H
  exact nn_ H
 rw [if_pos bu] at H
 have b6 := decide_eq_true bu
 clear bu
 by_cases bv : y < (l.length : Int)
 rotate_left
 ·rw [if_neg bv] at H
  exact nn_ H
 rw [if_pos bv] at H
 have b7 := decide_eq_true bv
 clear bv
 obtain ⟨B, b2, H⟩ := bs_ H
 (try dsimp only at H)
 obtain ⟨D, b3, H⟩ := bs_ H
 (try dsimp only at H)
 have HS_ := Q_ H
 clear H
 have bi : 0 ≤ (y : Int) := dt_
 have bm : y < (l.length : Int) := dt_
 obtain ⟨aM, bS, bY⟩ := Kd.at_int (Kd.R_reads' p.1).2.2 y bi bm
 cases bS
 replace bi := eq_true bi
 replace bm := eq_true bm
 try go_wp2
 have _ := Q_ (Kd.S_drew d.1)
 have _ := Q_ (Kd.R_drew c.1)
 have _ := Q_ (Kd.R_drew p.1)
 have _ := Q_ (blk_drew a.1)
 have _ := Q_ (blk_drew b.1)
 have _ := Q_ (below_drew1 HB.1)
 clear d c p a b HB
 rename_i d c p a b HB
 refine start_ (n := 13) (S := fun w' => w'.cell? ⟨E, 0, none⟩ = some (.int .i64 A) ∧ w'.cell? ⟨E, 1, none⟩ = some (.slice J x.length O) ∧ w'.cell? ⟨E, 2, none⟩ = some (.slice ae m.length P) ∧ w'.cell? ⟨F, 0, none⟩ = some (.int .i64 z) ∧ w'.cell? ⟨F, 1, none⟩ = some (.slice L u.length Q) ∧ w'.cell? ⟨F, 2, none⟩ = some (.slice af j.length T)) (ds := []) (tf_ 0 13) (by kernel_rfl) rfl rfl ⟨(blk_cell a.1 0).trans rfl, (blk_cell a.1 1).trans rfl, (blk_cell a.1 2).trans rfl, (blk_cell b.1 0).trans rfl, (blk_cell b.1 1).trans rfl, (blk_cell b.1 2).trans rfl⟩ (fun hHeld => ?_); refine with_tabW impl_NextPairs.tab11 impl_NextPairs.bits11 (fun HT_ HW_ => ?_)
 generalize wr.drew = cu at d c p a b HB hHeld ⊢
 refine pu1_ 1 39 13 2 ?_
 refine pu1_ 2 40 13 6 ?_
 refine pu1_ 3 41 13 14 ?_
 refine pu1_ 6 44 13 78 ?_
 refine pu1_ 7 45 13 206 ?_
 refine pu1_ 8 46 13 462 ?_
 refine pu1_ 9 47 13 974 ?_
 refine ta1_ 0 38 13 975 hHeld ?_
 refine ta1_ 5 43 13 1007 hHeld ?_
 refine on_ 4 (some 42) (tf_ 10 13) HT_ (fun K hK => ?_)
 refine goes_ Try.func94 (by kernel_rfl) rfl #[.agg #[.int .i64 A, .slice J x.length O, .slice ae m.length P], .int .i64 a2, .bool (rdOf false i s), .int .i64 (rd l y)] (by rfl) rfl rfl mp_ ?_
 with_reducible refine (impl_MoveOf.calls k3 A _ _ x _ _ m a2 (rdOf false i s) (rd l y) B _ (cb_ a5 HB) aW.1 (cb_ aJ HB) aX.1 b2.1).mono ?_
 rintro e cv ⟨rfl, hb⟩
 refine ⟨_, rfl, ?_⟩
 have _ := Q_ (Kd.S_below (ps_ d.1) hb)
 have _ := Q_ (Kd.R_below (pr_ c.1) hb)
 have _ := Q_ (Kd.R_below (pr_ p.1) hb)
 have _ := Q_ (bb_ a.1 hb)
 have _ := Q_ (bb_ b.1 hb)
 have _ := Q_ (below_step (pb2_ HB.1 q.1 t.1) hb)
 clear d c p a b HB
 rename_i d c p a b HB
 (try clear hb)
 refine hK.out _ _ ⟨(blk_cell a.1 0).trans rfl, (blk_cell a.1 1).trans rfl, (blk_cell a.1 2).trans rfl, (blk_cell b.1 0).trans rfl, (blk_cell b.1 1).trans rfl, (blk_cell b.1 2).trans rfl⟩ (fun hHeld => ?_)
 clear hK K
 refine no_ (some 42) ?_
 refine on_ 10 (some 48) (tf_ 11 13) HT_ (fun K hK => ?_)
 refine goes_ Try.func94 (by kernel_rfl) rfl #[.agg #[.int .i64 z, .slice L u.length Q, .slice af j.length T], .int .i64 a3, .bool (!(rdOf false i s)), .int .i64 (rd l y)] (by rfl) rfl rfl mp_ ?_
 with_reducible refine (impl_MoveOf.calls k3 z _ _ u _ _ j a3 (!(rdOf false i s)) (rd l y) D _ (cb_ a6 HB) aZ.1 (cb_ aK HB) a0.1 b3.1).mono ?_
 rintro e cl ⟨rfl, hb⟩
 refine ⟨_, rfl, ?_⟩
 have _ := Q_ (Kd.S_below (ps_ d.1) hb)
 have _ := Q_ (Kd.R_below (pr_ c.1) hb)
 have _ := Q_ (Kd.R_below (pr_ p.1) hb)
 have _ := Q_ (bb_ a.1 hb)
 have _ := Q_ (bb_ b.1 hb)
 have _ := Q_ (below_step (pb2_ HB.1 q.1 t.1) hb)
 clear d c p a b HB
 rename_i d c p a b HB
 (try clear hb)
 refine hK.out _ _ ⟨(blk_cell a.1 0).trans rfl, (blk_cell a.1 1).trans rfl, (blk_cell a.1 2).trans rfl, (blk_cell b.1 0).trans rfl, (blk_cell b.1 1).trans rfl, (blk_cell b.1 2).trans rfl⟩ (fun hHeld => ?_)
 clear hK K
 refine no_ (some 48) ?_
 refine pu1_ 11 15 13 4095 ?_
 refine pu1_ 12 16 13 8191 ?_
 refine done_ (done_of HT_.1 (by kernel_rfl)) ?_
 go_upto_region 12 with (fail)
 have H := HS_.1
 clear HS_
 by_cases aU : B ≥ 0
 rotate_left
 ·rw [if_neg aU] at H
  have av := decide_eq_false aU
  clear aU
  (first | rw [av] | (simp only [i64_w, i32_w]; rw [av]) | skip)
  have H' := Q_ H
  clear H
  go_wp2
  go_roundg k3
  case measure => have := ax.1; have := ao.1; have := aA.1; omega
  case rel => exact ⟨(ac), (wrap64 (y + 1)), el_, H', ⟨by have := ax.1; have := ao.1; have := aA.1; omega⟩, ⟨ps_ d.1⟩, ⟨pr_ c.1⟩, ⟨pr_ p.1⟩, ⟨pk_ a.1⟩, ⟨pk_ b.1⟩, ⟨pb2_ HB.1 q.1 t.1⟩⟩
 rw [if_pos aU] at H
 have av := decide_eq_true aU
 clear aU
 (first | rw [av] | (simp only [i64_w, i32_w]; rw [av]) | skip)
 by_cases aV : D ≥ 0
 rotate_left
 ·rw [if_neg aV] at H
  have bP := decide_eq_false aV
  clear aV
  have H' := Q_ H
  clear H
  go_wp2
  go_roundg k3
  case measure => have := ax.1; have := ao.1; have := aA.1; omega
  case rel => exact ⟨(ac), (wrap64 (y + 1)), el_, H', ⟨by have := ax.1; have := ao.1; have := aA.1; omega⟩, ⟨ps_ d.1⟩, ⟨pr_ c.1⟩, ⟨pr_ p.1⟩, ⟨pk_ a.1⟩, ⟨pk_ b.1⟩, ⟨pb2_ HB.1 q.1 t.1⟩⟩
 rw [if_pos aV] at H
 have bP := decide_eq_true aV
 clear aV
 by_cases bw : 0 ≤ B
 rotate_left
 ·rw [if_neg bw] at H
  exact nn_ H
 rw [if_pos bw] at H
 have b8 := decide_eq_true bw
 clear bw
 by_cases bx : B < (m.length : Int)
 rotate_left
 ·rw [if_neg bx] at H
  exact nn_ H
 rw [if_pos bx] at H
 have b9 := decide_eq_true bx
 clear bx
 by_cases bz : 0 ≤ D
 rotate_left
 ·rw [if_neg bz] at H
  exact nn_ H
 rw [if_pos bz] at H
 have ca := decide_eq_true bz
 clear bz
 by_cases bA : D < (j.length : Int)
 rotate_left
 ·rw [if_neg bA] at H
  exact nn_ H
 rw [if_pos bA] at H
 have cb := decide_eq_true bA
 clear bA
 obtain ⟨aH, hy171⟩ : ∃ y_ : List Int, y_ = (([(rd_T78 m B).f3, (rd_T78 j D).f3] : List Int)) := ⟨_, rfl⟩
 replace H : (if ac.length < 5864062014805 then (impl_NextPairs.l1 k3 a2 a3 (ac ++ [aH]) (rdOf false i s) i (i.length : Int) s l (l.length : Int) (wrap64 (y + 1)) A x m z u j) else (none)) = some r := hb_ hy171 H
 have a9 := Q_ hy171
 clear hy171
 by_cases bB : ac.length < 5864062014805
 rotate_left
 ·rw [if_neg bB] at H
  exact nn_ H
 rw [if_pos bB] at H
 have bL := Q_ bB
 clear bB
 obtain ⟨bG, hy174⟩ : ∃ y_ : List (List Int), y_ = (ac ++ [aH]) := ⟨_, rfl⟩
 replace H : (impl_NextPairs.l1 k3 a2 a3 bG (rdOf false i s) i (i.length : Int) s l (l.length : Int) (wrap64 (y + 1)) A x m z u j) = some r := hb_ hy174 H
 have bM := Q_ hy174
 clear hy174
 have H' := Q_ H
 clear H
 try go_wp2
 have _ := Q_ (Kd.S_drew d.1)
 have _ := Q_ (Kd.R_drew c.1)
 have _ := Q_ (Kd.R_drew p.1)
 have _ := Q_ (blk_drew a.1)
 have _ := Q_ (blk_drew b.1)
 have _ := Q_ (below_drew1 HB.1)
 clear d c p a b HB
 rename_i d c p a b HB
 have bj : 0 ≤ (B : Int) := dt_
 have bn : B < (m.length : Int) := dt_
 obtain ⟨G, bT, ag, ah, ai, aj⟩ := at_T78 aJ.1 B bj bn
 have X := aj
 have W := ai
 have V := ah
 have U := ag
 cases bT
 replace ag := bt_ HB ag
 replace ah := bt_ HB ah
 replace ai := bt_ HB ai
 replace aj := bt_ HB aj
 replace bj := eq_true bj
 replace bn := eq_true bn
 have bk : 0 ≤ (D : Int) := dt_
 have bo : D < (j.length : Int) := dt_
 obtain ⟨I, bU, ak, al, am, an⟩ := at_T78 aK.1 D bk bo
 have ab := an
 have aa := am
 have Z := al
 have Y := ak
 cases bU
 replace ak := bt_ HB ak
 replace al := bt_ HB al
 replace am := bt_ HB am
 replace an := bt_ HB an
 replace bk := eq_true bk
 replace bo := eq_true bo
 refine start_ (n := 17) (S := fun w' => w'.cell? ⟨E, 0, none⟩ = some (.int .i64 A) ∧ w'.cell? ⟨E, 1, none⟩ = some (.slice J x.length O) ∧ w'.cell? ⟨E, 2, none⟩ = some (.slice (some G) m.length P) ∧ w'.cell? ⟨F, 0, none⟩ = some (.int .i64 z) ∧ w'.cell? ⟨F, 1, none⟩ = some (.slice L u.length Q) ∧ w'.cell? ⟨F, 2, none⟩ = some (.slice (some I) j.length T) ∧ w'.cell? (G.add ((B).toNat * 4)) = some (.int .i64 ((rd_T78 m B).f0)) ∧ w'.cell? ⟨(G.add ((B).toNat * 4)).block, (G.add ((B).toNat * 4)).off + 1, none⟩ = some (.bool ((rd_T78 m B).f1)) ∧ w'.cell? ⟨(G.add ((B).toNat * 4)).block, (G.add ((B).toNat * 4)).off + 2, none⟩ = some (.int .i64 ((rd_T78 m B).f2)) ∧ w'.cell? ⟨(G.add ((B).toNat * 4)).block, (G.add ((B).toNat * 4)).off + 3, none⟩ = some (.int .i64 ((rd_T78 m B).f3)) ∧ w'.cell? (I.add ((D).toNat * 4)) = some (.int .i64 ((rd_T78 j D).f0)) ∧ w'.cell? ⟨(I.add ((D).toNat * 4)).block, (I.add ((D).toNat * 4)).off + 1, none⟩ = some (.bool ((rd_T78 j D).f1)) ∧ w'.cell? ⟨(I.add ((D).toNat * 4)).block, (I.add ((D).toNat * 4)).off + 2, none⟩ = some (.int .i64 ((rd_T78 j D).f2)) ∧ w'.cell? ⟨(I.add ((D).toNat * 4)).block, (I.add ((D).toNat * 4)).off + 3, none⟩ = some (.int .i64 ((rd_T78 j D).f3))) (ds := []) (tf_ 0 17) (by kernel_rfl) rfl rfl ⟨(blk_cell a.1 0).trans rfl, (blk_cell a.1 1).trans rfl, (blk_cell a.1 2).trans rfl, (blk_cell b.1 0).trans rfl, (blk_cell b.1 1).trans rfl, (blk_cell b.1 2).trans rfl, (bt_ HB U), (bt_ HB V), (bt_ HB W), (bt_ HB X), (bt_ HB Y), (bt_ HB Z), (bt_ HB aa), (bt_ HB ab)⟩ (fun hHeld => ?_); refine with_tabW impl_NextPairs.tab13 impl_NextPairs.bits13 (fun HT_ HW_ => ?_)
 generalize cl.drew = cw at d c p a b HB ag ah ai aj ak al am an hHeld ⊢
 refine pu1_ 0 55 17 1 ?_
 refine pu1_ 1 56 17 3 ?_
 refine pu1_ 3 58 17 11 ?_
 refine pu1_ 7 62 17 139 ?_
 refine pu1_ 9 64 17 651 ?_
 refine ta1_ 2 57 17 655 hHeld ?_
 refine pu1_ 4 59 17 671 ?_
 refine pu1_ 5 60 17 703 ?_
 refine ta1_ 6 61 17 767 hHeld ?_
 refine ta1_ 8 63 17 1023 hHeld ?_
 refine pu1_ 10 65 17 2047 ?_
 refine pu1_ 11 66 17 4095 ?_
 refine ta1_ 12 67 17 8191 hHeld ?_
 refine on_ 13 (some 68) (tf_ 14 17) HT_ (fun K hK => ?_)
 refine Kd.R_lit_step (Kd.int .i64) _ 3 ?hg (N := 68) ?hd (xs := ([(rd_T78 m B).f3, (rd_T78 j D).f3] : List Int)) (inner := [.int .i64 ((rd_T78 m B).f3), .int .i64 ((rd_T78 j D).f3)]) (ok := fun _ => True) (okp := fun _ => True) ?hr ?hp (fun _ hk => hk) trivial (Below.refl _ _) (Nat.le_refl _) (by simp) ?_; (case hd => rfl); (case hg => rfl); (case hr => first | (go_simp; done) | (go_simp; rfl)); (case hp => exact (Reps.one (show Kd.M (Kd.int .i64) _ _ _ ((rd_T78 m B).f3) [.int .i64 ((rd_T78 m B).f3)] from rfl) (Reps.one (show Kd.M (Kd.int .i64) _ _ _ ((rd_T78 j D).f3) [.int .i64 ((rd_T78 j D).f3)] from rfl) (Reps.none _ _))))
 intro cq cx aw hb hg_ hnew_
 clear hg_ hnew_
 (first | rw [← a9.1] at aw | (simp only [Int.reduceToNat] at aw; rw [← a9.1] at aw))
 have _ := Q_ (Kd.S_elder' (ps_ d.1) (Kd.R_base aw) hb)
 have _ := Q_ (Kd.R_below (pr_ c.1) hb)
 have _ := Q_ (Kd.R_elder' (pr_ p.1) (Kd.R_base aw) hb)
 have _ := Q_ (Kd.R_lower (Kd.R_new' aw (Kd.R_lt (pr_ p.1))) (below_size (pb2_ HB.1 q.1 t.1)))
 have _ := Q_ (bb_ a.1 hb)
 have _ := Q_ (bb_ b.1 hb)
 have _ := Q_ (below_step (pb2_ HB.1 q.1 t.1) hb)
 clear d c p a b HB
 rename_i d c p az a b HB
 clear hb aw
 obtain ⟨bD, bE, bF⟩ := Kd.R_slice az.1
 (first | subst bF | (injection bF with f1_ f2_ f3_; have f4_ := f1_.symm; have f5_ := f3_.symm; clear f1_ f2_ f3_; subst f4_; subst f5_))
 refine hK.out _ _ ⟨(blk_cell a.1 0).trans rfl, (blk_cell a.1 1).trans rfl, (blk_cell a.1 2).trans rfl, (blk_cell b.1 0).trans rfl, (blk_cell b.1 1).trans rfl, (blk_cell b.1 2).trans rfl, (bt_ HB U), (bt_ HB V), (bt_ HB W), (bt_ HB X), (bt_ HB Y), (bt_ HB Z), (bt_ HB aa), (bt_ HB ab)⟩ (fun hHeld => ?_)
 clear hK K
 refine no_ (some 68) ?_
 refine on_ 14 (some 69) (tf_ 15 17) HT_ (fun K hK => ?_)
 refine value_ (w1 := ?_) (v := ?_) (by rfl) rfl ?_ ?_
 rotate_left 2
 ·go_simp
  constructor
  ·rfl
  ·rfl
 refine hK.out _ _ ⟨(blk_cell (blk_alloc a.1 _) 0).trans rfl, (blk_cell (blk_alloc a.1 _) 1).trans rfl, (blk_cell (blk_alloc a.1 _) 2).trans rfl, (blk_cell (blk_alloc b.1 _) 0).trans rfl, (blk_cell (blk_alloc b.1 _) 1).trans rfl, (blk_cell (blk_alloc b.1 _) 2).trans rfl, (World.cell?_alloc_lt _ _ _ (World.block_lt_of_cell? _ _ ((bt_ HB U)))).trans ((bt_ HB U)), (World.cell?_alloc_lt _ _ _ (World.block_lt_of_cell? _ _ ((bt_ HB V)))).trans ((bt_ HB V)), (World.cell?_alloc_lt _ _ _ (World.block_lt_of_cell? _ _ ((bt_ HB W)))).trans ((bt_ HB W)), (World.cell?_alloc_lt _ _ _ (World.block_lt_of_cell? _ _ ((bt_ HB X)))).trans ((bt_ HB X)), (World.cell?_alloc_lt _ _ _ (World.block_lt_of_cell? _ _ ((bt_ HB Y)))).trans ((bt_ HB Y)), (World.cell?_alloc_lt _ _ _ (World.block_lt_of_cell? _ _ ((bt_ HB Z)))).trans ((bt_ HB Z)), (World.cell?_alloc_lt _ _ _ (World.block_lt_of_cell? _ _ ((bt_ HB aa)))).trans ((bt_ HB aa)), (World.cell?_alloc_lt _ _ _ (World.block_lt_of_cell? _ _ ((bt_ HB ab)))).trans ((bt_ HB ab))⟩ (fun hHeld => ?_)
 clear hK K
 refine no_ (some 69) ?_
 refine on_ 15 (some 70) (tf_ 16 17) HT_ (fun K hK => ?_)
 refine Kd.S_append_step (Kd.slice 3 (Kd.int .i64)) (w0 := w) w.heap.size (by rfl) (.tmp 55) (.tmp 69) 83 39 (.slice none 0 0) 24 rfl Try.underlying83 info39 rfl (by decide) (by omega) u9 ac aH [.slice bD aH.length bE] (fun k_ => some k_ ≠ (.slice (some aM) l.length aD : Value).ownBlock) (fun k_ => some k_ = (.slice bD aH.length bE : Value).ownBlock) rfl rfl ?aP (fun k_ hk_ => ((Kd.R_mono (ok' := fun k_ => ((fun k_ => some k_ ≠ (.slice (some aM) l.length aD : Value).ownBlock)) k_ ∧ some k_ ≠ (u9 : Value).ownBlock) (Kd.R_apart' (az.1) (Kd.S_typed d.1) (by decide)) (fun k_ hk => ⟨hk.1.2, hk.2⟩))).1 k_ hk_.symm) ?aF ?aO ?aB ?aS ?aL ?_
 (case aP => exact Kd.M_row (Kd.R_mono (Kd.R_tight rfl (Kd.R_mono (ok' := fun k_ => ((fun k_ => some k_ ≠ (.slice (some aM) l.length aD : Value).ownBlock)) k_ ∧ some k_ ≠ (u9 : Value).ownBlock) (Kd.R_apart' (az.1) (Kd.S_typed d.1) (by decide)) (fun k_ hk => ⟨hk.1.2, hk.2⟩))) (fun _ h_ => h_)))
 (case aB => exact (pb2_ HB.1 q.1 t.1))
 (case aF => exact (fun k_ hk => Kd.fresh' (Kd.R_lt (pr_ p.1)) k_ hk))
 (case aO => exact (by (with_reducible repeat (first | apply Kd.S_alloc | apply Kd.S_drewN | apply Kd.S_drew)); exact Kd.S_mono d.1 (fun k_ hk => ⟨hk.1, fun e_ => hk.2 e_⟩)))
 (case aS => exact (below_size (pb2_ HB.1 q.1 t.1)))
 (case aL => have := bL.1; omega)
 intro cr cy ho hb hg hat
 rw [← bM.1] at ho
 have _ := Q_ (Kd.R_over' (pr_ c.1) (Kd.S_typed (ps_ d.1)) (by decide) hg)
 have _ := Q_ (Kd.R_over' (pr_ p.1) (Kd.S_typed (ps_ d.1)) (by decide) hg)
 have _ := Q_ (blk_grown (g := E) (o := .cells #[.int .i64 A, .slice J x.length O, .slice (some G) m.length P] 34 (0, 0)) (pk_ a.1) hg (Kd.S_ne d.1 a.1 (by decide)))
 have _ := Q_ (blk_grown (g := F) (o := .cells #[.int .i64 z, .slice L u.length Q, .slice (some I) j.length T] 34 (0, 0)) (pk_ b.1) hg (Kd.S_ne d.1 b.1 (by decide)))
 have _ := Q_ (hb)
 have _ := Q_ (ho)
 clear c p a b HB d az
 rename_i c p a b HB bK
 clear ho hb hg hat
 refine hK.out _ _ ⟨(blk_cell a.1 0).trans rfl, (blk_cell a.1 1).trans rfl, (blk_cell a.1 2).trans rfl, (blk_cell b.1 0).trans rfl, (blk_cell b.1 1).trans rfl, (blk_cell b.1 2).trans rfl, (bt_ HB U), (bt_ HB V), (bt_ HB W), (bt_ HB X), (bt_ HB Y), (bt_ HB Z), (bt_ HB aa), (bt_ HB ab)⟩ (fun hHeld => ?_)
 clear hK K
 refine no_ (some 70) ?_
 refine pu1_ 16 9 17 131071 ?_
 refine done_ (done_of HT_.1 (by kernel_rfl)) ?_
 try go_wp2
 go_roundg k3
 case measure => have := ax.1; have := ao.1; have := aA.1; omega
 case rel => exact ⟨(bG), (wrap64 (y + 1)), el_, H', ⟨by have := ax.1; have := ao.1; have := aA.1; omega⟩, ⟨ps_ bK.1⟩, ⟨pr_ c.1⟩, ⟨pr_ (Kd.R_mono p.1 (fun _ hk => trivial))⟩, ⟨pk_ a.1⟩, ⟨pk_ b.1⟩, ⟨pb2_ HB.1 q.1 t.1⟩⟩

/-! ### impl_PairsOf_1: function 100003 -/
def impl_PairsOf_1.f (k : Nat) (i : Int) (j : Int) (a : Int) (c : List Bool) (d : List (S78)) (b : Int) (e : List Bool) (g : List (S78)) : Option ((List (List Int))) := (impl_NextPairs.f k a c d b e g i j).bind fun h => (some h)
theorem impl_PairsOf_1.mono : ∀ a b c d e g h i k, LeO (impl_PairsOf_1.f k a b c d e g h i) (impl_PairsOf_1.f (k + 1) a b c d e g h i) := by
 intro a b c d e g h i k
 unfold impl_PairsOf_1.f
 exact mo1_ impl_NextPairs.mono
theorem impl_PairsOf_1.calls (k : Nat) (O : Int) (P : Int) (B2 : Nat) (g : Int) (l : Option Addr) (p : Nat) (a : List Bool) (m : Option Addr) (q : Nat) (b : List (S78)) (B3 : Nat) (i : Int) (n : Option Addr) (s : Nat) (c : List Bool) (o : Option Addr) (t : Nat) (d : List (S78)) (r : List (List Int)) (w : World) (hr2_1 : Kd.C Kd.bool w l a.length a) (u : a.length ≤ p) (hr2_2 : Kd.C k78 w m b.length b) (v : b.length ≤ q) (hbv2 : w.heap[B2]? = some (.cells #[.int .i64 g, .slice l a.length p, .slice m b.length q] 34 (0, 0))) (hr3_1 : Kd.C Kd.bool w n c.length c) (x : c.length ≤ s) (hr3_2 : Kd.C k78 w o d.length d) (y : d.length ≤ t) (hbv3 : w.heap[B3]? = some (.cells #[.int .i64 i, .slice n c.length s, .slice o d.length t] 34 (0, 0))) (hnv2_3 : B2 ≠ B3) (h : impl_PairsOf_1.f k O P g a b i c d = some r) :
  Calls Try.prog 87 #[.int .i64 O, .int .i64 P, .pointer (some ⟨B2, 0, none⟩), .pointer (some ⟨B3, 0, none⟩)] w fun e w' => ∃ v0_ : Value, e = .returned (v0_) ∧ Kd.S (Kd.slice 3 (Kd.int .i64)) 39 w' w.heap.size (fun _ => True) v0_ r ∧ Below w.heap.size w w' := by
 have hu34 := Try.underlying34
 have I := Q_ hr2_1
 have B := Q_ u
 clear hr2_1 u
 have J := Q_ hr2_2
 have D := Q_ v
 clear hr2_2 v
 have K := Q_ hr3_1
 have E := Q_ x
 clear hr3_1 x
 have L := Q_ hr3_2
 have F := Q_ y
 clear hr3_2 y
 have z := Q_ hbv2
 clear hbv2
 have A := Q_ hbv3
 clear hbv3
 have M := Q_ hnv2_3
 have N := Q_ (Ne.symm hnv2_3)
 clear hnv2_3
 have HB := Q_ (Below.refl w.heap.size w)
 have H : ((impl_NextPairs.f k g a b i c d O P).bind fun j => (some j)) = some r := h
 clear h
 obtain ⟨j, X, H⟩ := bs_ H
 replace H : (some j) = some r := H
 obtain rfl := Option.some.inj H
 have U := M.1
 have V := N.1
 have R := bc3_ z.1
 have T := bc3_ A.1
 go_enter Try.func87, Try.ntmps87
 go_wp2_with (first | ((with_reducible refine gate_callee (f := 88) rfl ?_); refine gl_ (some 11) Try.func88 #[.agg #[.int .i64 g, .slice l a.length p, .slice m b.length q], .agg #[.int .i64 i, .slice n c.length s, .slice o d.length t], .int .i64 O, .int .i64 P] ?_; (with_reducible refine (impl_NextPairs.calls k g _ _ a _ _ b i _ _ c _ _ d O P j _ (pc_ I.1) B.1 (pc_ J.1) D.1 (pc_ K.1) E.1 (pc_ L.1) F.1 X.1).mono ?_); rintro e Y ⟨W, rfl, Q, hb⟩; refine ⟨_, rfl, ?_⟩; have _ := Q_ (Kd.S_lower Q (below_size (pb_ HB.1))); have _ := Q_ (bb_ z.1 hb); have _ := Q_ (bb_ A.1 hb); have _ := Q_ (below_step (pb_ HB.1) hb); clear z A HB; rename_i G z A HB; (try clear hb Q)))
 go_ret
 exact ⟨_, er_, ps_ G.1, pb_ HB.1⟩

/-! ### impl_reached_1: function 100006 -/
def impl_reached_1.f (k : Nat) (c : List Int) (a : List Int) : Option (Bool) := (slices_Equal_int_int.f k c a).bind fun b => (some b)
theorem impl_reached_1.mono : ∀ a b k, LeO (impl_reached_1.f k a b) (impl_reached_1.f (k + 1) a b) := by
 intro a b k
 unfold impl_reached_1.f
 exact mo1_ slices_Equal_int_int.mono
theorem impl_reached_1.calls (k : Nat) (q : Option Addr) (u : Nat) (i : List Int) (B1 : Nat) (b : Option Addr) (c : Nat) (a : List Int) (r : Bool) (w : World) (hr0 : Kd.C (Kd.int .i64) w q i.length i) (n : i.length ≤ u) (hr1_0 : Kd.C (Kd.int .i64) w b a.length a) (g : a.length ≤ c) (hbv1 : w.heap[B1]? = some (.cells #[.slice b a.length c] 39 (0, 0))) (h : impl_reached_1.f k i a = some r) :
  Calls Try.prog 92 #[.slice q i.length u, .pointer (some ⟨B1, 0, none⟩)] w fun e w' => e = .returned (.bool r) ∧ Drawn0 w w' := by
 have t := Q_ hr0
 have s := Q_ n
 clear hr0 n
 have l := Q_ hr1_0
 have j := Q_ g
 clear hr1_0 g
 have m := Q_ hbv1
 clear hbv1
 have H : ((slices_Equal_int_int.f k i a).bind fun d => (some d)) = some r := h
 clear h
 obtain ⟨d, v, H⟩ := bs_ H
 replace H : (some d) = some r := H
 obtain rfl := Option.some.inj H
 have o : w.cell? ⟨B1, 0, none⟩ = some (.slice b a.length c) := (blk_cell m.1 0).trans rfl
 have p := blk_frozen m.1 0
 go_enter Try.func92, Try.ntmps92
 go_wp2_with (first | ((with_reducible refine gate_callee (f := 93) rfl ?_); refine gl_ (some 6) Try.func93 #[.slice q i.length u, .slice b a.length c] ?_; (with_reducible refine (slices_Equal_int_int.calls k _ _ i _ _ a d _ (pc_ t.1) s.1 (pc_ l.1) j.1 v.1).mono ?_); rintro e w' ⟨rfl, ⟨nd, rfl⟩⟩; refine ⟨_, rfl, ?_⟩))
 go_ret
 exact ⟨by first | rfl | (simp; done) | (simp [*]; done), by repeat (first | exact Drawn0.refl _ | apply Drawn0.step)⟩

/-! ### slices_IndexFunc_int_int_with_impl_reached_1: function 100005 -/
def slices_IndexFunc_int_int_with_impl_reached_1.l0 : Nat → List (List Int) → Int → Int → List Int → Option (Int)
 | 0, _, _, _, _ => none
 | k + 1, d, e, b, a => if b < e then (if 0 ≤ b then (if b < (d.length : Int) then ((impl_reached_1.f k (rd_L3 d b) a).bind fun c => (if c = true then (some b) else (slices_IndexFunc_int_int_with_impl_reached_1.l0 k d e (wrap64 (b + 1)) a))) else (none)) else (none)) else (some (-1))
def slices_IndexFunc_int_int_with_impl_reached_1.f (k : Nat) (b : List (List Int)) (a : List Int) : Option (Int) := slices_IndexFunc_int_int_with_impl_reached_1.l0 k b (b.length : Int) 0 a
theorem slices_IndexFunc_int_int_with_impl_reached_1.mono_l : ∀ k, (∀ a b c d, LeO (slices_IndexFunc_int_int_with_impl_reached_1.l0 k a b c d) (slices_IndexFunc_int_int_with_impl_reached_1.l0 (k + 1) a b c d))
 | 0 => fun _ _ _ _ r h => by simp [slices_IndexFunc_int_int_with_impl_reached_1.l0] at h
 | k + 1 => by
  have ih0 := slices_IndexFunc_int_int_with_impl_reached_1.mono_l k
  ·intro a b c d
   unfold slices_IndexFunc_int_int_with_impl_reached_1.l0
   exact mo2_ ih0 impl_reached_1.mono
theorem slices_IndexFunc_int_int_with_impl_reached_1.mono : ∀ a b k, LeO (slices_IndexFunc_int_int_with_impl_reached_1.f k a b) (slices_IndexFunc_int_int_with_impl_reached_1.f (k + 1) a b) := by
 intro a b k
 have ih0 := slices_IndexFunc_int_int_with_impl_reached_1.mono_l k
 unfold slices_IndexFunc_int_int_with_impl_reached_1.f
 exact mo2_ ih0 impl_reached_1.mono
theorem slices_IndexFunc_int_int_with_impl_reached_1.calls (k : Nat) (L : Option Addr) (M : Nat) (l : List (List Int)) (B1 : Nat) (i : Option Addr) (j : Nat) (b : List Int) (r : Int) (w : World) (hr0 : Kd.C (Kd.slice 3 (Kd.int .i64)) w L l.length l) (B : l.length ≤ M) (hr1_0 : Kd.C (Kd.int .i64) w i b.length b) (o : b.length ≤ j) (hbv1 : w.heap[B1]? = some (.cells #[.slice i b.length j] 39 (0, 0))) (h : slices_IndexFunc_int_int_with_impl_reached_1.f k l b = some r) :
  Calls Try.prog 98 #[.slice L l.length M, .func (.func 92) #[] #[.pointer (some ⟨B1, 0, none⟩)]] w fun e w' => e = .returned (.int .i64 r) ∧ Below w.heap.size w w' := by
 have J := Q_ hr0
 have Q := Q_ B
 clear hr0 B
 have v := Q_ hr1_0
 have u := Q_ o
 clear hr1_0 o
 have s := Q_ hbv1
 clear hbv1
 have HB := Q_ (Below.refl w.heap.size w)
 have H : (slices_IndexFunc_int_int_with_impl_reached_1.l0 k l (l.length : Int) 0 b) = some r := h
 clear h
 have H' := Q_ H
 clear H
 go_enter Try.func98, Try.ntmps98
 go_wp2
 go_loopg [8] k (fun kq R w' => ∃ (a : Int), R = .int .i64 a ∧ Aside0 (slices_IndexFunc_int_int_with_impl_reached_1.l0 kq l (l.length : Int) a b = some r) ∧ Aside0 (kq ≤ k) ∧ Aside0 (w'.heap[B1]? = some (.cells #[(.slice i b.length j)] 39 (0, 0))) ∧ Aside0 (Below w.heap.size w w'))
 case atStart => exact ⟨(0), el_, H', ⟨Nat.le_refl _⟩, ⟨pk_ s.1⟩, ⟨pb_ HB.1⟩⟩
 clear H'
 obtain ⟨a, rfl, HA, y, s, HB⟩ := hrel
 rcases gk with _ | k1
 ·exact absurd HA.1 (by simp [slices_IndexFunc_int_int_with_impl_reached_1.l0])
 have H := HA.1
 clear HA
 simp only [slices_IndexFunc_int_int_with_impl_reached_1.l0] at H
 by_cases x : a < (l.length : Int)
 rotate_left
 ·rw [if_neg x] at H
  have z := decide_eq_false x
  clear x
  obtain rfl := Option.some.inj H
  go_wp2
  go_ret
  exact ⟨er_, pb_ HB.1⟩
 rw [if_pos x] at H
 have z := decide_eq_true x
 clear x
 by_cases F : 0 ≤ a
 rotate_left
 ·rw [if_neg F] at H
  exact nn_ H
 rw [if_pos F] at H
 have N := decide_eq_true F
 clear F
 by_cases G : a < (l.length : Int)
 rotate_left
 ·rw [if_neg G] at H
  exact nn_ H
 rw [if_pos G] at H
 have O := decide_eq_true G
 clear G
 obtain ⟨t, P, H⟩ := bs_ H
 (try dsimp only at H)
 have HS_ := Q_ H
 clear H
 have p : 0 ≤ (a : Int) := dt_
 have q : a < (l.length : Int) := dt_
 obtain ⟨K, D, E, A, g, d, c⟩ := at_L3 J.1 a p q
 cases A
 replace g := bt_ HB g
 have n := Q_ c
 have m := Q_ d
 clear c d
 replace p := eq_true p
 replace q := eq_true q
 go_upto_if 16 with (first | (go_at_call 92; (with_reducible refine (impl_reached_1.calls k1 _ _ (rd_L3 l a) _ i j b t _ (cb_ n HB) m.1 (cb_ v HB) u.1 ?side5 P.1).mono ?_); (case side5 => exact pk_ s.1); rintro e w' ⟨rfl, ⟨nd, rfl⟩⟩))
 (try simp only [Act.put, s1_, s2_, s3_])
 have H := HS_.1
 clear HS_
 by_cases I : t = true
 rotate_left
 ·replace I := bf_ I
  subst I
  rw [if_neg ff_] at H
  have H' := Q_ H
  clear H
  go_wp2
  go_roundg k1
  case measure => have := y.1; omega
  case rel => exact ⟨(wrap64 (a + 1)), el_, H', ⟨by have := y.1; omega⟩, ⟨pk_ s.1⟩, ⟨pb_ HB.1⟩⟩
 subst I
 rw [if_pos rfl] at H
 obtain rfl := Option.some.inj H
 go_wp2
 go_ret
 exact ⟨er_, pb_ HB.1⟩

/-! ### slices_ContainsFunc_int_int_with_impl_reached_1: function 100004 -/
def slices_ContainsFunc_int_int_with_impl_reached_1.f (k : Nat) (c : List (List Int)) (a : List Int) : Option (Bool) := (slices_IndexFunc_int_int_with_impl_reached_1.f k c a).bind fun b => (some (decide (b ≥ 0)))
theorem slices_ContainsFunc_int_int_with_impl_reached_1.mono : ∀ a b k, LeO (slices_ContainsFunc_int_int_with_impl_reached_1.f k a b) (slices_ContainsFunc_int_int_with_impl_reached_1.f (k + 1) a b) := by
 intro a b k
 unfold slices_ContainsFunc_int_int_with_impl_reached_1.f
 exact mo1_ slices_IndexFunc_int_int_with_impl_reached_1.mono
theorem slices_ContainsFunc_int_int_with_impl_reached_1.calls (k : Nat) (q : Option Addr) (s : Nat) (m : List (List Int)) (B1 : Nat) (c : Option Addr) (d : Nat) (a : List Int) (r : Bool) (w : World) (hr0 : Kd.C (Kd.slice 3 (Kd.int .i64)) w q m.length m) (n : m.length ≤ s) (hr1_0 : Kd.C (Kd.int .i64) w c a.length a) (g : a.length ≤ d) (hbv1 : w.heap[B1]? = some (.cells #[.slice c a.length d] 39 (0, 0))) (h : slices_ContainsFunc_int_int_with_impl_reached_1.f k m a = some r) :
  Calls Try.prog 91 #[.slice q m.length s, .func (.func 92) #[] #[.pointer (some ⟨B1, 0, none⟩)]] w fun e w' => e = .returned (.bool r) ∧ Below w.heap.size w w' := by
 have p := Q_ hr0
 have o := Q_ n
 clear hr0 n
 have l := Q_ hr1_0
 have j := Q_ g
 clear hr1_0 g
 have i := Q_ hbv1
 clear hbv1
 have HB := Q_ (Below.refl w.heap.size w)
 have H : ((slices_IndexFunc_int_int_with_impl_reached_1.f k m a).bind fun b => (some (decide (b ≥ 0)))) = some r := h
 clear h
 obtain ⟨b, t, H⟩ := bs_ H
 replace H : (some (decide (b ≥ 0))) = some r := H
 obtain rfl := Option.some.inj H
 go_enter Try.func91, Try.ntmps91
 go_wp2_with (first | (go_at_call 98; (with_reducible refine (slices_IndexFunc_int_int_with_impl_reached_1.calls k _ _ m _ c d a b _ (pc_ p.1) o.1 (pc_ l.1) j.1 ?side5 t.1).mono ?_); (case side5 => exact pk_ i.1); rintro e u ⟨rfl, hb⟩; have _ := Q_ (bb_ i.1 hb); have _ := Q_ (below_step (pb_ HB.1) hb); clear i HB; rename_i i HB; (try clear hb)))
 go_ret
 exact ⟨er_, pb_ HB.1⟩

end Go.Proofs.Ytldcchjbaglppaa.Print
