-- Written by a program of this session (printx.py) out of the translation; Lean checks it.
import Derived.Test.YtchnkakjjbfklaaPrint0
import Derived.Test.YtchnkakjjbfklaaPrint2
namespace Go.Proofs.Ytchnkakjjbfklaa.Print
open Go.RowKit Go.Proofs.YtchnkakjjbfklaaW.PrintWords Go.Proofs.YtchnkakjjbfklaaW.PrintLast Go.Proofs.YtchnkakjjbfklaaW.PrintMore Go.Proofs.Ytchnkakjjbfklaa.Short
attribute [local go_sem] max2_int min2_int max_two min_two max_three min_three max_four min_four   -- for this text's walks alone
set_option linter.unusedVariables false
set_option maxHeartbeats 8000000
set_option maxRecDepth 100000
set_option linter.unusedSimpArgs false

/-! ### spec_EqualEndpoints: function 17 -/
mutual
def spec_EqualEndpoints.j0 : Nat → Bool → List Int → List Int → List (S95) → Int → List Int → List Int → List (S95) → Int → Option (Bool)
 | 0, _, _, _, _, _, _, _, _, _ => none
 | k + 1, i, a, b, c, d, e, f, g, h => if i = true then (some false) else (spec_EqualEndpoints.l0 k 0 a b c d e f g h)
def spec_EqualEndpoints.l0 : Nat → Int → List Int → List Int → List (S95) → Int → List Int → List Int → List (S95) → Int → Option (Bool)
 | 0, _, _, _, _, _, _, _, _, _ => none
 | k + 1, h, c, d, a, i, e, g, b, j => if h < (a.length : Int) then (if 0 ≤ h then (if h < (b.length : Int) then ((spec_EqualBoxes.f k ((rd_T95 a h).f0) ((rd_T95 a h).f1) ((rd_T95 a h).f2) ((rd_T95 a h).f3) ((rd_T95 b h).f0) ((rd_T95 b h).f1) ((rd_T95 b h).f2) ((rd_T95 b h).f3)).bind fun l => (if l = true then (spec_EqualEndpoints.l0 k (wrap64 (h + 1)) c d a i e g b j) else (some false))) else (none)) else (none)) else ((spec_EqualInts.f k c e).bind fun m => (if m = true then ((spec_EqualInts.f k d g).bind fun n => (some n)) else (some false)))
end
def spec_EqualEndpoints.f (k : Nat) (e : List Int) (g : List Int) (c : List (S95)) (a : Int) (h : List Int) (i : List Int) (d : List (S95)) (b : Int) : Option (Bool) := if (c.length : Int) = (d.length : Int) then (spec_EqualEndpoints.j0 k (a != b) e g c a h i d b) else (spec_EqualEndpoints.j0 k true e g c a h i d b)
theorem spec_EqualEndpoints.mono_l : ∀ k, (∀ a b c d e f g i j, LeO (spec_EqualEndpoints.j0 k a b c d e f g i j) (spec_EqualEndpoints.j0 (k + 1) a b c d e f g i j)) ∧ (∀ a b c d e f g i j, LeO (spec_EqualEndpoints.l0 k a b c d e f g i j) (spec_EqualEndpoints.l0 (k + 1) a b c d e f g i j))
 | 0 => ⟨fun _ _ _ _ _ _ _ _ _ r h => by simp [spec_EqualEndpoints.j0] at h, fun _ _ _ _ _ _ _ _ _ r h => by simp [spec_EqualEndpoints.l0] at h⟩
 | k + 1 => by
  obtain ⟨ih0, ih1⟩ := spec_EqualEndpoints.mono_l k
  refine ⟨?_, ?_⟩
  ·intro a b c d e f g i j
   unfold spec_EqualEndpoints.j0
   exact mo4_ ih0 ih1 spec_EqualBoxes.mono spec_EqualInts.mono
  ·intro a b c d e f g i j
   unfold spec_EqualEndpoints.l0
   exact mo4_ ih0 ih1 spec_EqualBoxes.mono spec_EqualInts.mono
theorem spec_EqualEndpoints.mono : ∀ a b c d e g h i k, LeO (spec_EqualEndpoints.f k a b c d e g h i) (spec_EqualEndpoints.f (k + 1) a b c d e g h i) := by
 intro a b c d e g h i k
 obtain ⟨ih0, ih1⟩ := spec_EqualEndpoints.mono_l k
 unfold spec_EqualEndpoints.f
 exact mo4_ ih0 ih1 spec_EqualBoxes.mono spec_EqualInts.mono
def spec_EqualEndpoints.T6 : Bool × List (List Nat × List Nat) := (true, [([], []), ([0], [0]), ([], []), ([1, 2], [1, 2]), ([3], [3]), ([], []), ([5], [5]), ([], []), ([6, 7], [6, 7]), ([8], [8]), ([4, 9], [4, 9]), ([10], [10])])
def spec_EqualEndpoints.B6 : List Nat := [0, 1, 0, 7, 15, 0, 32, 0, 224, 480, 1023, 2047]
theorem spec_EqualEndpoints.tab6 : rtab .any (opsOf Try.f17 6) = spec_EqualEndpoints.T6 := by kernel_rfl
theorem spec_EqualEndpoints.bits6 : waitsOk spec_EqualEndpoints.T6.2 spec_EqualEndpoints.B6 = true := by kernel_rfl
theorem spec_EqualEndpoints.calls (k : Nat) (L : Option Addr) (O : Nat) (l : List Int) (Q : Option Addr) (T : Nat) (q : List Int) (Y : Option Addr) (U : Nat) (c : List (S95)) (t : Int) (M : Option Addr) (P : Nat) (m : List Int) (R : Option Addr) (V : Nat) (s : List Int) (Z : Option Addr) (W : Nat) (d : List (S95)) (u : Int) (r : Bool) (w : World) (hr0_0 : Kd.C (Kd.int .i64) w L l.length l) (aJ : l.length ≤ O) (hr0_1 : Kd.C (Kd.int .i64) w Q q.length q) (aK : q.length ≤ T) (hr0_2 : Kd.C k95 w Y c.length c) (aL : c.length ≤ U) (hr1_0 : Kd.C (Kd.int .i64) w M m.length m) (aM : m.length ≤ P) (hr1_1 : Kd.C (Kd.int .i64) w R s.length s) (aN : s.length ≤ V) (hr1_2 : Kd.C k95 w Z d.length d) (aO : d.length ≤ W) (h : spec_EqualEndpoints.f k l q c t m s d u = some r) :
  Calls Try.prog 17 #[.agg #[.slice L l.length O, .slice Q q.length T, .slice Y c.length U, .int .i64 t], .agg #[.slice M m.length P, .slice R s.length V, .slice Z d.length W, .int .i64 u]] w fun e w' => e = .returned (.bool r) ∧ Below w.heap.size w w' := by
 have hu50 := Try.underlying50
 have hu95 := Try.underlying95
 have aF := Q_ hr0_0
 have az := Q_ aJ
 clear hr0_0 aJ
 have a5 := Q_ hr0_1
 have a2 := Q_ aK
 clear hr0_1 aK
 have a6 := Q_ hr0_2
 have bi := Q_ aL
 clear hr0_2 aL
 have aG := Q_ hr1_0
 have aE := Q_ aM
 clear hr1_0 aM
 have a7 := Q_ hr1_1
 have a3 := Q_ aN
 clear hr1_1 aN
 have a8 := Q_ hr1_2
 have bj := Q_ aO
 clear hr1_2 aO
 have HB := Q_ (Below.refl w.heap.size w)
 have H : (if (c.length : Int) = (d.length : Int) then (spec_EqualEndpoints.j0 k (t != u) l q c t m s d u) else (spec_EqualEndpoints.j0 k true l q c t m s d u)) = some r := h
 clear h
 have a4 := Q_ H
 clear H
 go_enter Try.func17, Try.ntmps17
 go_upto_region 1 with (first | ((with_reducible refine gate_dst (N := 2) rfl ?_); refine bx_ 2 #[.slice L l.length O, .slice Q q.length T, .slice Y c.length U, .int .i64 t] 50 ?_; intro I hg w4 hbox hb; have _ := Q_ (below_step (pb_ HB.1) hb); have b := Q_ (hbox); have a0 := Q_ (gw_ (w := w) hg (pb_ HB.1)); have i := a0; clear HB; rename_i HB; clear hb hbox hg) | ((with_reducible refine gate_dst (N := 3) rfl ?_); refine bx_ 3 #[.slice M m.length P, .slice R s.length V, .slice Z d.length W, .int .i64 u] 50 ?_; intro J hg w5 hbox hb; have _ := Q_ (bb_ b.1 hb); have _ := Q_ (below_step (pb1_ HB.1 i.1) hb); have g := Q_ (hbox); have a1 := Q_ (gw_ (w := w) hg (pb1_ HB.1 i.1)); have o := a1; have j := Q_ (nb_ hg b); have p := Q_ j.1.symm; clear b HB; rename_i b HB; clear hb hbox hg))
 (try simp only [Act.put, s1_, s2_, s3_])
 go_cut [19] (fun bC wc => ∃ (kq : Nat) (X : Bool), bC = .bool X ∧ Aside0 (spec_EqualEndpoints.j0 kq X l q c t m s d u = some r) ∧ Aside0 (kq ≤ k) ∧ Aside0 (wc.heap[I]? = some (.cells #[(.slice L l.length O), (.slice Q q.length T), (.slice Y c.length U), .int .i64 t] 50 (0, 0))) ∧ Aside0 (wc.heap[J]? = some (.cells #[(.slice M m.length P), (.slice R s.length V), (.slice Z d.length W), .int .i64 u] 50 (0, 0))) ∧ Aside0 (Below w.heap.size w wc))
 case first =>
  have H := a4.1
  clear a4
  by_cases c6 : (c.length : Int) = (d.length : Int)
  rotate_left
  ·rw [if_neg c6] at H
   have ae : ((c.length : Int) == (d.length : Int)) = false := beq_eq_false_iff_ne.mpr c6
   have af : ((c.length : Int) != (d.length : Int)) = true := bne_iff_ne.mpr c6
   have aI : (c.length == d.length) = false := by first | simpa using c6 | (simp at c6 ⊢; omega)
   (first | rw [ae] | (simp only [i64_w, i32_w]; rw [ae]) | rw [af] | (have c_ := af; rw [bne] at c_; rw [c_]; clear c_) | rw [aI] | skip)
   have H' := Q_ H
   clear H
   have bF := j.1
   have bG := p.1
   have bD := bc4_ b.1
   have bE := bc4_ g.1
   go_wp2
   go_meet
   case rel => exact ⟨_, (true), el_, H', ⟨by first | omega | exact Nat.le_refl _⟩, ⟨pk_ b.1⟩, ⟨pk_ g.1⟩, ⟨pb2_ HB.1 i.1 o.1⟩⟩
  rw [if_pos c6] at H
  have ae : ((c.length : Int) == (d.length : Int)) = true := beq_iff_eq.mpr c6
  have af : ((c.length : Int) != (d.length : Int)) = false := bne_eq_false_iff_eq.mpr c6
  have aI : (c.length == d.length) = true := by first | simpa using c6 | (simp at c6 ⊢; omega)
  clear c6
  (first | rw [ae] | (simp only [i64_w, i32_w]; rw [ae]) | rw [af] | (have c_ := af; rw [bne] at c_; rw [c_]; clear c_) | rw [aI] | skip)
  have H' := Q_ H
  clear H
  have bt := j.1
  have bx := p.1
  have bm := bc4_ b.1
  have bn := bc4_ g.1
  go_wp2
  go_meet
  case rel => exact ⟨_, ((t != u)), el_, H', ⟨by first | omega | exact Nat.le_refl _⟩, ⟨pk_ b.1⟩, ⟨pk_ g.1⟩, ⟨pb2_ HB.1 i.1 o.1⟩⟩
 clear a4
 obtain ⟨kq, X, rfl, HA, bb, b, g, HB⟩ := hcut
 rcases kq with _ | kj2
 ·exact absurd HA.1 (by simp [spec_EqualEndpoints.j0])
 have H := HA.1
 clear HA
 simp only [spec_EqualEndpoints.j0] at H
 by_cases aT : X = true
 rotate_left
 ·replace aT := bf_ aT
  subst aT
  rw [if_neg ff_] at H
  have H' := Q_ H
  clear H
  go_wp2
  go_loopg [5] kj2 (fun kq v5 w' => ∃ (a : Int), v5 = .int .i64 a ∧ Aside0 (spec_EqualEndpoints.l0 kq a l q c t m s d u = some r) ∧ Aside0 (kq ≤ kj2) ∧ Aside0 (w'.heap[I]? = some (.cells #[(.slice L l.length O), (.slice Q q.length T), (.slice Y c.length U), .int .i64 t] 50 (0, 0))) ∧ Aside0 (w'.heap[J]? = some (.cells #[(.slice M m.length P), (.slice R s.length V), (.slice Z d.length W), .int .i64 u] 50 (0, 0))) ∧ Aside0 (Below w.heap.size w w'))
  case atStart => exact ⟨(0), el_, H', ⟨Nat.le_refl _⟩, ⟨pk_ b.1⟩, ⟨pk_ g.1⟩, ⟨pb2_ HB.1 i.1 o.1⟩⟩
  clear H'
  obtain ⟨a, rfl, HA, bc, b, g, HB⟩ := hrel
  rcases gk with _ | k2
  ·exact absurd HA.1 (by simp [spec_EqualEndpoints.l0])
  have H := HA.1
  clear HA
  simp only [spec_EqualEndpoints.l0] at H
  by_cases ay : a < (c.length : Int)
  rotate_left
  ·rw [if_neg ay] at H
   have a9 := decide_eq_false ay
   clear ay
   obtain ⟨bf, ba, H⟩ := bs_ H
   (try dsimp only at H)
   by_cases aU : bf = true
   rotate_left
   ·replace aU := bf_ aU
    subst aU
    rw [if_neg ff_] at H
    obtain rfl := Option.some.inj H
    have bu := j.1
    have bz := p.1
    have bo := bc4_ b.1
    have bp := bc4_ g.1
    go_wp2_with (first | ((with_reducible refine gate_callee (f := 19) rfl ?_); refine gl_ (some 43) Try.func19 #[.slice L l.length O, .slice M m.length P] ?_; (with_reducible refine (spec_EqualInts.calls k2 _ _ l _ _ m false _ (cb_ aF HB) az.1 (cb_ aG HB) aE.1 ba.1).mono ?_); rintro e w' ⟨rfl, ⟨nd, rfl⟩⟩; refine ⟨_, rfl, ?_⟩))
    go_ret
    exact ⟨er_, pb2_ HB.1 i.1 o.1⟩
   subst aU
   rw [if_pos rfl] at H
   obtain ⟨aZ, bg, H⟩ := bs_ H
   replace H : (some aZ) = some r := H
   obtain rfl := Option.some.inj H
   have bv := j.1
   have bA := p.1
   have bq := bc4_ b.1
   have br := bc4_ g.1
   go_wp2_with (first | ((with_reducible refine gate_callee (f := 19) rfl ?_); refine gl_ (some 43) Try.func19 #[.slice L l.length O, .slice M m.length P] ?_; (with_reducible refine (spec_EqualInts.calls k2 _ _ l _ _ m true _ (cb_ aF HB) az.1 (cb_ aG HB) aE.1 ba.1).mono ?_); rintro e w' ⟨rfl, ⟨nd, rfl⟩⟩; refine ⟨_, rfl, ?_⟩) | (go_at_call 19; (with_reducible refine (spec_EqualInts.calls k2 _ _ q _ _ s aZ _ ?side1 a2.1 ?side3 a3.1 bg.1).mono ?_); (case side1 => exact pc_ (Kd.C_below a5.1 (pb2_ HB.1 i.1 o.1))); (case side3 => exact pc_ (Kd.C_below a7.1 (pb2_ HB.1 i.1 o.1))); rintro e w' ⟨rfl, ⟨nd, rfl⟩⟩))
   go_ret
   exact ⟨er_, pb2_ HB.1 i.1 o.1⟩
  rw [if_pos ay] at H
  have a9 := decide_eq_true ay
  clear ay
  by_cases aV : 0 ≤ a
  rotate_left
  ·rw [if_neg aV] at H
   exact nn_ H
  rw [if_pos aV] at H
  have bk := decide_eq_true aV
  clear aV
  by_cases aW : a < (d.length : Int)
  rotate_left
  ·rw [if_neg aW] at H
   exact nn_ H
  rw [if_pos aW] at H
  have bl := decide_eq_true aW
  clear aW
  obtain ⟨aY, bh, H⟩ := bs_ H
  (try dsimp only at H)
  have HS_ := Q_ H
  clear H
  have bw := j.1
  have bB := p.1
  have bs := bc4_ b.1
  try go_wp2
  have _ := Q_ (blk_drew b.1)
  have _ := Q_ (blk_drew g.1)
  have _ := Q_ (below_drew1 HB.1)
  clear b g HB
  rename_i b g HB
  have aP : 0 ≤ (a : Int) := dt_
  have aR : a < (c.length : Int) := dt_
  obtain ⟨v, ao, au, ap, av, bd, y, z, A, B, aA, aa, aB, ab⟩ := at_U95 a6.1 a aP aR
  have aj := B
  have ai := A
  have ah := z
  have ag := y
  cases bd
  replace y := bt_ HB y
  replace z := bt_ HB z
  replace A := bt_ HB A
  replace B := bt_ HB B
  replace aP := eq_true aP
  replace aR := eq_true aR
  have aQ : 0 ≤ (a : Int) := dt_
  have aS : a < (d.length : Int) := dt_
  obtain ⟨x, aq, aw, ar, ax, be, D, E, F, G, aC, ac, aD, ad⟩ := at_U95 a8.1 a aQ aS
  have an := G
  have am := F
  have al := E
  have ak := D
  cases be
  replace D := bt_ HB D
  replace E := bt_ HB E
  replace F := bt_ HB F
  replace G := bt_ HB G
  replace aQ := eq_true aQ
  replace aS := eq_true aS
  refine start_ (n := 12) (S := fun w' => w'.cell? ⟨I, 0, none⟩ = some (.slice L l.length O) ∧ w'.cell? ⟨I, 1, none⟩ = some (.slice Q q.length T) ∧ w'.cell? ⟨I, 2, none⟩ = some (.slice (some v) c.length U) ∧ w'.cell? ⟨I, 3, none⟩ = some (.int .i64 t) ∧ w'.cell? ⟨J, 0, none⟩ = some (.slice M m.length P) ∧ w'.cell? ⟨J, 1, none⟩ = some (.slice R s.length V) ∧ w'.cell? ⟨J, 2, none⟩ = some (.slice (some x) d.length W) ∧ w'.cell? ⟨J, 3, none⟩ = some (.int .i64 u) ∧ w'.cell? (v.add ((a).toNat * 4)) = some (.int .i64 ((rd_T95 c a).f0)) ∧ w'.cell? ⟨(v.add ((a).toNat * 4)).block, (v.add ((a).toNat * 4)).off + 1, none⟩ = some (.slice ao ((rd_T95 c a).f1).length au) ∧ w'.cell? ⟨(v.add ((a).toNat * 4)).block, (v.add ((a).toNat * 4)).off + 2, none⟩ = some (.slice ap ((rd_T95 c a).f2).length av) ∧ w'.cell? ⟨(v.add ((a).toNat * 4)).block, (v.add ((a).toNat * 4)).off + 3, none⟩ = some (.bool ((rd_T95 c a).f3)) ∧ w'.cell? (x.add ((a).toNat * 4)) = some (.int .i64 ((rd_T95 d a).f0)) ∧ w'.cell? ⟨(x.add ((a).toNat * 4)).block, (x.add ((a).toNat * 4)).off + 1, none⟩ = some (.slice aq ((rd_T95 d a).f1).length aw) ∧ w'.cell? ⟨(x.add ((a).toNat * 4)).block, (x.add ((a).toNat * 4)).off + 2, none⟩ = some (.slice ar ((rd_T95 d a).f2).length ax) ∧ w'.cell? ⟨(x.add ((a).toNat * 4)).block, (x.add ((a).toNat * 4)).off + 3, none⟩ = some (.bool ((rd_T95 d a).f3))) (ds := []) (tf_ 0 12) (by kernel_rfl) rfl rfl ⟨(blk_cell b.1 0).trans rfl, (blk_cell b.1 1).trans rfl, (blk_cell b.1 2).trans rfl, (blk_cell b.1 3).trans rfl, (blk_cell g.1 0).trans rfl, (blk_cell g.1 1).trans rfl, (blk_cell g.1 2).trans rfl, (blk_cell g.1 3).trans rfl, (bt_ HB ag), (bt_ HB ah), (bt_ HB ai), (bt_ HB aj), (bt_ HB ak), (bt_ HB al), (bt_ HB am), (bt_ HB an)⟩ (fun hHeld => ?_); refine with_tabW spec_EqualEndpoints.tab6 spec_EqualEndpoints.bits6 (fun HT_ HW_ => ?_)
  generalize wr.drew = bI at b g HB aa ab ac ad y z A B D E F G hHeld ⊢
  refine pu1_ 0 27 12 1 ?_
  refine pu1_ 2 29 12 5 ?_
  refine pu1_ 5 32 12 37 ?_
  refine pu1_ 7 34 12 165 ?_
  refine ta1_ 1 28 12 167 hHeld ?_
  refine pu1_ 3 30 12 175 ?_
  refine ta1_ 4 31 12 191 hHeld ?_
  refine ta1_ 6 33 12 255 hHeld ?_
  refine pu1_ 8 35 12 511 ?_
  refine ta1_ 9 36 12 1023 hHeld ?_
  refine on_ 10 (some 37) (tf_ 11 12) HT_ (fun K hK => ?_)
  refine goes_ Try.func61 (by kernel_rfl) rfl #[.agg #[.int .i64 ((rd_T95 c a).f0), .slice ao ((rd_T95 c a).f1).length au, .slice ap ((rd_T95 c a).f2).length av, .bool ((rd_T95 c a).f3)], .agg #[.int .i64 ((rd_T95 d a).f0), .slice aq ((rd_T95 d a).f1).length aw, .slice ar ((rd_T95 d a).f2).length ax, .bool ((rd_T95 d a).f3)]] (by rfl) rfl rfl mp_ ?_
  with_reducible refine (spec_EqualBoxes.calls k2 ((rd_T95 c a).f0) _ _ ((rd_T95 c a).f1) _ _ ((rd_T95 c a).f2) ((rd_T95 c a).f3) ((rd_T95 d a).f0) _ _ ((rd_T95 d a).f1) _ _ ((rd_T95 d a).f2) ((rd_T95 d a).f3) aY _ (cb_ aa HB) aA.1 (cb_ ab HB) aB.1 (cb_ ac HB) aC.1 (cb_ ad HB) aD.1 bh.1).mono ?_
  rintro e bJ ⟨rfl, hb⟩
  refine ⟨_, rfl, ?_⟩
  have _ := Q_ (bb_ b.1 hb)
  have _ := Q_ (bb_ g.1 hb)
  have _ := Q_ (below_step (pb2_ HB.1 i.1 o.1) hb)
  clear b g HB
  rename_i b g HB
  (try clear hb)
  refine hK.out _ _ ⟨(blk_cell b.1 0).trans rfl, (blk_cell b.1 1).trans rfl, (blk_cell b.1 2).trans rfl, (blk_cell b.1 3).trans rfl, (blk_cell g.1 0).trans rfl, (blk_cell g.1 1).trans rfl, (blk_cell g.1 2).trans rfl, (blk_cell g.1 3).trans rfl, (bt_ HB ag), (bt_ HB ah), (bt_ HB ai), (bt_ HB aj), (bt_ HB ak), (bt_ HB al), (bt_ HB am), (bt_ HB an)⟩ (fun hHeld => ?_)
  clear hK K
  refine no_ (some 37) ?_
  refine pu1_ 11 38 12 4095 ?_
  refine done_ (done_of HT_.1 (by kernel_rfl)) ?_
  go_upto_if 38 with (fail)
  have H := HS_.1
  clear HS_
  by_cases aX : aY = true
  rotate_left
  ·replace aX := bf_ aX
   subst aX
   rw [if_neg ff_] at H
   obtain rfl := Option.some.inj H
   go_wp2
   go_ret
   exact ⟨er_, pb2_ HB.1 i.1 o.1⟩
  subst aX
  rw [if_pos rfl] at H
  have H' := Q_ H
  clear H
  go_wp2
  go_roundg k2
  case measure => have := bb.1; have := bc.1; omega
  case rel => exact ⟨(wrap64 (a + 1)), el_, H', ⟨by have := bb.1; have := bc.1; omega⟩, ⟨pk_ b.1⟩, ⟨pk_ g.1⟩, ⟨pb2_ HB.1 i.1 o.1⟩⟩
 subst aT
 rw [if_pos rfl] at H
 obtain rfl := Option.some.inj H
 go_wp2
 go_ret
 exact ⟨er_, pb2_ HB.1 i.1 o.1⟩

/-! ### spec_EqualDeals: function 62 -/
def spec_EqualDeals.f (k : Nat) (g : Bool) (a : Int) (d : List Int) (b : Bool) (c : Int) (e : List Int) : Option (Bool) := if g = true then (if b = true then (if a = c then ((spec_EqualInts.f k d e).bind fun h => (some h)) else (some false)) else (some false)) else (if b = true then (some false) else (if a = c then ((spec_EqualInts.f k d e).bind fun i => (some i)) else (some false)))
theorem spec_EqualDeals.mono : ∀ a b c d e g k, LeO (spec_EqualDeals.f k a b c d e g) (spec_EqualDeals.f (k + 1) a b c d e g) := by
 intro a b c d e g k
 unfold spec_EqualDeals.f
 exact mo1_ spec_EqualInts.mono
theorem spec_EqualDeals.calls (k : Nat) (s : Bool) (c : Int) (y : Option Addr) (F : Nat) (j : List Int) (o : Bool) (d : Int) (z : Option Addr) (G : Nat) (l : List Int) (r : Bool) (w : World) (hr0_2 : Kd.C (Kd.int .i64) w y j.length j) (I : j.length ≤ F) (hr1_2 : Kd.C (Kd.int .i64) w z l.length l) (J : l.length ≤ G) (h : spec_EqualDeals.f k s c j o d l = some r) :
  Calls Try.prog 62 #[.agg #[.bool s, .int .i64 c, .slice y j.length F], .agg #[.bool o, .int .i64 d, .slice z l.length G]] w fun e w' => e = .returned (.bool r) ∧ Below w.heap.size w w' := by
 have hu53 := Try.underlying53
 have D := Q_ hr0_2
 have A := Q_ I
 clear hr0_2 I
 have E := Q_ hr1_2
 have B := Q_ J
 clear hr1_2 J
 have HB := Q_ (Below.refl w.heap.size w)
 have H : (if s = true then (if o = true then (if c = d then ((spec_EqualInts.f k j l).bind fun v => (some v)) else (some false)) else (some false)) else (if o = true then (some false) else (if c = d then ((spec_EqualInts.f k j l).bind fun x => (some x)) else (some false)))) = some r := h
 clear h
 have HS_ := Q_ H
 clear H
 go_enter Try.func62, Try.ntmps62
 go_upto_region 1 with (first | ((with_reducible refine gate_dst (N := 2) rfl ?_); refine bx_ 2 #[.bool s, .int .i64 c, .slice y j.length F] 53 ?_; intro U hg w3 hbox hb; have _ := Q_ (below_step (pb_ HB.1) hb); have g := Q_ (hbox); have L := Q_ (gw_ (w := w) hg (pb_ HB.1)); have i := L; clear HB; rename_i HB; clear hb hbox hg) | ((with_reducible refine gate_dst (N := 3) rfl ?_); refine bx_ 3 #[.bool o, .int .i64 d, .slice z l.length G] 53 ?_; intro V hg w4 hbox hb; have _ := Q_ (bb_ g.1 hb); have _ := Q_ (below_step (pb1_ HB.1 i.1) hb); have m := Q_ (hbox); have M := Q_ (gw_ (w := w) hg (pb1_ HB.1 i.1)); have n := M; have a := Q_ (nb_ hg g); have b := Q_ a.1.symm; clear g HB; rename_i g HB; clear hb hbox hg))
 (try simp only [Act.put, s1_, s2_, s3_])
 have H := HS_.1
 clear HS_
 by_cases Q : s = true
 rotate_left
 ·replace Q := bf_ Q
  subst Q
  rw [if_neg ff_] at H
  by_cases R : o = true
  ·subst R
   rw [if_pos rfl] at H
   obtain rfl := Option.some.inj H
   have au := a.1
   have av := b.1
   have aq := bc3_ g.1
   have ar := bc3_ m.1
   go_wp2
   go_ret
   exact ⟨er_, pb2_ HB.1 i.1 n.1⟩
  replace R := bf_ R
  subst R
  rw [if_neg ff_] at H
  by_cases t : c = d
  rotate_left
  ·rw [if_neg t] at H
   have p : (c == d) = false := beq_eq_false_iff_ne.mpr t
   have q : (c != d) = true := bne_iff_ne.mpr t
   (first | rw [p] | (simp only [i64_w, i32_w]; rw [p]) | rw [q] | (have c_ := q; rw [bne] at c_; rw [c_]; clear c_) | skip)
   obtain rfl := Option.some.inj H
   have ag := a.1
   have al := b.1
   have W := bc3_ g.1
   have X := bc3_ m.1
   go_wp2
   go_ret
   exact ⟨er_, pb2_ HB.1 i.1 n.1⟩
  rw [if_pos t] at H
  have p : (c == d) = true := beq_iff_eq.mpr t
  have q : (c != d) = false := bne_eq_false_iff_eq.mpr t
  clear t
  (first | rw [p] | (simp only [i64_w, i32_w]; rw [p]) | rw [q] | (have c_ := q; rw [bne] at c_; rw [c_]; clear c_) | skip)
  obtain ⟨x, S, H⟩ := bs_ H
  replace H : (some x) = some r := H
  obtain rfl := Option.some.inj H
  have ah := a.1
  have am := b.1
  have Y := bc3_ g.1
  have Z := bc3_ m.1
  go_wp2_with (first | (go_at_call 19; (with_reducible refine (spec_EqualInts.calls k _ _ j _ _ l x _ (cb_ D HB) A.1 (cb_ E HB) B.1 S.1).mono ?_); rintro e w' ⟨rfl, ⟨nd, rfl⟩⟩))
  go_ret
  exact ⟨er_, pb2_ HB.1 i.1 n.1⟩
 subst Q
 rw [if_pos rfl] at H
 by_cases K : o = true
 rotate_left
 ·replace K := bf_ K
  subst K
  rw [if_neg ff_] at H
  obtain rfl := Option.some.inj H
  have ai := a.1
  have an := b.1
  have aa := bc3_ g.1
  have ab := bc3_ m.1
  go_wp2
  go_ret
  exact ⟨er_, pb2_ HB.1 i.1 n.1⟩
 subst K
 rw [if_pos rfl] at H
 by_cases u : c = d
 rotate_left
 ·rw [if_neg u] at H
  have O : (c == d) = false := beq_eq_false_iff_ne.mpr u
  have P : (c != d) = true := bne_iff_ne.mpr u
  obtain rfl := Option.some.inj H
  have aj := a.1
  have ao := b.1
  have ac := bc3_ g.1
  have ad := bc3_ m.1
  go_wp2
  go_ret
  exact ⟨er_, pb2_ HB.1 i.1 n.1⟩
 rw [if_pos u] at H
 have O : (c == d) = true := beq_iff_eq.mpr u
 have P : (c != d) = false := bne_eq_false_iff_eq.mpr u
 clear u
 obtain ⟨v, T, H⟩ := bs_ H
 replace H : (some v) = some r := H
 obtain rfl := Option.some.inj H
 have ak := a.1
 have ap := b.1
 have ae := bc3_ g.1
 have af := bc3_ m.1
 go_wp2_with (first | (go_at_call 19; (with_reducible refine (spec_EqualInts.calls k _ _ j _ _ l v _ (cb_ D HB) A.1 (cb_ E HB) B.1 T.1).mono ?_); rintro e w' ⟨rfl, ⟨nd, rfl⟩⟩))
 go_ret
 exact ⟨er_, pb2_ HB.1 i.1 n.1⟩

/-! ### spec_EqualDialed: function 18 -/
def spec_EqualDialed.f (k : Nat) (a : Bool) (b : Int) (h : List Int) (c : Int) (i : List Int) (d : Bool) (e : Int) (j : List Int) (g : Int) (l : List Int) : Option (Bool) := (spec_EqualDeals.f k a b h d e j).bind fun m => (if m = true then (if c = g then ((spec_EqualInts.f k i l).bind fun n => (some n)) else (some false)) else (some false))
theorem spec_EqualDialed.mono : ∀ a b c d e g h i j l k, LeO (spec_EqualDialed.f k a b c d e g h i j l) (spec_EqualDialed.f (k + 1) a b c d e g h i j l) := by
 intro a b c d e g h i j l k
 unfold spec_EqualDialed.f
 exact mo2_ spec_EqualDeals.mono spec_EqualInts.mono
theorem spec_EqualDialed.calls (k : Nat) (j : Bool) (l : Int) (y : Option Addr) (A : Nat) (c : List Int) (p : Int) (K : Option Addr) (M : Nat) (t : List Int) (m : Bool) (n : Int) (z : Option Addr) (B : Nat) (d : List Int) (q : Int) (L : Option Addr) (O : Nat) (u : List Int) (r : Bool) (w : World) (hr0_2 : Kd.C (Kd.int .i64) w y c.length c) (P : c.length ≤ A) (hr0_4 : Kd.C (Kd.int .i64) w K t.length t) (Q : t.length ≤ M) (hr1_2 : Kd.C (Kd.int .i64) w z d.length d) (R : d.length ≤ B) (hr1_4 : Kd.C (Kd.int .i64) w L u.length u) (S : u.length ≤ O) (h : spec_EqualDialed.f k j l c p t m n d q u = some r) :
  Calls Try.prog 18 #[.agg #[.bool j, .int .i64 l, .slice y c.length A, .int .i64 p, .slice K t.length M], .agg #[.bool m, .int .i64 n, .slice z d.length B, .int .i64 q, .slice L u.length O]] w fun e w' => e = .returned (.bool r) ∧ Below w.heap.size w w' := by
 have hu55 := Try.underlying55
 have hu53 := Try.underlying53
 have F := Q_ hr0_2
 have D := Q_ P
 clear hr0_2 P
 have Y := Q_ hr0_4
 have W := Q_ Q
 clear hr0_4 Q
 have G := Q_ hr1_2
 have E := Q_ R
 clear hr1_2 R
 have Z := Q_ hr1_4
 have X := Q_ S
 clear hr1_4 S
 have HB := Q_ (Below.refl w.heap.size w)
 have H : ((spec_EqualDeals.f k j l c m n d).bind fun T => (if T = true then (if p = q then ((spec_EqualInts.f k t u).bind fun J => (some J)) else (some false)) else (some false))) = some r := h
 clear h
 have HS_ := Q_ H
 clear H
 go_enter Try.func18, Try.ntmps18
 go_upto_region 1 with (first | ((with_reducible refine gate_dst (N := 2) rfl ?_); refine bx_ 2 #[.bool j, .int .i64 l, .slice y c.length A, .int .i64 p, .slice K t.length M] 55 ?_; intro ad hg w3 hbox hb; have _ := Q_ (below_step (pb_ HB.1) hb); have a := Q_ (hbox); have U := Q_ (gw_ (w := w) hg (pb_ HB.1)); have i := U; clear HB; rename_i HB; clear hb hbox hg) | ((with_reducible refine gate_dst (N := 3) rfl ?_); refine bx_ 3 #[.bool m, .int .i64 n, .slice z d.length B, .int .i64 q, .slice L u.length O] 55 ?_; intro ae hg w4 hbox hb; have _ := Q_ (bb_ a.1 hb); have _ := Q_ (below_step (pb1_ HB.1 i.1) hb); have b := Q_ (hbox); have V := Q_ (gw_ (w := w) hg (pb1_ HB.1 i.1)); have s := V; have g := Q_ (nb_ hg a); have o := Q_ g.1.symm; clear a HB; rename_i a HB; clear hb hbox hg))
 (try simp only [Act.put, s1_, s2_, s3_])
 have H := HS_.1
 clear HS_
 obtain ⟨T, A5, H⟩ := bs_ H
 (try dsimp only at H)
 by_cases c6 : T = true
 rotate_left
 ·replace c6 := bf_ c6
  subst c6
  rw [if_neg ff_] at H
  obtain rfl := Option.some.inj H
  have av := g.1
  have aw := o.1
  have ar := bc5_ a.1
  have au := bc5_ b.1
  go_wp2_with (first | ((with_reducible refine gate_callee (f := 62) rfl ?_); refine gl_ (some 9) Try.func62 #[.agg #[.bool j, .int .i64 l, .slice y c.length A], .agg #[.bool m, .int .i64 n, .slice z d.length B]] ?_; (with_reducible refine (spec_EqualDeals.calls k j l _ _ c m n _ _ d false _ (cb_ F HB) D.1 (cb_ G HB) E.1 A5.1).mono ?_); rintro e ax ⟨rfl, hb⟩; refine ⟨_, rfl, ?_⟩; have _ := Q_ (bb_ a.1 hb); have _ := Q_ (bb_ b.1 hb); have _ := Q_ (below_step (pb2_ HB.1 i.1 s.1) hb); clear a b HB; rename_i a b HB; (try clear hb)))
  go_ret
  exact ⟨er_, pb2_ HB.1 i.1 s.1⟩
 subst c6
 rw [if_pos rfl] at H
 by_cases I : p = q
 rotate_left
 ·rw [if_neg I] at H
  have v : (p == q) = false := beq_eq_false_iff_ne.mpr I
  have x : (p != q) = true := bne_iff_ne.mpr I
  (first | rw [v] | (simp only [i64_w, i32_w]; rw [v]) | rw [x] | (have c_ := x; rw [bne] at c_; rw [c_]; clear c_) | skip)
  obtain rfl := Option.some.inj H
  have an := g.1
  have ap := o.1
  have af := bc5_ a.1
  have ag := bc5_ b.1
  go_wp2_with (first | ((with_reducible refine gate_callee (f := 62) rfl ?_); refine gl_ (some 9) Try.func62 #[.agg #[.bool j, .int .i64 l, .slice y c.length A], .agg #[.bool m, .int .i64 n, .slice z d.length B]] ?_; (with_reducible refine (spec_EqualDeals.calls k j l _ _ c m n _ _ d true _ (cb_ F HB) D.1 (cb_ G HB) E.1 A5.1).mono ?_); rintro e ay ⟨rfl, hb⟩; refine ⟨_, rfl, ?_⟩; have _ := Q_ (bb_ a.1 hb); have _ := Q_ (bb_ b.1 hb); have _ := Q_ (below_step (pb2_ HB.1 i.1 s.1) hb); clear a b HB; rename_i a b HB; (try clear hb); have ah := bc5_ a.1; have ai := bc5_ b.1))
  go_ret
  exact ⟨er_, pb2_ HB.1 i.1 s.1⟩
 rw [if_pos I] at H
 have v : (p == q) = true := beq_iff_eq.mpr I
 have x : (p != q) = false := bne_eq_false_iff_eq.mpr I
 clear I
 (first | rw [v] | (simp only [i64_w, i32_w]; rw [v]) | rw [x] | (have c_ := x; rw [bne] at c_; rw [c_]; clear c_) | skip)
 obtain ⟨J, ab, H⟩ := bs_ H
 replace H : (some J) = some r := H
 obtain rfl := Option.some.inj H
 have ao := g.1
 have aq := o.1
 have aj := bc5_ a.1
 have ak := bc5_ b.1
 go_wp2_with (first | ((with_reducible refine gate_callee (f := 62) rfl ?_); refine gl_ (some 9) Try.func62 #[.agg #[.bool j, .int .i64 l, .slice y c.length A], .agg #[.bool m, .int .i64 n, .slice z d.length B]] ?_; (with_reducible refine (spec_EqualDeals.calls k j l _ _ c m n _ _ d true _ (cb_ F HB) D.1 (cb_ G HB) E.1 A5.1).mono ?_); rintro e az ⟨rfl, hb⟩; refine ⟨_, rfl, ?_⟩; have _ := Q_ (bb_ a.1 hb); have _ := Q_ (bb_ b.1 hb); have _ := Q_ (below_step (pb2_ HB.1 i.1 s.1) hb); clear a b HB; rename_i a b HB; (try clear hb); have al := bc5_ a.1; have am := bc5_ b.1) | (go_at_call 19; (with_reducible refine (spec_EqualInts.calls k _ _ t _ _ u J _ (cb_ Y HB) W.1 (cb_ Z HB) X.1 ab.1).mono ?_); rintro e w' ⟨rfl, ⟨nd, rfl⟩⟩))
 go_ret
 exact ⟨er_, pb2_ HB.1 i.1 s.1⟩

/-! ### spec_EqualRollouts: function 20 -/
def spec_EqualRollouts.f (k : Nat) (d : Int) (b : List Int) (e : Int) (g : Bool) (h : Int) (c : List Int) (i : Int) (a : Bool) : Option (Bool) := if d = h then (if e = i then (if g = true then (if a = true then ((spec_EqualInts.f k b c).bind fun j => (some j)) else (some false)) else (if a = true then (some false) else ((spec_EqualInts.f k b c).bind fun l => (some l)))) else (some false)) else (some false)
theorem spec_EqualRollouts.mono : ∀ a b c d e g h i k, LeO (spec_EqualRollouts.f k a b c d e g h i) (spec_EqualRollouts.f (k + 1) a b c d e g h i) := by
 intro a b c d e g h i k
 unfold spec_EqualRollouts.f
 exact mo1_ spec_EqualInts.mono
theorem spec_EqualRollouts.calls (k : Nat) (j : Int) (y : Option Addr) (F : Nat) (g : List Int) (l : Int) (s : Bool) (m : Int) (z : Option Addr) (G : Nat) (i : List Int) (n : Int) (q : Bool) (r : Bool) (w : World) (hr0_1 : Kd.C (Kd.int .i64) w y g.length g) (I : g.length ≤ F) (hr1_1 : Kd.C (Kd.int .i64) w z i.length i) (J : i.length ≤ G) (h : spec_EqualRollouts.f k j g l s m i n q = some r) :
  Calls Try.prog 20 #[.agg #[.int .i64 j, .slice y g.length F, .int .i64 l, .bool s], .agg #[.int .i64 m, .slice z i.length G, .int .i64 n, .bool q]] w fun e w' => e = .returned (.bool r) ∧ Below w.heap.size w w' := by
 have hu33 := Try.underlying33
 have D := Q_ hr0_1
 have A := Q_ I
 clear hr0_1 I
 have E := Q_ hr1_1
 have B := Q_ J
 clear hr1_1 J
 have HB := Q_ (Below.refl w.heap.size w)
 have H : (if j = m then (if l = n then (if s = true then (if q = true then ((spec_EqualInts.f k g i).bind fun v => (some v)) else (some false)) else (if q = true then (some false) else ((spec_EqualInts.f k g i).bind fun x => (some x)))) else (some false)) else (some false)) = some r := h
 clear h
 have HS_ := Q_ H
 clear H
 go_enter Try.func20, Try.ntmps20
 go_upto_region 1 with (first | ((with_reducible refine gate_dst (N := 2) rfl ?_); refine bx_ 2 #[.int .i64 j, .slice y g.length F, .int .i64 l, .bool s] 33 ?_; intro W hg w3 hbox hb; have _ := Q_ (below_step (pb_ HB.1) hb); have c := Q_ (hbox); have O := Q_ (gw_ (w := w) hg (pb_ HB.1)); have d := O; clear HB; rename_i HB; clear hb hbox hg) | ((with_reducible refine gate_dst (N := 3) rfl ?_); refine bx_ 3 #[.int .i64 m, .slice z i.length G, .int .i64 n, .bool q] 33 ?_; intro X hg w4 hbox hb; have _ := Q_ (bb_ c.1 hb); have _ := Q_ (below_step (pb1_ HB.1 d.1) hb); have o := Q_ (hbox); have P := Q_ (gw_ (w := w) hg (pb1_ HB.1 d.1)); have p := P; have a := Q_ (nb_ hg c); have b := Q_ a.1.symm; clear c HB; rename_i c HB; clear hb hbox hg))
 (try simp only [Act.put, s1_, s2_, s3_])
 have H := HS_.1
 clear HS_
 by_cases Q : j = m
 rotate_left
 ·rw [if_neg Q] at H
  have t : (j == m) = false := beq_eq_false_iff_ne.mpr Q
  have u : (j != m) = true := bne_iff_ne.mpr Q
  (first | rw [t] | (simp only [i64_w, i32_w]; rw [t]) | rw [u] | (have c_ := u; rw [bne] at c_; rw [c_]; clear c_) | skip)
  obtain rfl := Option.some.inj H
  have aw := a.1
  have ax := b.1
  have au := bc4_ c.1
  have av := bc4_ o.1
  go_wp2
  go_ret
  exact ⟨er_, pb2_ HB.1 d.1 p.1⟩
 rw [if_pos Q] at H
 have t : (j == m) = true := beq_iff_eq.mpr Q
 have u : (j != m) = false := bne_eq_false_iff_eq.mpr Q
 clear Q
 (first | rw [t] | (simp only [i64_w, i32_w]; rw [t]) | rw [u] | (have c_ := u; rw [bne] at c_; rw [c_]; clear c_) | skip)
 by_cases R : l = n
 rotate_left
 ·rw [if_neg R] at H
  have S : (l == n) = false := beq_eq_false_iff_ne.mpr R
  have T : (l != n) = true := bne_iff_ne.mpr R
  obtain rfl := Option.some.inj H
  have ai := a.1
  have an := b.1
  have Y := bc4_ c.1
  have Z := bc4_ o.1
  go_wp2
  go_ret
  exact ⟨er_, pb2_ HB.1 d.1 p.1⟩
 rw [if_pos R] at H
 have S : (l == n) = true := beq_iff_eq.mpr R
 have T : (l != n) = false := bne_eq_false_iff_eq.mpr R
 clear R
 by_cases K : s = true
 rotate_left
 ·replace K := bf_ K
  subst K
  rw [if_neg ff_] at H
  by_cases L : q = true
  ·subst L
   rw [if_pos rfl] at H
   obtain rfl := Option.some.inj H
   have aj := a.1
   have ao := b.1
   have aa := bc4_ c.1
   have ab := bc4_ o.1
   go_wp2
   go_ret
   exact ⟨er_, pb2_ HB.1 d.1 p.1⟩
  replace L := bf_ L
  subst L
  rw [if_neg ff_] at H
  obtain ⟨x, U, H⟩ := bs_ H
  replace H : (some x) = some r := H
  obtain rfl := Option.some.inj H
  have ak := a.1
  have ap := b.1
  have ac := bc4_ c.1
  have ad := bc4_ o.1
  go_wp2_with (first | (go_at_call 19; (with_reducible refine (spec_EqualInts.calls k _ _ g _ _ i x _ (cb_ D HB) A.1 (cb_ E HB) B.1 U.1).mono ?_); rintro e w' ⟨rfl, ⟨nd, rfl⟩⟩))
  go_ret
  exact ⟨er_, pb2_ HB.1 d.1 p.1⟩
 subst K
 rw [if_pos rfl] at H
 by_cases M : q = true
 rotate_left
 ·replace M := bf_ M
  subst M
  rw [if_neg ff_] at H
  obtain rfl := Option.some.inj H
  have al := a.1
  have aq := b.1
  have ae := bc4_ c.1
  have af := bc4_ o.1
  go_wp2
  go_ret
  exact ⟨er_, pb2_ HB.1 d.1 p.1⟩
 subst M
 rw [if_pos rfl] at H
 obtain ⟨v, V, H⟩ := bs_ H
 replace H : (some v) = some r := H
 obtain rfl := Option.some.inj H
 have am := a.1
 have ar := b.1
 have ag := bc4_ c.1
 have ah := bc4_ o.1
 go_wp2_with (first | (go_at_call 19; (with_reducible refine (spec_EqualInts.calls k _ _ g _ _ i v _ (cb_ D HB) A.1 (cb_ E HB) B.1 V.1).mono ?_); rintro e w' ⟨rfl, ⟨nd, rfl⟩⟩))
 go_ret
 exact ⟨er_, pb2_ HB.1 d.1 p.1⟩

end Go.Proofs.Ytchnkakjjbfklaa.Print
