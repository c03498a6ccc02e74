-- Written by a program of this session (printx.py) out of the translation; Lean checks it.
import Derived.Test.YtldcchjbaglppaaPrint0
namespace Go.Proofs.Ytldcchjbaglppaa.Print
open Go.RowKit Go.Proofs.YtldcchjbaglppaaW.PrintWords Go.Proofs.YtldcchjbaglppaaW.PrintLast Go.Proofs.YtldcchjbaglppaaW.PrintMore Go.Proofs.Ytldcchjbaglppaa.Short
attribute [local go_sem] max2_int min2_int max_two min_two max_three min_three max_four min_four   -- for this text's walks alone
set_option linter.unusedVariables false
set_option maxHeartbeats 8000000
set_option maxRecDepth 100000
set_option linter.unusedSimpArgs false

/-! ### impl_InRange: function 47 -/
def impl_InRange.f (a : Int) (b : Int) (c : Int) : Option (Bool) := if b ≤ a then (some (decide (a ≤ c))) else (some false)
theorem impl_InRange.calls (b : Int) (d : Int) (g : Int) (r : Bool) (w : World) (h : impl_InRange.f b d g = some r) :
  Calls Try.prog 47 #[.int .i64 b, .int .i64 d, .int .i64 g] w fun e w' => e = .returned (.bool r) ∧ Drawn0 w w' := by
 have H : (if d ≤ b then (some (decide (b ≤ g))) else (some false)) = some r := h
 clear h
 by_cases a : d ≤ b
 rotate_left
 ·rw [if_neg a] at H
  have c := decide_eq_false a
  clear a
  obtain rfl := Option.some.inj H
  go_enter Try.func47, Try.ntmps47
  go_wp2
  go_ret
  exact ⟨by first | rfl | (simp; done) | (simp [*]; done), by repeat (first | exact Drawn0.refl _ | apply Drawn0.step)⟩
 rw [if_pos a] at H
 have c := decide_eq_true a
 clear a
 obtain rfl := Option.some.inj H
 go_enter Try.func47, Try.ntmps47
 go_wp2
 go_ret
 exact ⟨by first | rfl | (simp; done) | (simp [*]; done), by repeat (first | exact Drawn0.refl _ | apply Drawn0.step)⟩

/-! ### impl_IsMachine: function 55 -/
mutual
def impl_IsMachine.j0 : Nat → Bool → Int → List Bool → List (S78) → Option (Bool)
 | 0, _, _, _, _ => none
 | k + 1, d, b, c, a => if d = true then (some false) else (impl_IsMachine.l0 k a (a.length : Int) 0 b c a)
def impl_IsMachine.l0 : Nat → List (S78) → Int → Int → Int → List Bool → List (S78) → Option (Bool)
 | 0, _, _, _, _, _, _ => none
 | k + 1, b, g, a, c, d, e => if a < g then (if 0 ≤ a then (if a < (b.length : Int) then ((impl_InRange.f ((rd_T78 b a).f0) 0 (wrap64 (c - 1))).bind fun h => (if h = true then ((impl_InRange.f ((rd_T78 b a).f3) 0 (wrap64 (c - 1))).bind fun i => (if i = true then ((impl_InRange.f ((rd_T78 b a).f2) 0 5).bind fun j => (impl_IsMachine.j2 k a b g a (!j) c d e ((rd_T78 b a).f0) ((rd_T78 b a).f1) ((rd_T78 b a).f2) ((rd_T78 b a).f3))) else (impl_IsMachine.j2 k a b g a true c d e ((rd_T78 b a).f0) ((rd_T78 b a).f1) ((rd_T78 b a).f2) ((rd_T78 b a).f3)))) else (impl_IsMachine.j2 k a b g a true c d e ((rd_T78 b a).f0) ((rd_T78 b a).f1) ((rd_T78 b a).f2) ((rd_T78 b a).f3)))) else (none)) else (none)) else (some true)
def impl_IsMachine.j2 : Nat → Int → List (S78) → Int → Int → Bool → Int → List Bool → List (S78) → Int → Bool → Int → Int → Option (Bool)
 | 0, _, _, _, _, _, _, _, _, _, _, _, _ => none
 | k + 1, m, i, j, l, n, b, c, a, d, e, f, g => if n = true then (some false) else (if 0 ≤ m then (if m ≤ (a.length : Int) then ((some (a.take (m : Int).toNat : List (S78))).bind fun h => (impl_IsMachine.l1 k i j l h (h.length : Int) 0 b c a d e f g)) else (none)) else (none))
def impl_IsMachine.l1 : Nat → List (S78) → Int → Int → List (S78) → Int → Int → Int → List Bool → List (S78) → Int → Bool → Int → Int → Option (Bool)
 | 0, _, _, _, _, _, _, _, _, _, _, _, _, _ => none
 | k + 1, j, l, m, i, n, h, a, b, c, d, e, f, g => if h < n then (if 0 ≤ h then (if h < (i.length : Int) then (if ((rd_T78 i h).f0) = d then (if (((rd_T78 i h).f1) != e) = true then (some false) else (if ((rd_T78 i h).f2) = f then (some false) else (impl_IsMachine.l1 k j l m i n (wrap64 (h + 1)) a b c d e f g))) else (impl_IsMachine.l1 k j l m i n (wrap64 (h + 1)) a b c d e f g)) else (none)) else (none)) else (impl_IsMachine.l0 k j l (wrap64 (m + 1)) a b c)
end
def impl_IsMachine.f (k : Nat) (a : Int) (b : List Bool) (c : List (S78)) : Option (Bool) := (impl_InRange.f a 1 6).bind fun d => (if d = true then (if (b.length : Int) = a then (impl_IsMachine.j0 k (decide ((c.length : Int) > 12)) a b c) else (impl_IsMachine.j0 k true a b c)) else (impl_IsMachine.j0 k true a b c))
theorem impl_IsMachine.mono_l : ∀ k, (∀ a b e f, LeO (impl_IsMachine.j0 k a b e f) (impl_IsMachine.j0 (k + 1) a b e f)) ∧ (∀ a b e f g i, LeO (impl_IsMachine.l0 k a b e f g i) (impl_IsMachine.l0 (k + 1) a b e f g i)) ∧ (∀ a b e f g i l m n o c d, LeO (impl_IsMachine.j2 k a b e f g i l m n o c d) (impl_IsMachine.j2 (k + 1) a b e f g i l m n o c d)) ∧ (∀ a b e f g i l m n o c d j, LeO (impl_IsMachine.l1 k a b e f g i l m n o c d j) (impl_IsMachine.l1 (k + 1) a b e f g i l m n o c d j))
 | 0 => ⟨fun _ _ _ _ r h => by simp [impl_IsMachine.j0] at h, fun _ _ _ _ _ _ r h => by simp [impl_IsMachine.l0] at h, fun _ _ _ _ _ _ _ _ _ _ _ _ r h => by simp [impl_IsMachine.j2] at h, fun _ _ _ _ _ _ _ _ _ _ _ _ _ r h => by simp [impl_IsMachine.l1] at h⟩
 | k + 1 => by
  obtain ⟨ih0, ih1, ih2, ih3⟩ := impl_IsMachine.mono_l k
  refine ⟨?_, ?_, ?_, ?_⟩
  ·intro a b e f
   unfold impl_IsMachine.j0
   exact mo4_ ih0 ih1 ih2 ih3
  ·intro a b e f g i
   unfold impl_IsMachine.l0
   exact mo4_ ih0 ih1 ih2 ih3
  ·intro a b e f g i l m n o c d
   unfold impl_IsMachine.j2
   exact mo4_ ih0 ih1 ih2 ih3
  ·intro a b e f g i l m n o c d j
   unfold impl_IsMachine.l1
   exact mo4_ ih0 ih1 ih2 ih3
theorem impl_IsMachine.mono : ∀ a b c k, LeO (impl_IsMachine.f k a b c) (impl_IsMachine.f (k + 1) a b c) := by
 intro a b c k
 obtain ⟨ih0, ih1, ih2, ih3⟩ := impl_IsMachine.mono_l k
 unfold impl_IsMachine.f
 exact mo4_ ih0 ih1 ih2 ih3
theorem impl_IsMachine.calls (k : Nat) (g : Int) (z : Option Addr) (D : Nat) (p : List Bool) (Q : Option Addr) (x : Nat) (b : List (S78)) (r : Bool) (w : World) (hr0_1 : Kd.C Kd.bool w z p.length p) (am : p.length ≤ D) (hr0_2 : Kd.C k78 w Q b.length b) (an : b.length ≤ x) (h : impl_IsMachine.f k g p b = some r) :
  Calls Try.prog 55 #[.agg #[.int .i64 g, .slice z p.length D, .slice Q b.length x]] w fun e w' => e = .returned (.bool r) ∧ Below w.heap.size w w' := by
 have hu34 := Try.underlying34
 have hu78 := Try.underlying78
 have a6 := Q_ hr0_1
 have a4 := Q_ am
 clear hr0_1 am
 have ah := Q_ hr0_2
 have aJ := Q_ an
 clear hr0_2 an
 have HB := Q_ (Below.refl w.heap.size w)
 have H : ((impl_InRange.f g 1 6).bind fun av => (if av = true then (if (p.length : Int) = g then (impl_IsMachine.j0 k (decide ((b.length : Int) > 12)) g p b) else (impl_IsMachine.j0 k true g p b)) else (impl_IsMachine.j0 k true g p b))) = some r := h
 clear h
 have aK := Q_ H
 clear H
 go_enter Try.func55, Try.ntmps55
 go_upto_region 1 with (first | ((with_reducible refine gate_dst (N := 1) rfl ?_); (try (refine gate_guard (by rfl) ?_; dsimp only)); refine bx_ 1 #[.int .i64 g, .slice z p.length D, .slice Q b.length x] 34 ?_; intro M hg w3 hbox hb; have _ := Q_ (below_step (pb_ HB.1) hb); have c := Q_ (hbox); have aG := Q_ (gw_ (w := w) hg (pb_ HB.1)); have l := aG; clear HB; rename_i HB; clear hb hbox hg))
 (try simp only [Act.put, s1_, s2_, s3_])
 go_cut [24] (fun cc wc => ∃ (kq : Nat) (O : Bool), cc = .bool O ∧ Aside0 (impl_IsMachine.j0 kq O g p b = some r) ∧ Aside0 (kq ≤ k) ∧ Aside0 (wc.heap[M]? = some (.cells #[.int .i64 g, (.slice z p.length D), (.slice Q b.length x)] 34 (0, 0))) ∧ Aside0 (Below w.heap.size w wc))
 case first =>
  have H := aK.1
  clear aK
  obtain ⟨av, A4, H⟩ := bs_ H
  (try dsimp only at H)
  by_cases c5 : av = true
  rotate_left
  ·replace c5 := bf_ c5
   subst c5
   rw [if_neg ff_] at H
   have H' := Q_ H
   clear H
   have cg := bc3_ c.1
   go_wp2_with (first | ((with_reducible refine gate_callee (f := 47) rfl ?_); refine gl_ (some 9) Try.func47 #[.int .i64 g, .int .i64 1, .int .i64 6] ?_; (with_reducible refine (impl_InRange.calls g 1 6 false _ A4.1).mono ?_); rintro e w' ⟨rfl, ⟨nd, rfl⟩⟩; refine ⟨_, rfl, ?_⟩))
   go_meet
   case rel => exact ⟨_, (true), el_, H', ⟨by first | omega | exact Nat.le_refl _⟩, ⟨pk_ c.1⟩, ⟨pb1_ HB.1 l.1⟩⟩
  subst c5
  rw [if_pos rfl] at H
  by_cases c7 : (p.length : Int) = g
  rotate_left
  ·rw [if_neg c7] at H
   have R : ((p.length : Int) == g) = false := beq_eq_false_iff_ne.mpr c7
   have S : ((p.length : Int) != g) = true := bne_iff_ne.mpr c7
   (first | rw [R] | (simp only [i64_w, i32_w]; rw [R]) | rw [S] | (have c_ := S; rw [bne] at c_; rw [c_]; clear c_) | skip)
   have H' := Q_ H
   clear H
   have ch := bc3_ c.1
   go_wp2_with (first | ((with_reducible refine gate_callee (f := 47) rfl ?_); refine gl_ (some 9) Try.func47 #[.int .i64 g, .int .i64 1, .int .i64 6] ?_; (with_reducible refine (impl_InRange.calls g 1 6 true _ A4.1).mono ?_); rintro e w' ⟨rfl, ⟨nd, rfl⟩⟩; refine ⟨_, rfl, ?_⟩))
   go_meet
   case rel => exact ⟨_, (true), el_, H', ⟨by first | omega | exact Nat.le_refl _⟩, ⟨pk_ c.1⟩, ⟨pb1_ HB.1 l.1⟩⟩
  rw [if_pos c7] at H
  have R : ((p.length : Int) == g) = true := beq_iff_eq.mpr c7
  have S : ((p.length : Int) != g) = false := bne_eq_false_iff_eq.mpr c7
  clear c7
  (first | rw [R] | (simp only [i64_w, i32_w]; rw [R]) | rw [S] | (have c_ := S; rw [bne] at c_; rw [c_]; clear c_) | skip)
  have H' := Q_ H
  clear H
  have ci := bc3_ c.1
  go_wp2_with (first | ((with_reducible refine gate_callee (f := 47) rfl ?_); refine gl_ (some 9) Try.func47 #[.int .i64 g, .int .i64 1, .int .i64 6] ?_; (with_reducible refine (impl_InRange.calls g 1 6 true _ A4.1).mono ?_); rintro e w' ⟨rfl, ⟨nd, rfl⟩⟩; refine ⟨_, rfl, ?_⟩))
  go_meet
  case rel => exact ⟨_, (decide ((b.length : Int) > 12)), el_, H', ⟨by first | omega | exact Nat.le_refl _⟩, ⟨pk_ c.1⟩, ⟨pb1_ HB.1 l.1⟩⟩
 clear aK
 obtain ⟨kq, O, rfl, HA, K, c, HB⟩ := hcut
 rcases kq with _ | kj1
 ·exact absurd HA.1 (by simp [impl_IsMachine.j0])
 have H := HA.1
 clear HA
 simp only [impl_IsMachine.j0] at H
 by_cases aw : O = true
 ·subst aw
  rw [if_pos rfl] at H
  obtain rfl := Option.some.inj H
  go_wp2
  go_ret
  exact ⟨er_, pb1_ HB.1 l.1⟩
 replace aw := bf_ aw
 subst aw
 rw [if_neg ff_] at H
 have H' := Q_ H
 clear H
 have bh := bc3_ c.1
 go_wp2
 go_loopg [28] kj1 (fun kq cd w' => ∃ (a : Int), cd = .int .i64 a ∧ Aside0 (impl_IsMachine.l0 kq b (b.length : Int) a g p b = some r) ∧ Aside0 (kq ≤ kj1) ∧ Aside0 (w'.heap[M]? = some (.cells #[.int .i64 g, (.slice z p.length D), (.slice Q b.length x)] 34 (0, 0))) ∧ Aside0 (Below w.heap.size w w'))
 case atStart => exact ⟨(0), el_, H', ⟨Nat.le_refl _⟩, ⟨pk_ c.1⟩, ⟨pb1_ HB.1 l.1⟩⟩
 clear H'
 obtain ⟨a, rfl, HA, L, c, HB⟩ := hrel
 rcases gk with _ | k2
 ·exact absurd HA.1 (by simp [impl_IsMachine.l0])
 have H := HA.1
 clear HA
 simp only [impl_IsMachine.l0] at H
 by_cases ae : a < (b.length : Int)
 rotate_left
 ·rw [if_neg ae] at H
  have aN := decide_eq_false ae
  clear ae
  obtain rfl := Option.some.inj H
  go_wp2
  go_ret
  exact ⟨er_, pb1_ HB.1 l.1⟩
 rw [if_pos ae] at H
 have aN := decide_eq_true ae
 clear ae
 by_cases ax : 0 ≤ a
 rotate_left
 ·rw [if_neg ax] at H
  exact nn_ H
 rw [if_pos ax] at H
 have a7 := decide_eq_true ax
 clear ax
 by_cases ay : a < (b.length : Int)
 rotate_left
 ·rw [if_neg ay] at H
  exact nn_ H
 rw [if_pos ay] at H
 have a8 := decide_eq_true ay
 clear ay
 have ag := Q_ H
 clear H
 have ap : 0 ≤ (a : Int) := dt_
 have ar : a < (b.length : Int) := dt_
 obtain ⟨B, aX, T, U, V, W⟩ := at_T78 ah.1 a ap ar
 cases aX
 replace T := bt_ HB T
 replace U := bt_ HB U
 replace V := bt_ HB V
 replace W := bt_ HB W
 replace ap := eq_true ap
 replace ar := eq_true ar
 go_upto_region 6 with (first | ((with_reducible refine gate_dst (N := 4) rfl ?_); (try (refine gate_guard (by rfl) ?_; dsimp only)); refine bx_ 4 #[.int .i64 0, .bool false, .int .i64 0, .int .i64 0] 78 ?_; intro al hg cj hbox hb; have _ := Q_ (bb_ c.1 hb); have _ := Q_ (below_step (pb1_ HB.1 l.1) hb); have j := Q_ (hbox); have aH := Q_ (gw_ (w := w) hg (pb1_ HB.1 l.1)); have t := aH; have i := Q_ (nb_ hg c); have o := Q_ i.1.symm; clear c HB; rename_i c HB; clear hb hbox hg; have bA := o.1; have bT := i.1; have bi := bc4_ j.1))
 (try simp only [Act.put, s1_, s2_, s3_])
 go_cut [54] (fun ce wc => ∃ (kq : Nat) (y : Bool), ce = .bool y ∧ Aside0 (impl_IsMachine.j2 kq a b (b.length : Int) a y g p b ((rd_T78 b a).f0) ((rd_T78 b a).f1) ((rd_T78 b a).f2) ((rd_T78 b a).f3) = some r) ∧ Aside0 (kq ≤ k2) ∧ Aside0 (wc.heap[M]? = some (.cells #[.int .i64 g, (.slice z p.length D), (.slice (some B) b.length x)] 34 (0, 0))) ∧ Aside0 (wc.heap[al]? = some (.cells #[.int .i64 ((rd_T78 b a).f0), .bool ((rd_T78 b a).f1), .int .i64 ((rd_T78 b a).f2), .int .i64 ((rd_T78 b a).f3)] 78 (0, 0))) ∧ Aside0 (Below w.heap.size w wc))
 case first =>
  have H := ag.1
  clear ag
  obtain ⟨aZ, aF, H⟩ := bs_ H
  (try dsimp only at H)
  by_cases az : aZ = true
  rotate_left
  ·replace az := bf_ az
   subst az
   rw [if_neg ff_] at H
   have H' := Q_ H
   clear H
   have bB := o.1
   have bU := i.1
   have bj := bc4_ j.1
   have bk := bc3_ c.1
   go_wp2_with (first | ((with_reducible refine gate_callee (f := 47) rfl ?_); refine gl_ (some 38) Try.func47 #[.int .i64 ((rd_T78 b a).f0), .int .i64 0, .int .i64 (wrap64 (g - 1))] ?_; (with_reducible refine (impl_InRange.calls ((rd_T78 b a).f0) 0 (wrap64 (g - 1)) false _ aF.1).mono ?_); rintro e w' ⟨rfl, ⟨nd, rfl⟩⟩; refine ⟨_, rfl, ?_⟩))
   go_meet
   case rel => exact ⟨_, (true), el_, H', ⟨by have := K.1; have := L.1; first | omega | exact Nat.le_refl _⟩, ⟨pp_ c.1⟩, ⟨pp_ j.1⟩, ⟨pb2_ HB.1 l.1 t.1⟩⟩
  subst az
  rw [if_pos rfl] at H
  obtain ⟨a0, aW, H⟩ := bs_ H
  (try dsimp only at H)
  by_cases aA : a0 = true
  rotate_left
  ·replace aA := bf_ aA
   subst aA
   rw [if_neg ff_] at H
   have H' := Q_ H
   clear H
   have bC := o.1
   have bV := i.1
   have bl := bc4_ j.1
   have bm := bc3_ c.1
   go_wp2_with (first | ((with_reducible refine gate_callee (f := 47) rfl ?_); refine gl_ (some 38) Try.func47 #[.int .i64 ((rd_T78 b a).f0), .int .i64 0, .int .i64 (wrap64 (g - 1))] ?_; (with_reducible refine (impl_InRange.calls ((rd_T78 b a).f0) 0 (wrap64 (g - 1)) true _ aF.1).mono ?_); rintro e w' ⟨rfl, ⟨nd, rfl⟩⟩; refine ⟨_, rfl, ?_⟩) | (go_at_call 47; (with_reducible refine (impl_InRange.calls ((rd_T78 b a).f3) 0 (wrap64 (g - 1)) false _ aW.1).mono ?_); rintro e w' ⟨rfl, ⟨nd, rfl⟩⟩))
   go_meet
   case rel => exact ⟨_, (true), el_, H', ⟨by have := K.1; have := L.1; first | omega | exact Nat.le_refl _⟩, ⟨pp_ c.1⟩, ⟨pp_ j.1⟩, ⟨pb2_ HB.1 l.1 t.1⟩⟩
  subst aA
  rw [if_pos rfl] at H
  obtain ⟨aE, a2, H⟩ := bs_ H
  (try dsimp only at H)
  have H' := Q_ H
  clear H
  have bD := o.1
  have bW := i.1
  have bn := bc4_ j.1
  have bo := bc3_ c.1
  go_wp2_with (first | ((with_reducible refine gate_callee (f := 47) rfl ?_); refine gl_ (some 38) Try.func47 #[.int .i64 ((rd_T78 b a).f0), .int .i64 0, .int .i64 (wrap64 (g - 1))] ?_; (with_reducible refine (impl_InRange.calls ((rd_T78 b a).f0) 0 (wrap64 (g - 1)) true _ aF.1).mono ?_); rintro e w' ⟨rfl, ⟨nd, rfl⟩⟩; refine ⟨_, rfl, ?_⟩) | (go_at_call 47; (with_reducible refine (impl_InRange.calls ((rd_T78 b a).f3) 0 (wrap64 (g - 1)) true _ aW.1).mono ?_); rintro e w' ⟨rfl, ⟨nd, rfl⟩⟩) | (go_at_call 47; (with_reducible refine (impl_InRange.calls ((rd_T78 b a).f2) 0 5 aE _ a2.1).mono ?_); rintro e w' ⟨rfl, ⟨nd, rfl⟩⟩))
  go_meet
  case rel => exact ⟨_, (!aE), el_, H', ⟨by have := K.1; have := L.1; first | omega | exact Nat.le_refl _⟩, ⟨pp_ c.1⟩, ⟨pp_ j.1⟩, ⟨pb2_ HB.1 l.1 t.1⟩⟩
 clear ag
 obtain ⟨kq, y, rfl, HA, I, c, j, HB⟩ := hcut
 rcases kq with _ | kj14
 ·exact absurd HA.1 (by simp [impl_IsMachine.j2])
 have H := HA.1
 clear HA
 simp only [impl_IsMachine.j2] at H
 by_cases aB : y = true
 ·subst aB
  rw [if_pos rfl] at H
  obtain rfl := Option.some.inj H
  go_wp2
  go_ret
  exact ⟨er_, pb2_ HB.1 l.1 t.1⟩
 replace aB := bf_ aB
 subst aB
 rw [if_neg ff_] at H
 by_cases aj : 0 ≤ a
 rotate_left
 ·rw [if_neg aj] at H
  exact nn_ H
 rw [if_pos aj] at H
 have a9 := eq_true aj
 have ba : decide (0 ≤ a) = true := decide_eq_true aj
 clear aj
 by_cases ak : a ≤ (b.length : Int)
 rotate_left
 ·rw [if_neg ak] at H
  exact nn_ H
 rw [if_pos ak] at H
 have bb := eq_true ak
 have bc : decide (a ≤ (b.length : Int)) = true := decide_eq_true ak
 clear ak
 obtain ⟨n, hy108⟩ : ∃ y_ : List (S78), y_ = (b.take (a : Int).toNat) := ⟨_, rfl⟩
 replace H : (impl_IsMachine.l1 kj14 b (b.length : Int) a n (n.length : Int) 0 g p b ((rd_T78 b a).f0) ((rd_T78 b a).f1) ((rd_T78 b a).f2) ((rd_T78 b a).f3)) = some r := hb_ hy108 H
 have ai := Q_ hy108
 clear hy108
 have H' := Q_ H
 clear H
 have bE := i.1
 have bX := o.1
 have bp := bc3_ c.1
 have aV : (a : Int) ≤ ((b.length : Int) : Int) := dt_
 obtain ⟨i038, ao, _, hsz38, _⟩ := info_parts info78
 have hroom38 : b.length ≤ x := aJ.1
 have hC38 : Kd.C k78 _ (some B) b.length b := ah.1
 have hcut38 := cut_to (P := Try.prog) 32 78 .i64 Try.underlying32 ao (some B) b.length x a dt_ aV hroom38
 have hr38 := Kd.C_take (m := (a : Int).toNat) hC38 (by omega)
 have hy38 : n.length = (a : Int).toNat := (by rw [ai.1, List.length_take]; omega)
 rw [← ai.1] at hr38
 rw [← hy38] at hcut38
 have aL := Q_ hr38
 have a5 := Q_ (show n.length ≤ x from by omega)
 clear hr38 hC38 hroom38 ao hsz38
 have KY38 := Q_ hy38
 clear hy38
 replace aV := eq_true aV
 go_wp2
 go_loopg [60] kj14 (fun kq cf w' => ∃ (d : Int), cf = .int .i64 d ∧ Aside0 (impl_IsMachine.l1 kq b (b.length : Int) a n (n.length : Int) d g p b ((rd_T78 b a).f0) ((rd_T78 b a).f1) ((rd_T78 b a).f2) ((rd_T78 b a).f3) = some r) ∧ Aside0 (kq ≤ kj14) ∧ Aside0 (w'.heap[M]? = some (.cells #[.int .i64 g, (.slice z p.length D), (.slice (some B) b.length x)] 34 (0, 0))) ∧ Aside0 (w'.heap[al]? = some (.cells #[.int .i64 ((rd_T78 b a).f0), .bool ((rd_T78 b a).f1), .int .i64 ((rd_T78 b a).f2), .int .i64 ((rd_T78 b a).f3)] 78 (0, 0))) ∧ Aside0 (Below w.heap.size w w'))
 case atStart => exact ⟨(0), el_, H', ⟨Nat.le_refl _⟩, ⟨pk_ c.1⟩, ⟨pk_ j.1⟩, ⟨pb2_ HB.1 l.1 t.1⟩⟩
 clear H'
 obtain ⟨d, rfl, HA, ad, c, j, HB⟩ := hrel
 rcases gk with _ | k4
 ·exact absurd HA.1 (by simp [impl_IsMachine.l1])
 have H := HA.1
 clear HA
 simp only [impl_IsMachine.l1] at H
 by_cases af : d < (n.length : Int)
 rotate_left
 ·rw [if_neg af] at H
  have aO := decide_eq_false af
  clear af
  have H' := Q_ H
  clear H
  go_wp2
  go_roundg k4
  case measure => have := K.1; have := L.1; have := I.1; have := ad.1; omega
  case rel => exact ⟨(wrap64 (a + 1)), el_, H', ⟨by have := K.1; have := L.1; have := I.1; have := ad.1; omega⟩, ⟨pk_ c.1⟩, ⟨pb2_ HB.1 l.1 t.1⟩⟩
 rw [if_pos af] at H
 have aO := decide_eq_true af
 clear af
 by_cases aC : 0 ≤ d
 rotate_left
 ·rw [if_neg aC] at H
  exact nn_ H
 rw [if_pos aC] at H
 have bd := decide_eq_true aC
 clear aC
 by_cases aD : d < (n.length : Int)
 rotate_left
 ·rw [if_neg aD] at H
  exact nn_ H
 rw [if_pos aD] at H
 have be := decide_eq_true aD
 clear aD
 have HS_ := Q_ H
 clear H
 have aq : 0 ≤ (d : Int) := dt_
 have au : d < (n.length : Int) := dt_
 obtain ⟨aM, aY, X, Y, Z, aa⟩ := at_T78 aL.1 d aq au
 obtain rfl : B = aM := (by injection aY)
 replace X := bt_ HB X
 replace Y := bt_ HB Y
 replace Z := bt_ HB Z
 replace aa := bt_ HB aa
 replace aq := eq_true aq
 replace au := eq_true au
 go_upto_region 11 with (first | ((with_reducible refine gate_dst (N := 6) rfl ?_); (try (refine gate_guard (by rfl) ?_; dsimp only)); refine bx_ 6 #[.int .i64 0, .bool false, .int .i64 0, .int .i64 0] 78 ?_; intro bg hg ck hbox hb; have _ := Q_ (bb_ c.1 hb); have _ := Q_ (bb_ j.1 hb); have _ := Q_ (below_step (pb2_ HB.1 l.1 t.1) hb); have A := Q_ (hbox); have aI := Q_ (gw_ (w := w) hg (pb2_ HB.1 l.1 t.1)); have J := aI; have q := Q_ (nb_ hg c); have u := Q_ q.1.symm; have s := Q_ (nb_ hg j); have v := Q_ s.1.symm; clear c j HB; rename_i c j HB; clear hb hbox hg; have bF := u.1; have bY := q.1; have bG := v.1; have bZ := s.1; have bq := bc4_ A.1))
 (try simp only [Act.put, s1_, s2_, s3_])
 have H := HS_.1
 clear HS_
 by_cases ab : ((rd_T78 n d).f0) = ((rd_T78 b a).f0)
 rotate_left
 ·rw [if_neg ab] at H
  have E : (((rd_T78 n d).f0) == ((rd_T78 b a).f0)) = false := beq_eq_false_iff_ne.mpr ab
  have F : (((rd_T78 n d).f0) != ((rd_T78 b a).f0)) = true := bne_iff_ne.mpr ab
  (first | rw [E] | (simp only [i64_w, i32_w]; rw [E]) | rw [F] | (have c_ := F; rw [bne] at c_; rw [c_]; clear c_) | skip)
  have H' := Q_ H
  clear H
  have bH := u.1
  have b0 := q.1
  have bI := v.1
  have b1 := s.1
  have br := bc4_ A.1
  have bJ := o.1
  have b2 := i.1
  have bs := bc4_ j.1
  go_wp2
  go_roundg k4
  case measure => have := K.1; have := L.1; have := I.1; have := ad.1; omega
  case rel => exact ⟨(wrap64 (d + 1)), el_, H', ⟨by have := K.1; have := L.1; have := I.1; have := ad.1; omega⟩, ⟨pp_ c.1⟩, ⟨pp_ j.1⟩, ⟨pb3_ HB.1 l.1 t.1 J.1⟩⟩
 rw [if_pos ab] at H
 have E : (((rd_T78 n d).f0) == ((rd_T78 b a).f0)) = true := beq_iff_eq.mpr ab
 have F : (((rd_T78 n d).f0) != ((rd_T78 b a).f0)) = false := bne_eq_false_iff_eq.mpr ab
 clear ab
 (first | rw [E] | (simp only [i64_w, i32_w]; rw [E]) | rw [F] | (have c_ := F; rw [bne] at c_; rw [c_]; clear c_) | skip)
 by_cases G : (((rd_T78 n d).f1) != ((rd_T78 b a).f1)) = true
 ·rw [if_pos G] at H
  have aP : (((rd_T78 n d).f1) != ((rd_T78 b a).f1)) = true := G
  (try (have aQ : decide (((rd_T78 n d).f1) = ((rd_T78 b a).f1)) = false := by simpa using G))
  (try (have aR : (((rd_T78 n d).f1) == ((rd_T78 b a).f1)) = false := by simpa using G))
  (try (have bf : ¬ (((rd_T78 n d).f1) = ((rd_T78 b a).f1)) := by simpa using G))
  clear G
  obtain rfl := Option.some.inj H
  have bK := u.1
  have b3 := q.1
  have bL := v.1
  have b4 := s.1
  have bt := bc4_ A.1
  have bM := o.1
  have b5 := i.1
  have bu := bc4_ j.1
  go_wp2
  go_ret
  exact ⟨er_, pb3_ HB.1 l.1 t.1 J.1⟩
 rw [if_neg G] at H
 have aP : (((rd_T78 n d).f1) != ((rd_T78 b a).f1)) = false := by simpa using G
 (try (have aQ : decide (((rd_T78 n d).f1) = ((rd_T78 b a).f1)) = true := by simpa using G))
 (try (have aR : (((rd_T78 n d).f1) == ((rd_T78 b a).f1)) = true := by simpa using G))
 clear G
 by_cases ac : ((rd_T78 n d).f2) = ((rd_T78 b a).f2)
 rotate_left
 ·rw [if_neg ac] at H
  have aS : (((rd_T78 n d).f2) == ((rd_T78 b a).f2)) = false := beq_eq_false_iff_ne.mpr ac
  have aT : (((rd_T78 n d).f2) != ((rd_T78 b a).f2)) = true := bne_iff_ne.mpr ac
  have H' := Q_ H
  clear H
  have bN := u.1
  have b6 := q.1
  have bO := v.1
  have b7 := s.1
  have bv := bc4_ A.1
  have bP := o.1
  have b8 := i.1
  have bw := bc4_ j.1
  go_wp2
  go_roundg k4
  case measure => have := K.1; have := L.1; have := I.1; have := ad.1; omega
  case rel => exact ⟨(wrap64 (d + 1)), el_, H', ⟨by have := K.1; have := L.1; have := I.1; have := ad.1; omega⟩, ⟨pp_ c.1⟩, ⟨pp_ j.1⟩, ⟨pb3_ HB.1 l.1 t.1 J.1⟩⟩
 rw [if_pos ac] at H
 have aS : (((rd_T78 n d).f2) == ((rd_T78 b a).f2)) = true := beq_iff_eq.mpr ac
 have aT : (((rd_T78 n d).f2) != ((rd_T78 b a).f2)) = false := bne_eq_false_iff_eq.mpr ac
 clear ac
 obtain rfl := Option.some.inj H
 have bQ := u.1
 have b9 := q.1
 have bR := v.1
 have ca := s.1
 have bx := bc4_ A.1
 have bS := o.1
 have cb := i.1
 have bz := bc4_ j.1
 go_wp2
 go_ret
 exact ⟨er_, pb3_ HB.1 l.1 t.1 J.1⟩

/-! ### slices_Equal_int_int: function 93 -/
def slices_Equal_int_int.l0 : Nat → List Int → List Int → Int → Int → Option (Bool)
 | 0, _, _, _, _ => none
 | k + 1, c, d, b, a => if a < b then (if 0 ≤ a then (if a < (c.length : Int) then (if a < (d.length : Int) then (if (rd c a) = (rd d a) then (slices_Equal_int_int.l0 k c d b (wrap64 (a + 1))) else (some false)) else (none)) else (none)) else (none)) else (some true)
def slices_Equal_int_int.f (k : Nat) (a : List Int) (b : List Int) : Option (Bool) := if (a.length : Int) = (b.length : Int) then (slices_Equal_int_int.l0 k a b (a.length : Int) 0) else (some false)
theorem slices_Equal_int_int.mono_l : ∀ k, (∀ a b c d, LeO (slices_Equal_int_int.l0 k a b c d) (slices_Equal_int_int.l0 (k + 1) a b c d))
 | 0 => fun _ _ _ _ r h => by simp [slices_Equal_int_int.l0] at h
 | k + 1 => by
  have ih0 := slices_Equal_int_int.mono_l k
  ·intro a b c d
   unfold slices_Equal_int_int.l0
   exact mo1_ ih0
theorem slices_Equal_int_int.mono : ∀ a b k, LeO (slices_Equal_int_int.f k a b) (slices_Equal_int_int.f (k + 1) a b) := by
 intro a b k
 have ih0 := slices_Equal_int_int.mono_l k
 unfold slices_Equal_int_int.f
 exact mo1_ ih0
theorem slices_Equal_int_int.calls (k : Nat) (N : Option Addr) (P : Nat) (b : List Int) (O : Option Addr) (Q : Nat) (c : List Int) (r : Bool) (w : World) (hr0 : Kd.C (Kd.int .i64) w N b.length b) (G : b.length ≤ P) (hr1 : Kd.C (Kd.int .i64) w O c.length c) (I : c.length ≤ Q) (h : slices_Equal_int_int.f k b c = some r) :
  Calls Try.prog 93 #[.slice N b.length P, .slice O c.length Q] w fun e w' => e = .returned (.bool r) ∧ Drawn0 w w' := by
 have x := Q_ hr0
 have U := Q_ G
 clear hr0 G
 have y := Q_ hr1
 have V := Q_ I
 clear hr1 I
 have H : (if (b.length : Int) = (c.length : Int) then (slices_Equal_int_int.l0 k b c (b.length : Int) 0) else (some false)) = some r := h
 clear h
 by_cases l : (b.length : Int) = (c.length : Int)
 rotate_left
 ·rw [if_neg l] at H
  have z : ((b.length : Int) == (c.length : Int)) = false := beq_eq_false_iff_ne.mpr l
  have A : ((b.length : Int) != (c.length : Int)) = true := bne_iff_ne.mpr l
  have B : (b.length == c.length) = false := by first | simpa using l | (simp at l ⊢; omega)
  obtain rfl := Option.some.inj H
  go_enter Try.func93, Try.ntmps93
  go_wp2
  repeat (go_quiet (fail); try go_wp2)
  go_ret
  exact ⟨by first | rfl | (simp; done) | (simp [*]; done), by repeat (first | exact Drawn0.refl _ | apply Drawn0.step)⟩
 rw [if_pos l] at H
 have z : ((b.length : Int) == (c.length : Int)) = true := beq_iff_eq.mpr l
 have A : ((b.length : Int) != (c.length : Int)) = false := bne_eq_false_iff_eq.mpr l
 have B : (b.length == c.length) = true := by first | simpa using l | (simp at l ⊢; omega)
 clear l
 have H' := Q_ H
 clear H
 go_enter Try.func93, Try.ntmps93
 go_wp2
 repeat (go_quiet (fail); try go_wp2)
 go_loopg [13] k (fun kq M w' => ∃ (a : Int), M = .int .i64 a ∧ Aside0 (slices_Equal_int_int.l0 kq b c (b.length : Int) a = some r) ∧ Aside0 (kq ≤ k) ∧ Drawn0 w w')
 case atStart => exact ⟨(0), el_, H', ⟨Nat.le_refl _⟩, by repeat (first | exact Drawn0.refl _ | apply Drawn0.step)⟩
 clear H'
 obtain ⟨a, rfl, HA, v, ⟨m1, rfl⟩⟩ := hrel
 rcases gk with _ | k1
 ·exact absurd HA.1 (by simp [slices_Equal_int_int.l0])
 have H := HA.1
 clear HA
 simp only [slices_Equal_int_int.l0] at H
 by_cases u : a < (b.length : Int)
 rotate_left
 ·rw [if_neg u] at H
  have D := decide_eq_false u
  clear u
  obtain rfl := Option.some.inj H
  go_wp2
  repeat (go_quiet (fail); try go_wp2)
  go_ret
  exact ⟨by first | rfl | (simp; done) | (simp [*]; done), by repeat (first | exact Drawn0.refl _ | apply Drawn0.step)⟩
 rw [if_pos u] at H
 have D := decide_eq_true u
 clear u
 by_cases J : 0 ≤ a
 rotate_left
 ·rw [if_neg J] at H
  exact nn_ H
 rw [if_pos J] at H
 have R := decide_eq_true J
 clear J
 by_cases K : a < (b.length : Int)
 rotate_left
 ·rw [if_neg K] at H
  exact nn_ H
 rw [if_pos K] at H
 have S := decide_eq_true K
 clear K
 by_cases L : a < (c.length : Int)
 rotate_left
 ·rw [if_neg L] at H
  exact nn_ H
 rw [if_pos L] at H
 have T := decide_eq_true L
 clear L
 by_cases t : (rd b a) = (rd c a)
 rotate_left
 ·rw [if_neg t] at H
  have E : ((rd b a) == (rd c a)) = false := beq_eq_false_iff_ne.mpr t
  have F : ((rd b a) != (rd c a)) = true := bne_iff_ne.mpr t
  obtain rfl := Option.some.inj H
  have d : 0 ≤ (a : Int) := dt_
  have i : a < (b.length : Int) := dt_
  obtain ⟨q, m, o⟩ := Kd.at_int x.1 a d i
  cases m
  replace d := eq_true d
  replace i := eq_true i
  have g : 0 ≤ (a : Int) := dt_
  have j : a < (c.length : Int) := dt_
  obtain ⟨s, n, p⟩ := Kd.at_int y.1 a g j
  cases n
  replace g := eq_true g
  replace j := eq_true j
  go_wp2
  repeat (go_quiet (fail); try go_wp2)
  go_ret
  exact ⟨by first | rfl | (simp; done) | (simp [*]; done), by repeat (first | exact Drawn0.refl _ | apply Drawn0.step)⟩
 rw [if_pos t] at H
 have E : ((rd b a) == (rd c a)) = true := beq_iff_eq.mpr t
 have F : ((rd b a) != (rd c a)) = false := bne_eq_false_iff_eq.mpr t
 clear t
 have H' := Q_ H
 clear H
 have d : 0 ≤ (a : Int) := dt_
 have i : a < (b.length : Int) := dt_
 obtain ⟨q, m, o⟩ := Kd.at_int x.1 a d i
 cases m
 replace d := eq_true d
 replace i := eq_true i
 have g : 0 ≤ (a : Int) := dt_
 have j : a < (c.length : Int) := dt_
 obtain ⟨s, n, p⟩ := Kd.at_int y.1 a g j
 cases n
 replace g := eq_true g
 replace j := eq_true j
 go_wp2
 repeat (go_quiet (fail); try go_wp2)
 go_roundg k1
 case measure => have := v.1; omega
 case rel => exact ⟨(wrap64 (a + 1)), el_, H', ⟨by have := v.1; omega⟩, by repeat (first | exact Drawn0.refl _ | apply Drawn0.step)⟩

/-! ### cmp_isNaN_int: function 120 -/
def cmp_isNaN_int.f (a : Int) : Option (Bool) := some (a != a)
theorem cmp_isNaN_int.calls (a : Int) (r : Bool) (w : World) (h : cmp_isNaN_int.f a = some r) :
  Calls Try.prog 120 #[.int .i64 a] w fun e w' => e = .returned (.bool r) ∧ Drawn0 w w' := by
 have H : (some (a != a)) = some r := h
 clear h
 obtain rfl := Option.some.inj H
 go_enter Try.func120, Try.ntmps120
 go_wp2
 go_ret
 exact ⟨by first | rfl | (simp; done) | (simp [*]; done), by repeat (first | exact Drawn0.refl _ | apply Drawn0.step)⟩

/-! ### cmp_Less_int: function 110 -/
def cmp_Less_int.f (c : Int) (d : Int) : Option (Bool) := (cmp_isNaN_int.f c).bind fun a => (if a = true then ((cmp_isNaN_int.f d).bind fun b => (if b = true then (some (decide (c < d))) else (some true))) else (some (decide (c < d))))
theorem cmp_Less_int.calls (b : Int) (d : Int) (r : Bool) (w : World) (h : cmp_Less_int.f b d = some r) :
  Calls Try.prog 110 #[.int .i64 b, .int .i64 d] w fun e w' => e = .returned (.bool r) ∧ Drawn0 w w' := by
 have H : ((cmp_isNaN_int.f b).bind fun c => (if c = true then ((cmp_isNaN_int.f d).bind fun a => (if a = true then (some (decide (b < d))) else (some true))) else (some (decide (b < d))))) = some r := h
 clear h
 obtain ⟨c, j, H⟩ := bs_ H
 (try dsimp only at H)
 by_cases g : c = true
 rotate_left
 ·replace g := bf_ g
  subst g
  rw [if_neg ff_] at H
  obtain rfl := Option.some.inj H
  go_enter Try.func110, Try.ntmps110
  go_wp2_with (first | ((with_reducible refine gate_callee (f := 120) rfl ?_); refine gl_ (some 6) Try.func120 #[.int .i64 b] ?_; (with_reducible refine (cmp_isNaN_int.calls b false _ j.1).mono ?_); rintro e w' ⟨rfl, ⟨nd, rfl⟩⟩; refine ⟨_, rfl, ?_⟩))
  go_ret
  exact ⟨by first | rfl | (simp; done) | (simp [*]; done), by repeat (first | exact Drawn0.refl _ | apply Drawn0.step)⟩
 subst g
 rw [if_pos rfl] at H
 obtain ⟨a, k, H⟩ := bs_ H
 replace H : (if a = true then (some (decide (b < d))) else (some true)) = some r := H
 by_cases i : a = true
 rotate_left
 ·replace i := bf_ i
  subst i
  rw [if_neg ff_] at H
  obtain rfl := Option.some.inj H
  go_enter Try.func110, Try.ntmps110
  go_wp2_with (first | ((with_reducible refine gate_callee (f := 120) rfl ?_); refine gl_ (some 6) Try.func120 #[.int .i64 b] ?_; (with_reducible refine (cmp_isNaN_int.calls b true _ j.1).mono ?_); rintro e w' ⟨rfl, ⟨nd, rfl⟩⟩; refine ⟨_, rfl, ?_⟩) | (go_at_call 120; (with_reducible refine (cmp_isNaN_int.calls d false _ k.1).mono ?_); rintro e w' ⟨rfl, ⟨nd, rfl⟩⟩))
  go_ret
  exact ⟨by first | rfl | (simp; done) | (simp [*]; done), by repeat (first | exact Drawn0.refl _ | apply Drawn0.step)⟩
 subst i
 rw [if_pos rfl] at H
 obtain rfl := Option.some.inj H
 go_enter Try.func110, Try.ntmps110
 go_wp2_with (first | ((with_reducible refine gate_callee (f := 120) rfl ?_); refine gl_ (some 6) Try.func120 #[.int .i64 b] ?_; (with_reducible refine (cmp_isNaN_int.calls b true _ j.1).mono ?_); rintro e w' ⟨rfl, ⟨nd, rfl⟩⟩; refine ⟨_, rfl, ?_⟩) | (go_at_call 120; (with_reducible refine (cmp_isNaN_int.calls d true _ k.1).mono ?_); rintro e w' ⟨rfl, ⟨nd, rfl⟩⟩))
 go_ret
 exact ⟨by first | rfl | (simp; done) | (simp [*]; done), by repeat (first | exact Drawn0.refl _ | apply Drawn0.step)⟩

end Go.Proofs.Ytldcchjbaglppaa.Print
