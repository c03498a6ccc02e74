-- Written by a program of this session (printx.py) out of the translation; Lean checks it.
import Derived.Test.YtldcchjbaglppaaPrint0
import Derived.Test.YtldcchjbaglppaaPrint6
namespace Go.Proofs.Ytldcchjbaglppaa.Print
open Go.RowKit Go.Proofs.YtldcchjbaglppaaW.PrintWords Go.Proofs.YtldcchjbaglppaaW.PrintLast Go.Proofs.YtldcchjbaglppaaW.PrintMore Go.Proofs.Ytldcchjbaglppaa.Short
attribute [local go_sem] max2_int min2_int max_two min_two max_three min_three max_four min_four   -- for this text's walks alone
set_option linter.unusedVariables false
set_option maxHeartbeats 8000000
set_option maxRecDepth 100000
set_option linter.unusedSimpArgs false

/-! ### impl_NextOnly: function 32 -/
mutual
def impl_NextOnly.j0 : Nat → List (S34) → List (S34) → Bool → Option (Bool)
 | 0, _, _, _ => none
 | k + 1, b, c, a => if a = true then (some false) else (impl_NextOnly.l0 k c false b (b.length : Int) 0)
def impl_NextOnly.l0 : Nat → List (S34) → Bool → List (S34) → Int → Int → Option (Bool)
 | 0, _, _, _, _, _ => none
 | k + 1, c, h, b, d, a => if a < d then (if 0 ≤ a then (if a < (b.length : Int) then (if a < (c.length : Int) then ((impl_IsSafe.f k ((rd_T34 b a).f0) ((rd_T34 b a).f1) ((rd_T34 b a).f2) ((rd_T34 c a).f0) ((rd_T34 c a).f1) ((rd_T34 c a).f2)).bind fun e => (if e = true then (if a > 0 then (if 0 ≤ (wrap64 (a - 1)) then (if (wrap64 (a - 1)) < (c.length : Int) then ((impl_IsSafe.f k ((rd_T34 b a).f0) ((rd_T34 b a).f1) ((rd_T34 b a).f2) ((rd_T34 c (wrap64 (a - 1))).f0) ((rd_T34 c (wrap64 (a - 1))).f1) ((rd_T34 c (wrap64 (a - 1))).f2)).bind fun g => (impl_NextOnly.j2 k c h a b d a (!g) ((rd_T34 b a).f0) ((rd_T34 b a).f1) ((rd_T34 b a).f2))) else (none)) else (none)) else (impl_NextOnly.j2 k c h a b d a false ((rd_T34 b a).f0) ((rd_T34 b a).f1) ((rd_T34 b a).f2))) else (impl_NextOnly.j2 k c h a b d a true ((rd_T34 b a).f0) ((rd_T34 b a).f1) ((rd_T34 b a).f2)))) else (none)) else (none)) else (none)) else (some h)
def impl_NextOnly.j2 : Nat → List (S34) → Bool → Int → List (S34) → Int → Int → Bool → Int → List Bool → List (S78) → Option (Bool)
 | 0, _, _, _, _, _, _, _, _, _, _ => none
 | k + 1, h, i, j, d, e, f, g, a, b, c => if g = true then (some false) else (impl_NextOnly.l1 k h i d e f j 0 a b c)
def impl_NextOnly.l1 : Nat → List (S34) → Bool → List (S34) → Int → Int → Int → Int → Int → List Bool → List (S78) → Option (Bool)
 | 0, _, _, _, _, _, _, _, _, _, _ => none
 | k + 1, e, m, g, h, i, j, d, a, b, c => if d < j then (if m = true then (impl_NextOnly.l1 k e true g h i j (wrap64 (d + 1)) a b c) else (if 0 ≤ d then (if d < (e.length : Int) then ((impl_IsSafe.f k a b c ((rd_T34 e d).f0) ((rd_T34 e d).f1) ((rd_T34 e d).f2)).bind fun l => (impl_NextOnly.l1 k e (!l) g h i j (wrap64 (d + 1)) a b c)) else (none)) else (none))) else (impl_NextOnly.l0 k e m g h (wrap64 (i + 1)))
end
def impl_NextOnly.f (k : Nat) (a : List (S34)) (b : List (S34)) : Option (Bool) := if (a.length : Int) = (b.length : Int) then (impl_NextOnly.j0 k a b (decide ((a.length : Int) < 2))) else (impl_NextOnly.j0 k a b true)
theorem impl_NextOnly.mono_l : ∀ k, (∀ a b c, LeO (impl_NextOnly.j0 k a b c) (impl_NextOnly.j0 (k + 1) a b c)) ∧ (∀ a b c d e, LeO (impl_NextOnly.l0 k a b c d e) (impl_NextOnly.l0 (k + 1) a b c d e)) ∧ (∀ a b c d e f g i j l, LeO (impl_NextOnly.j2 k a b c d e f g i j l) (impl_NextOnly.j2 (k + 1) a b c d e f g i j l)) ∧ (∀ a b c d e f g i j l, LeO (impl_NextOnly.l1 k a b c d e f g i j l) (impl_NextOnly.l1 (k + 1) a b c d e f g i j l))
 | 0 => ⟨fun _ _ _ r h => by simp [impl_NextOnly.j0] at h, fun _ _ _ _ _ r h => by simp [impl_NextOnly.l0] at h, fun _ _ _ _ _ _ _ _ _ _ r h => by simp [impl_NextOnly.j2] at h, fun _ _ _ _ _ _ _ _ _ _ r h => by simp [impl_NextOnly.l1] at h⟩
 | k + 1 => by
  obtain ⟨ih0, ih1, ih2, ih3⟩ := impl_NextOnly.mono_l k
  refine ⟨?_, ?_, ?_, ?_⟩
  ·intro a b c
   unfold impl_NextOnly.j0
   exact mo5_ ih0 ih1 ih2 ih3 impl_IsSafe.mono
  ·intro a b c d e
   unfold impl_NextOnly.l0
   exact mo5_ ih0 ih1 ih2 ih3 impl_IsSafe.mono
  ·intro a b c d e f g i j l
   unfold impl_NextOnly.j2
   exact mo5_ ih0 ih1 ih2 ih3 impl_IsSafe.mono
  ·intro a b c d e f g i j l
   unfold impl_NextOnly.l1
   exact mo5_ ih0 ih1 ih2 ih3 impl_IsSafe.mono
theorem impl_NextOnly.mono : ∀ a b k, LeO (impl_NextOnly.f k a b) (impl_NextOnly.f (k + 1) a b) := by
 intro a b k
 obtain ⟨ih0, ih1, ih2, ih3⟩ := impl_NextOnly.mono_l k
 unfold impl_NextOnly.f
 exact mo5_ ih0 ih1 ih2 ih3 impl_IsSafe.mono
def impl_NextOnly.T7 : Bool × List (List Nat × List Nat) := (true, [([], []), ([], []), ([], []), ([1, 2], [1, 2]), ([3], [3]), ([0, 4], [0, 4]), ([5], [5]), ([6, 5], [6]), ([7], [7]), ([8, 7], [7, 8]), ([9, 7, 7], [7, 9]), ([10], [10]), ([10], [10]), ([10], [10]), ([13, 10], [10, 13]), ([12, 14, 10], [10, 12, 14]), ([15, 10], [10, 15]), ([11, 16, 10, 10], [10, 11, 16]), ([17, 10], [10, 17]), ([10, 18, 7], [7, 10, 18]), ([7, 19], [7, 19])])
def impl_NextOnly.B7 : List Nat := [0, 0, 0, 6, 14, 31, 63, 127, 255, 511, 1023, 2047, 2047, 2047, 10239, 30719, 63487, 131071, 262143, 524287, 1048575]
theorem impl_NextOnly.tab7 : rtab .any (opsOf Try.f32 7) = impl_NextOnly.T7 := by kernel_rfl
theorem impl_NextOnly.bits7 : waitsOk impl_NextOnly.T7.2 impl_NextOnly.B7 = true := by kernel_rfl
def impl_NextOnly.T12 : Bool × List (List Nat × List Nat) := (true, [([], []), ([0], [0]), ([1], [1]), ([1], [1]), ([1], [1]), ([3, 4, 1], [1, 3, 4]), ([5, 1], [1, 5]), ([2, 6, 1, 1], [1, 2, 6]), ([7, 1], [1, 7]), ([1, 8], [1, 8]), ([9, 7, 0, 1, 2, 3, 4, 5, 6, 7, 8, 9], [0, 9])])
def impl_NextOnly.B12 : List Nat := [0, 1, 3, 3, 3, 27, 59, 127, 255, 511, 1023]
theorem impl_NextOnly.tab12 : rtab .any (opsOf Try.f32 12) = impl_NextOnly.T12 := by kernel_rfl
theorem impl_NextOnly.bits12 : waitsOk impl_NextOnly.T12.2 impl_NextOnly.B12 = true := by kernel_rfl
theorem impl_NextOnly.calls (k : Nat) (A0 : Option Addr) (c0 : Nat) (d : List (S34)) (A1 : Option Addr) (c1 : Nat) (u : List (S34)) (r : Bool) (w : World) (hr0 : Kd.C k34 w A0 d.length d) (bs : d.length ≤ c0) (hr1 : Kd.C k34 w A1 u.length u) (bt : u.length ≤ c1) (h : impl_NextOnly.f k d u = some r) :
  Calls Try.prog 32 #[.slice A0 d.length c0, .slice A1 u.length c1] w fun e w' => e = .returned (.bool r) ∧ Below w.heap.size w w' := by
 have hu34 := Try.underlying34
 have bB := Q_ hr0
 have bT := Q_ bs
 clear hr0 bs
 have aU := Q_ hr1
 have bU := Q_ bt
 clear hr1 bt
 have HB := Q_ (Below.refl w.heap.size w)
 have H : (if (d.length : Int) = (u.length : Int) then (impl_NextOnly.j0 k d u (decide ((d.length : Int) < 2))) else (impl_NextOnly.j0 k d u true)) = some r := h
 clear h
 have bi := Q_ H
 clear H
 go_enter Try.func32, Try.ntmps32
 go_upto_region 1 with (fail)
 go_cut [18] (fun bI wc => ∃ (kq : Nat) (al : Bool), bI = .bool al ∧ Aside0 (impl_NextOnly.j0 kq d u al = some r) ∧ Aside0 (kq ≤ k) ∧ Aside0 (Below w.heap.size w wc))
 case first =>
  have H := bi.1
  clear bi
  by_cases c4 : (d.length : Int) = (u.length : Int)
  rotate_left
  ·rw [if_neg c4] at H
   have ar : ((d.length : Int) == (u.length : Int)) = false := beq_eq_false_iff_ne.mpr c4
   have au : ((d.length : Int) != (u.length : Int)) = true := bne_iff_ne.mpr c4
   have aX : (d.length == u.length) = false := by first | simpa using c4 | (simp at c4 ⊢; omega)
   (first | rw [ar] | (simp only [i64_w, i32_w]; rw [ar]) | rw [au] | (have c_ := au; rw [bne] at c_; rw [c_]; clear c_) | rw [aX] | skip)
   have H' := Q_ H
   clear H
   go_wp2
   go_meet
   case rel => exact ⟨_, (true), el_, H', ⟨by first | omega | exact Nat.le_refl _⟩, ⟨pb_ HB.1⟩⟩
  rw [if_pos c4] at H
  have ar : ((d.length : Int) == (u.length : Int)) = true := beq_iff_eq.mpr c4
  have au : ((d.length : Int) != (u.length : Int)) = false := bne_eq_false_iff_eq.mpr c4
  have aX : (d.length == u.length) = true := by first | simpa using c4 | (simp at c4 ⊢; omega)
  clear c4
  (first | rw [ar] | (simp only [i64_w, i32_w]; rw [ar]) | rw [au] | (have c_ := au; rw [bne] at c_; rw [c_]; clear c_) | rw [aX] | skip)
  have H' := Q_ H
  clear H
  go_wp2
  go_meet
  case rel => exact ⟨_, (decide ((d.length : Int) < 2)), el_, H', ⟨by first | omega | exact Nat.le_refl _⟩, ⟨pb_ HB.1⟩⟩
 clear bi
 obtain ⟨kq, al, rfl, HA, ai, HB⟩ := hcut
 rcases kq with _ | kj2
 ·exact absurd HA.1 (by simp [impl_NextOnly.j0])
 have H := HA.1
 clear HA
 simp only [impl_NextOnly.j0] at H
 by_cases c5 : al = true
 rotate_left
 ·replace c5 := bf_ c5
  subst c5
  rw [if_neg ff_] at H
  have H' := Q_ H
  clear H
  go_wp2
  go_loopg [5, 21] kj2 (fun kq v5 bJ w' => ∃ (ah : Bool) (a : Int), v5 = .bool ah ∧ bJ = .int .i64 a ∧ Aside0 (impl_NextOnly.l0 kq u ah d (d.length : Int) a = some r) ∧ Aside0 (kq ≤ kj2) ∧ Aside0 (Below w.heap.size w w'))
  case atStart => exact ⟨(false), (0), el_, el_, H', ⟨Nat.le_refl _⟩, ⟨pb_ HB.1⟩⟩
  clear H'
  obtain ⟨ah, a, rfl, rfl, HA, aj, HB⟩ := hrel
  rcases gk with _ | k2
  ·exact absurd HA.1 (by simp [impl_NextOnly.l0])
  have H := HA.1
  clear HA
  simp only [impl_NextOnly.l0] at H
  by_cases c6 : a < (d.length : Int)
  rotate_left
  ·rw [if_neg c6] at H
   have bo := decide_eq_false c6
   clear c6
   obtain rfl := Option.some.inj H
   go_wp2
   go_ret
   exact ⟨er_, pb_ HB.1⟩
  rw [if_pos c6] at H
  have bo := decide_eq_true c6
  clear c6
  by_cases c7 : 0 ≤ a
  rotate_left
  ·rw [if_neg c7] at H
   exact nn_ H
  rw [if_pos c7] at H
  have bR := decide_eq_true c7
  clear c7
  by_cases c8 : a < (d.length : Int)
  rotate_left
  ·rw [if_neg c8] at H
   exact nn_ H
  rw [if_pos c8] at H
  have bS := decide_eq_true c8
  clear c8
  have bj := Q_ H
  clear H
  have aY : 0 ≤ (a : Int) := dt_
  have a1 : a < (d.length : Int) := dt_
  obtain ⟨bC, g, j, i, l, bp, az, aA, aB, O, T, P, U⟩ := at_U34 bB.1 a aY a1
  cases bp
  replace az := bt_ HB az
  replace aA := bt_ HB aA
  replace aB := bt_ HB aB
  replace aY := eq_true aY
  replace a1 := eq_true a1
  go_upto_region 7 with (first | ((with_reducible refine gate_dst (N := 7) rfl ?_); (try (refine gate_guard (by rfl) ?_; dsimp only)); refine bx_ 7 #[.int .i64 0, .slice none 0 0, .slice none 0 0] 34 ?_; intro c hg ak hbox hb; have _ := Q_ (below_step (pb_ HB.1) hb); have b := Q_ (hbox); have bh := Q_ (gw_ (w := w) hg (pb_ HB.1)); have v := bh; clear HB; rename_i HB; clear hb hbox hg; have bH := bc3_ b.1))
  (try simp only [Act.put, s1_, s2_, s3_])
  go_cut [46] (fun bK wc => ∃ (kq : Nat) (am : Bool), bK = .bool am ∧ Aside0 (impl_NextOnly.j2 kq u ah a d (d.length : Int) a am ((rd_T34 d a).f0) ((rd_T34 d a).f1) ((rd_T34 d a).f2) = some r) ∧ Aside0 (kq ≤ k2) ∧ Aside0 (wc.heap[c]? = some (.cells #[.int .i64 ((rd_T34 d a).f0), (.slice g ((rd_T34 d a).f1).length j), (.slice i ((rd_T34 d a).f2).length l)] 34 (0, 0))) ∧ Aside0 (Below w.heap.size w wc))
  case first =>
   have H := bj.1
   clear bj
   by_cases a8 : a < (u.length : Int)
   rotate_left
   ·rw [if_neg a8] at H
    exact nn_ H
   rw [if_pos a8] at H
   have aV := decide_eq_true a8
   clear a8
   (first | rw [aV] | (simp only [i64_w, i32_w]; rw [aV]) | skip)
   obtain ⟨bu, a7, H⟩ := bs_ H
   (try dsimp only at H)
   by_cases a9 : bu = true
   rotate_left
   ·replace a9 := bf_ a9
    subst a9
    rw [if_neg ff_] at H
    have H' := Q_ H
    clear H
    try go_wp2
    have n0_ : Aside0 ((((ak.setCell ⟨c, 0, none⟩ (.int .i64 ((rd_T34 d a).f0))).setCell ⟨c, 1, none⟩ (.slice g ((rd_T34 d a).f1).length j)).setCell ⟨c, 2, none⟩ (.slice i ((rd_T34 d a).f2).length l)).heap[c]? = some (.cells #[.int .i64 ((rd_T34 d a).f0), .slice g ((rd_T34 d a).f1).length j, .slice i ((rd_T34 d a).f2).length l] 34 (0, 0))) := ⟨pp_ b.1⟩
    have n1_ : Aside0 (Below w.heap.size w (((ak.setCell ⟨c, 0, none⟩ (.int .i64 ((rd_T34 d a).f0))).setCell ⟨c, 1, none⟩ (.slice g ((rd_T34 d a).f1).length j)).setCell ⟨c, 2, none⟩ (.slice i ((rd_T34 d a).f2).length l))) := ⟨pb1_ HB.1 v.1⟩
    (try clear b)
    (try clear HB)
    generalize (((ak.setCell ⟨c, 0, none⟩ (.int .i64 ((rd_T34 d a).f0))).setCell ⟨c, 1, none⟩ (.slice g ((rd_T34 d a).f1).length j)).setCell ⟨c, 2, none⟩ (.slice i ((rd_T34 d a).f2).length l)) = a4 at n0_ n1_ ⊢
    (try (rw [show a4.drewN nd = a4.drewN nd from rfl]; replace n0_ := Q_ (blk_drewN n0_.1 nd); replace n1_ := Q_ (pw_below_drewN n1_.1 nd); generalize a4.drewN nd = a4 at n0_ n1_ ⊢))
    have b := n0_
    have HB := n1_
    clear n0_ n1_
    have _ := Q_ (blk_drew b.1)
    have _ := Q_ (below_drew1 HB.1)
    clear b HB
    rename_i b HB
    have V : 0 ≤ (a : Int) := dt_
    have W : a < (u.length : Int) := dt_
    obtain ⟨o, I, L, J, M, av, p, q, s, F, D, G, E⟩ := at_T34 aU.1 a V W
    have z := s
    have y := q
    have x := p
    cases av
    replace p := bt_ HB p
    replace q := bt_ HB q
    replace s := bt_ HB s
    have A := Q_ D
    have Q := Q_ F
    clear D F
    have B := Q_ E
    have R := Q_ G
    clear E G
    replace V := eq_true V
    replace W := eq_true W
    refine start_ (n := 21) (S := fun w' => w'.cell? ⟨c, 0, none⟩ = some (.int .i64 ((rd_T34 d a).f0)) ∧ w'.cell? ⟨c, 1, none⟩ = some (.slice g ((rd_T34 d a).f1).length j) ∧ w'.cell? ⟨c, 2, none⟩ = some (.slice i ((rd_T34 d a).f2).length l) ∧ w'.cell? (o.add ((a).toNat * 3)) = some (.int .i64 ((rd_T34 u a).f0)) ∧ w'.cell? ⟨(o.add ((a).toNat * 3)).block, (o.add ((a).toNat * 3)).off + 1, none⟩ = some (.slice I ((rd_T34 u a).f1).length L) ∧ w'.cell? ⟨(o.add ((a).toNat * 3)).block, (o.add ((a).toNat * 3)).off + 2, none⟩ = some (.slice J ((rd_T34 u a).f2).length M)) (ds := []) (tf_ 0 21) (by kernel_rfl) rfl rfl ⟨(blk_cell b.1 0).trans rfl, (blk_cell b.1 1).trans rfl, (blk_cell b.1 2).trans rfl, (bt_ HB x), (bt_ HB y), (bt_ HB z)⟩ (fun hHeld => ?_); refine with_tabW impl_NextOnly.tab7 impl_NextOnly.bits7 (fun HT_ HW_ => ?_)
    generalize a4.drew = bV at b HB A B p q s hHeld ⊢
    refine pu1_ 1 27 21 2 ?_
    refine pu1_ 2 28 21 6 ?_
    refine pu1_ 3 29 21 14 ?_
    refine ta1_ 0 26 21 15 hHeld ?_
    refine ta1_ 4 30 21 31 hHeld ?_
    refine on_ 5 (some 31) (tf_ 6 21) HT_ (fun K hK => ?_)
    refine goes_ Try.func42 (by kernel_rfl) rfl #[.agg #[.int .i64 ((rd_T34 d a).f0), .slice g ((rd_T34 d a).f1).length j, .slice i ((rd_T34 d a).f2).length l], .agg #[.int .i64 ((rd_T34 u a).f0), .slice I ((rd_T34 u a).f1).length L, .slice J ((rd_T34 u a).f2).length M]] (by rfl) rfl rfl mp_ ?_
    with_reducible refine (impl_IsSafe.calls k2 ((rd_T34 d a).f0) _ _ ((rd_T34 d a).f1) _ _ ((rd_T34 d a).f2) ((rd_T34 u a).f0) _ _ ((rd_T34 u a).f1) _ _ ((rd_T34 u a).f2) false _ (cb_ T HB) O.1 (cb_ U HB) P.1 (cb_ A HB) Q.1 (cb_ B HB) R.1 a7.1).mono ?_
    rintro e bW ⟨rfl, hb⟩
    refine ⟨_, rfl, ?_⟩
    have _ := Q_ (bb_ b.1 hb)
    have _ := Q_ (below_step (pb1_ HB.1 v.1) hb)
    clear b HB
    rename_i b HB
    (try clear hb)
    refine hK.out _ _ ⟨(blk_cell b.1 0).trans rfl, (blk_cell b.1 1).trans rfl, (blk_cell b.1 2).trans rfl, (bt_ HB x), (bt_ HB y), (bt_ HB z)⟩ (fun hHeld => ?_)
    clear hK K
    refine no_ (some 31) ?_
    refine pu1_ 6 32 21 127 ?_
    refine pu1_ 7 33 21 255 ?_
    refine pn1_ 8 34 21 511 ?_
    refine pn1_ 9 35 21 1023 ?_
    refine pn1_ 10 36 21 2047 ?_
    refine pn1_ 11 37 21 4095 ?_
    refine pn1_ 12 38 21 8191 ?_
    refine pn1_ 13 39 21 16383 ?_
    refine pn1_ 14 40 21 32767 ?_
    refine pn1_ 15 41 21 65535 ?_
    refine pn1_ 16 42 21 131071 ?_
    refine pn1_ 17 43 21 262143 ?_
    refine pn1_ 18 44 21 524287 ?_
    refine pn1_ 19 45 21 1048575 ?_
    refine pu1_ 20 46 21 2097151 ?_
    refine done_ (done_of HT_.1 (by kernel_rfl)) ?_
    try go_wp2
    go_meet
    case rel => exact ⟨_, (true), el_, H', ⟨by have := ai.1; have := aj.1; first | omega | exact Nat.le_refl _⟩, ⟨pk_ b.1⟩, ⟨pb1_ HB.1 v.1⟩⟩
   subst a9
   rw [if_pos rfl] at H
   by_cases aO : a > 0
   rotate_left
   ·rw [if_neg aO] at H
    have bl := decide_eq_false aO
    clear aO
    have H' := Q_ H
    clear H
    try go_wp2
    have n0_ : Aside0 ((((ak.setCell ⟨c, 0, none⟩ (.int .i64 ((rd_T34 d a).f0))).setCell ⟨c, 1, none⟩ (.slice g ((rd_T34 d a).f1).length j)).setCell ⟨c, 2, none⟩ (.slice i ((rd_T34 d a).f2).length l)).heap[c]? = some (.cells #[.int .i64 ((rd_T34 d a).f0), .slice g ((rd_T34 d a).f1).length j, .slice i ((rd_T34 d a).f2).length l] 34 (0, 0))) := ⟨pp_ b.1⟩
    have n1_ : Aside0 (Below w.heap.size w (((ak.setCell ⟨c, 0, none⟩ (.int .i64 ((rd_T34 d a).f0))).setCell ⟨c, 1, none⟩ (.slice g ((rd_T34 d a).f1).length j)).setCell ⟨c, 2, none⟩ (.slice i ((rd_T34 d a).f2).length l))) := ⟨pb1_ HB.1 v.1⟩
    (try clear b)
    (try clear HB)
    generalize (((ak.setCell ⟨c, 0, none⟩ (.int .i64 ((rd_T34 d a).f0))).setCell ⟨c, 1, none⟩ (.slice g ((rd_T34 d a).f1).length j)).setCell ⟨c, 2, none⟩ (.slice i ((rd_T34 d a).f2).length l)) = a5 at n0_ n1_ ⊢
    (try (rw [show a5.drewN nd = a5.drewN nd from rfl]; replace n0_ := Q_ (blk_drewN n0_.1 nd); replace n1_ := Q_ (pw_below_drewN n1_.1 nd); generalize a5.drewN nd = a5 at n0_ n1_ ⊢))
    have b := n0_
    have HB := n1_
    clear n0_ n1_
    have _ := Q_ (blk_drew b.1)
    have _ := Q_ (below_drew1 HB.1)
    clear b HB
    rename_i b HB
    have V : 0 ≤ (a : Int) := dt_
    have W : a < (u.length : Int) := dt_
    obtain ⟨o, I, L, J, M, av, p, q, s, F, D, G, E⟩ := at_T34 aU.1 a V W
    have z := s
    have y := q
    have x := p
    cases av
    replace p := bt_ HB p
    replace q := bt_ HB q
    replace s := bt_ HB s
    have A := Q_ D
    have Q := Q_ F
    clear D F
    have B := Q_ E
    have R := Q_ G
    clear E G
    replace V := eq_true V
    replace W := eq_true W
    refine start_ (n := 21) (S := fun w' => w'.cell? ⟨c, 0, none⟩ = some (.int .i64 ((rd_T34 d a).f0)) ∧ w'.cell? ⟨c, 1, none⟩ = some (.slice g ((rd_T34 d a).f1).length j) ∧ w'.cell? ⟨c, 2, none⟩ = some (.slice i ((rd_T34 d a).f2).length l) ∧ w'.cell? (o.add ((a).toNat * 3)) = some (.int .i64 ((rd_T34 u a).f0)) ∧ w'.cell? ⟨(o.add ((a).toNat * 3)).block, (o.add ((a).toNat * 3)).off + 1, none⟩ = some (.slice I ((rd_T34 u a).f1).length L) ∧ w'.cell? ⟨(o.add ((a).toNat * 3)).block, (o.add ((a).toNat * 3)).off + 2, none⟩ = some (.slice J ((rd_T34 u a).f2).length M)) (ds := []) (tf_ 0 21) (by kernel_rfl) rfl rfl ⟨(blk_cell b.1 0).trans rfl, (blk_cell b.1 1).trans rfl, (blk_cell b.1 2).trans rfl, (bt_ HB x), (bt_ HB y), (bt_ HB z)⟩ (fun hHeld => ?_); refine with_tabW impl_NextOnly.tab7 impl_NextOnly.bits7 (fun HT_ HW_ => ?_)
    generalize a5.drew = bX at b HB A B p q s hHeld ⊢
    refine pu1_ 1 27 21 2 ?_
    refine pu1_ 2 28 21 6 ?_
    refine pu1_ 3 29 21 14 ?_
    refine ta1_ 0 26 21 15 hHeld ?_
    refine ta1_ 4 30 21 31 hHeld ?_
    refine on_ 5 (some 31) (tf_ 6 21) HT_ (fun K hK => ?_)
    refine goes_ Try.func42 (by kernel_rfl) rfl #[.agg #[.int .i64 ((rd_T34 d a).f0), .slice g ((rd_T34 d a).f1).length j, .slice i ((rd_T34 d a).f2).length l], .agg #[.int .i64 ((rd_T34 u a).f0), .slice I ((rd_T34 u a).f1).length L, .slice J ((rd_T34 u a).f2).length M]] (by rfl) rfl rfl mp_ ?_
    with_reducible refine (impl_IsSafe.calls k2 ((rd_T34 d a).f0) _ _ ((rd_T34 d a).f1) _ _ ((rd_T34 d a).f2) ((rd_T34 u a).f0) _ _ ((rd_T34 u a).f1) _ _ ((rd_T34 u a).f2) true _ (cb_ T HB) O.1 (cb_ U HB) P.1 (cb_ A HB) Q.1 (cb_ B HB) R.1 a7.1).mono ?_
    rintro e bY ⟨rfl, hb⟩
    refine ⟨_, rfl, ?_⟩
    have _ := Q_ (bb_ b.1 hb)
    have _ := Q_ (below_step (pb1_ HB.1 v.1) hb)
    clear b HB
    rename_i b HB
    (try clear hb)
    refine hK.out _ _ ⟨(blk_cell b.1 0).trans rfl, (blk_cell b.1 1).trans rfl, (blk_cell b.1 2).trans rfl, (bt_ HB x), (bt_ HB y), (bt_ HB z)⟩ (fun hHeld => ?_)
    clear hK K
    refine no_ (some 31) ?_
    refine pu1_ 6 32 21 127 ?_
    refine pu1_ 7 33 21 255 ?_
    refine pu1_ 8 34 21 511 ?_
    refine pu1_ 9 35 21 1023 ?_
    refine pu1_ 10 36 21 2047 ?_
    refine pn1_ 11 37 21 4095 ?_
    refine pn1_ 12 38 21 8191 ?_
    refine pn1_ 13 39 21 16383 ?_
    refine pn1_ 14 40 21 32767 ?_
    refine pn1_ 15 41 21 65535 ?_
    refine pn1_ 16 42 21 131071 ?_
    refine pn1_ 17 43 21 262143 ?_
    refine pn1_ 18 44 21 524287 ?_
    refine pu1_ 19 45 21 1048575 ?_
    refine pu1_ 20 46 21 2097151 ?_
    refine done_ (done_of HT_.1 (by kernel_rfl)) ?_
    try go_wp2
    go_meet
    case rel => exact ⟨_, (false), el_, H', ⟨by have := ai.1; have := aj.1; first | omega | exact Nat.le_refl _⟩, ⟨pk_ b.1⟩, ⟨pb1_ HB.1 v.1⟩⟩
   rw [if_pos aO] at H
   have bl := decide_eq_true aO
   clear aO
   obtain ⟨t, hji22⟩ : ∃ j_ : Int, (wrap64 (a - 1)) = j_ := ⟨_, rfl⟩
   replace H : (if 0 ≤ (t) then (if (t) < (u.length : Int) then ((impl_IsSafe.f k2 ((rd_T34 d a).f0) ((rd_T34 d a).f1) ((rd_T34 d a).f2) ((rd_T34 u (t)).f0) ((rd_T34 u (t)).f1) ((rd_T34 u (t)).f2)).bind fun aL => (impl_NextOnly.j2 k2 u ah a d (d.length : Int) a (!aL) ((rd_T34 d a).f0) ((rd_T34 d a).f1) ((rd_T34 d a).f2))) else (none)) else (none)) = some r := by first | (rw [hji22] at H; exact H) | (simp only [hji22] at H ⊢; exact H)
   (try rw [hji22] at a7)
   have hji22w : (IntKind.i64.wrap (a - 1)) = t := (i64_w _).trans hji22
   by_cases ba : 0 ≤ (t)
   rotate_left
   ·rw [if_neg ba] at H
    exact nn_ H
   rw [if_pos ba] at H
   have bD := decide_eq_true ba
   clear ba
   by_cases bb : (t) < (u.length : Int)
   rotate_left
   ·rw [if_neg bb] at H
    exact nn_ H
   rw [if_pos bb] at H
   have bE := decide_eq_true bb
   clear bb
   obtain ⟨aL, bz, H⟩ := bs_ H
   (try dsimp only at H)
   have H' := Q_ H
   clear H
   try go_wp2
   have n0_ : Aside0 ((((ak.setCell ⟨c, 0, none⟩ (.int .i64 ((rd_T34 d a).f0))).setCell ⟨c, 1, none⟩ (.slice g ((rd_T34 d a).f1).length j)).setCell ⟨c, 2, none⟩ (.slice i ((rd_T34 d a).f2).length l)).heap[c]? = some (.cells #[.int .i64 ((rd_T34 d a).f0), .slice g ((rd_T34 d a).f1).length j, .slice i ((rd_T34 d a).f2).length l] 34 (0, 0))) := ⟨pp_ b.1⟩
   have n1_ : Aside0 (Below w.heap.size w (((ak.setCell ⟨c, 0, none⟩ (.int .i64 ((rd_T34 d a).f0))).setCell ⟨c, 1, none⟩ (.slice g ((rd_T34 d a).f1).length j)).setCell ⟨c, 2, none⟩ (.slice i ((rd_T34 d a).f2).length l))) := ⟨pb1_ HB.1 v.1⟩
   (try clear b)
   (try clear HB)
   generalize (((ak.setCell ⟨c, 0, none⟩ (.int .i64 ((rd_T34 d a).f0))).setCell ⟨c, 1, none⟩ (.slice g ((rd_T34 d a).f1).length j)).setCell ⟨c, 2, none⟩ (.slice i ((rd_T34 d a).f2).length l)) = a6 at n0_ n1_ ⊢
   (try (rw [show a6.drewN nd = a6.drewN nd from rfl]; replace n0_ := Q_ (blk_drewN n0_.1 nd); replace n1_ := Q_ (pw_below_drewN n1_.1 nd); generalize a6.drewN nd = a6 at n0_ n1_ ⊢))
   have b := n0_
   have HB := n1_
   clear n0_ n1_
   have _ := Q_ (blk_drew b.1)
   have _ := Q_ (below_drew1 HB.1)
   clear b HB
   rename_i b HB
   have V : 0 ≤ (a : Int) := dt_
   have W : a < (u.length : Int) := dt_
   obtain ⟨o, I, L, J, M, av, p, q, s, F, D, G, E⟩ := at_T34 aU.1 a V W
   have z := s
   have y := q
   have x := p
   cases av
   replace p := bt_ HB p
   replace q := bt_ HB q
   replace s := bt_ HB s
   have A := Q_ D
   have Q := Q_ F
   clear D F
   have B := Q_ E
   have R := Q_ G
   clear E G
   replace V := eq_true V
   replace W := eq_true W
   have aZ : 0 ≤ ((t) : Int) := dt_
   have a2 : (t) < (u.length : Int) := dt_
   obtain ⟨bk, aD, aH, aE, aI, bq, X, Y, Z, aQ, an, aR, ao⟩ := at_U34 aU.1 (t) aZ a2
   have ag := Z
   have af := Y
   have ae := X
   obtain rfl : o = bk := (by injection bq)
   replace X := bt_ HB X
   replace Y := bt_ HB Y
   replace Z := bt_ HB Z
   replace aZ := eq_true aZ
   replace a2 := eq_true a2
   refine start_ (n := 21) (S := fun w' => w'.cell? ⟨c, 0, none⟩ = some (.int .i64 ((rd_T34 d a).f0)) ∧ w'.cell? ⟨c, 1, none⟩ = some (.slice g ((rd_T34 d a).f1).length j) ∧ w'.cell? ⟨c, 2, none⟩ = some (.slice i ((rd_T34 d a).f2).length l) ∧ w'.cell? (o.add ((a).toNat * 3)) = some (.int .i64 ((rd_T34 u a).f0)) ∧ w'.cell? ⟨(o.add ((a).toNat * 3)).block, (o.add ((a).toNat * 3)).off + 1, none⟩ = some (.slice I ((rd_T34 u a).f1).length L) ∧ w'.cell? ⟨(o.add ((a).toNat * 3)).block, (o.add ((a).toNat * 3)).off + 2, none⟩ = some (.slice J ((rd_T34 u a).f2).length M) ∧ w'.cell? (o.add (((t)).toNat * 3)) = some (.int .i64 ((rd_T34 u (t)).f0)) ∧ w'.cell? ⟨(o.add (((t)).toNat * 3)).block, (o.add (((t)).toNat * 3)).off + 1, none⟩ = some (.slice aD ((rd_T34 u (t)).f1).length aH) ∧ w'.cell? ⟨(o.add (((t)).toNat * 3)).block, (o.add (((t)).toNat * 3)).off + 2, none⟩ = some (.slice aE ((rd_T34 u (t)).f2).length aI)) (ds := []) (tf_ 0 21) (by kernel_rfl) rfl rfl ⟨(blk_cell b.1 0).trans rfl, (blk_cell b.1 1).trans rfl, (blk_cell b.1 2).trans rfl, (bt_ HB x), (bt_ HB y), (bt_ HB z), (bt_ HB ae), (bt_ HB af), (bt_ HB ag)⟩ (fun hHeld => ?_); refine with_tabW impl_NextOnly.tab7 impl_NextOnly.bits7 (fun HT_ HW_ => ?_)
   generalize a6.drew = bZ at b HB A B an ao p q s X Y Z hHeld ⊢
   refine pu1_ 1 27 21 2 ?_
   refine pu1_ 2 28 21 6 ?_
   refine pu1_ 3 29 21 14 ?_
   refine ta1_ 0 26 21 15 hHeld ?_
   refine ta1_ 4 30 21 31 hHeld ?_
   refine on_ 5 (some 31) (tf_ 6 21) HT_ (fun K hK => ?_)
   refine goes_ Try.func42 (by kernel_rfl) rfl #[.agg #[.int .i64 ((rd_T34 d a).f0), .slice g ((rd_T34 d a).f1).length j, .slice i ((rd_T34 d a).f2).length l], .agg #[.int .i64 ((rd_T34 u a).f0), .slice I ((rd_T34 u a).f1).length L, .slice J ((rd_T34 u a).f2).length M]] (by rfl) rfl rfl mp_ ?_
   with_reducible refine (impl_IsSafe.calls k2 ((rd_T34 d a).f0) _ _ ((rd_T34 d a).f1) _ _ ((rd_T34 d a).f2) ((rd_T34 u a).f0) _ _ ((rd_T34 u a).f1) _ _ ((rd_T34 u a).f2) true _ (cb_ T HB) O.1 (cb_ U HB) P.1 (cb_ A HB) Q.1 (cb_ B HB) R.1 a7.1).mono ?_
   rintro e b0 ⟨rfl, hb⟩
   refine ⟨_, rfl, ?_⟩
   have _ := Q_ (bb_ b.1 hb)
   have _ := Q_ (below_step (pb1_ HB.1 v.1) hb)
   clear b HB
   rename_i b HB
   (try clear hb)
   refine hK.out _ _ ⟨(blk_cell b.1 0).trans rfl, (blk_cell b.1 1).trans rfl, (blk_cell b.1 2).trans rfl, (bt_ HB x), (bt_ HB y), (bt_ HB z), (bt_ HB ae), (bt_ HB af), (bt_ HB ag)⟩ (fun hHeld => ?_)
   clear hK K
   refine no_ (some 31) ?_
   refine pu1_ 6 32 21 127 ?_
   refine pu1_ 7 33 21 255 ?_
   refine pu1_ 8 34 21 511 ?_
   refine pu1_ 9 35 21 1023 ?_
   refine pu1_ 10 36 21 2047 ?_
   refine pu1_ 12 38 21 6143 ?_
   refine pu1_ 13 39 21 14335 ?_
   refine pu1_ 14 40 21 30719 ?_
   refine pu1_ 15 41 21 63487 ?_
   refine ta1_ 11 37 21 65535 hHeld ?_
   refine ta1_ 16 42 21 131071 hHeld ?_
   refine on_ 17 (some 43) (tf_ 18 21) HT_ (fun K hK => ?_)
   refine goes_ Try.func42 (by kernel_rfl) rfl #[.agg #[.int .i64 ((rd_T34 d a).f0), .slice g ((rd_T34 d a).f1).length j, .slice i ((rd_T34 d a).f2).length l], .agg #[.int .i64 ((rd_T34 u (t)).f0), .slice aD ((rd_T34 u (t)).f1).length aH, .slice aE ((rd_T34 u (t)).f2).length aI]] (by rfl) rfl rfl (by (try simp only [List.map_toArray, List.map_cons, List.map_nil]); first | done | (simp only [hji22]; rfl) | rfl | (simp only [List.length_drop, List.length_take]; rfl)) ?_
   with_reducible refine (impl_IsSafe.calls k2 ((rd_T34 d a).f0) _ _ ((rd_T34 d a).f1) _ _ ((rd_T34 d a).f2) ((rd_T34 u (t)).f0) _ _ ((rd_T34 u (t)).f1) _ _ ((rd_T34 u (t)).f2) aL _ (cb_ T HB) O.1 (cb_ U HB) P.1 (cb_ an HB) aQ.1 (cb_ ao HB) aR.1 bz.1).mono ?_
   rintro e b1 ⟨rfl, hb⟩
   refine ⟨_, rfl, ?_⟩
   have _ := Q_ (bb_ b.1 hb)
   have _ := Q_ (below_step (pb1_ HB.1 v.1) hb)
   clear b HB
   rename_i b HB
   (try clear hb)
   refine hK.out _ _ ⟨(blk_cell b.1 0).trans rfl, (blk_cell b.1 1).trans rfl, (blk_cell b.1 2).trans rfl, (bt_ HB x), (bt_ HB y), (bt_ HB z), (bt_ HB ae), (bt_ HB af), (bt_ HB ag)⟩ (fun hHeld => ?_)
   clear hK K
   refine no_ (some 43) ?_
   refine pu1_ 18 44 21 524287 ?_
   refine pu1_ 19 45 21 1048575 ?_
   refine pu1_ 20 46 21 2097151 ?_
   refine done_ (done_of HT_.1 (by kernel_rfl)) ?_
   try go_wp2
   go_meet
   case rel => exact ⟨_, (!aL), el_, H', ⟨by have := ai.1; have := aj.1; first | omega | exact Nat.le_refl _⟩, ⟨pk_ b.1⟩, ⟨pb1_ HB.1 v.1⟩⟩
  clear bj
  obtain ⟨kq, am, rfl, HA, aM, b, HB⟩ := hcut
  rcases kq with _ | kj8
  ·exact absurd HA.1 (by simp [impl_NextOnly.j2])
  have H := HA.1
  clear HA
  simp only [impl_NextOnly.j2] at H
  by_cases bc : am = true
  rotate_left
  ·replace bc := bf_ bc
   subst bc
   rw [if_neg ff_] at H
   have H' := Q_ H
   clear H
   go_wp2
   go_loopg [5, 48] kj8 (fun kq v5 bL w' => ∃ (aC : Bool) (m : Int), v5 = .bool aC ∧ bL = .int .i64 m ∧ Aside0 (impl_NextOnly.l1 kq u aC d (d.length : Int) a a m ((rd_T34 d a).f0) ((rd_T34 d a).f1) ((rd_T34 d a).f2) = some r) ∧ Aside0 (kq ≤ kj8) ∧ Aside0 (w'.heap[c]? = some (.cells #[.int .i64 ((rd_T34 d a).f0), (.slice g ((rd_T34 d a).f1).length j), (.slice i ((rd_T34 d a).f2).length l)] 34 (0, 0))) ∧ Aside0 (Below w.heap.size w w'))
   case atStart => exact ⟨(ah), (0), el_, el_, H', ⟨Nat.le_refl _⟩, ⟨pk_ b.1⟩, ⟨pb1_ HB.1 v.1⟩⟩
   clear H'
   obtain ⟨aC, m, rfl, rfl, HA, aN, b, HB⟩ := hrel
   rcases gk with _ | k4
   ·exact absurd HA.1 (by simp [impl_NextOnly.l1])
   have H := HA.1
   clear HA
   simp only [impl_NextOnly.l1] at H
   by_cases aP : m < a
   rotate_left
   ·rw [if_neg aP] at H
    have bm := decide_eq_false aP
    clear aP
    have H' := Q_ H
    clear H
    go_wp2
    go_roundg k4
    case measure => have := ai.1; have := aj.1; have := aM.1; have := aN.1; omega
    case rel => exact ⟨(aC), (wrap64 (a + 1)), el_, el_, H', ⟨by have := ai.1; have := aj.1; have := aM.1; have := aN.1; omega⟩, ⟨pb1_ HB.1 v.1⟩⟩
   rw [if_pos aP] at H
   have bm := decide_eq_true aP
   clear aP
   by_cases bd : aC = true
   ·subst bd
    rw [if_pos rfl] at H
    have H' := Q_ H
    clear H
    try go_wp2
    have _ := Q_ (blk_drew b.1)
    have _ := Q_ (below_drew1 HB.1)
    clear b HB
    rename_i b HB
    refine start_ (n := 11) (S := fun w' => True) (ds := []) (tf_ 0 11) (by kernel_rfl) rfl rfl trivial (fun hHeld => ?_); refine with_tabW impl_NextOnly.tab12 impl_NextOnly.bits12 (fun HT_ HW_ => ?_)
    generalize wr.drew = b2 at b HB hHeld ⊢
    refine pu1_ 0 51 11 1 ?_
    refine pu1_ 1 52 11 3 ?_
    refine pn1_ 2 53 11 7 ?_
    refine pn1_ 3 54 11 15 ?_
    refine pn1_ 4 55 11 31 ?_
    refine pn1_ 5 56 11 63 ?_
    refine pn1_ 6 57 11 127 ?_
    refine pn1_ 7 58 11 255 ?_
    refine pn1_ 8 59 11 511 ?_
    refine pu1_ 9 60 11 1023 ?_
    refine pu1_ 10 5 11 2047 ?_
    refine done_ (done_of HT_.1 (by kernel_rfl)) ?_
    try go_wp2
    go_roundg k4
    case measure => have := ai.1; have := aj.1; have := aM.1; have := aN.1; omega
    case rel => exact ⟨(true), (wrap64 (m + 1)), el_, el_, H', ⟨by have := ai.1; have := aj.1; have := aM.1; have := aN.1; omega⟩, ⟨pk_ b.1⟩, ⟨pb1_ HB.1 v.1⟩⟩
   replace bd := bf_ bd
   subst bd
   rw [if_neg ff_] at H
   by_cases be : 0 ≤ m
   rotate_left
   ·rw [if_neg be] at H
    exact nn_ H
   rw [if_pos be] at H
   have bF := decide_eq_true be
   clear be
   by_cases bf : m < (u.length : Int)
   rotate_left
   ·rw [if_neg bf] at H
    exact nn_ H
   rw [if_pos bf] at H
   have bG := decide_eq_true bf
   clear bf
   obtain ⟨bg, bA, H⟩ := bs_ H
   (try dsimp only at H)
   have H' := Q_ H
   clear H
   try go_wp2
   have _ := Q_ (blk_drew b.1)
   have _ := Q_ (below_drew1 HB.1)
   clear b HB
   rename_i b HB
   have a0 : 0 ≤ (m : Int) := dt_
   have a3 : m < (u.length : Int) := dt_
   obtain ⟨ad, aF, aJ, aG, aK, br, aa, ab, ac, aS, ap, aT, aq⟩ := at_U34 aU.1 m a0 a3
   have ay := ac
   have ax := ab
   have aw := aa
   cases br
   replace aa := bt_ HB aa
   replace ab := bt_ HB ab
   replace ac := bt_ HB ac
   replace a0 := eq_true a0
   replace a3 := eq_true a3
   refine start_ (n := 11) (S := fun w' => w'.cell? ⟨c, 0, none⟩ = some (.int .i64 ((rd_T34 d a).f0)) ∧ w'.cell? ⟨c, 1, none⟩ = some (.slice g ((rd_T34 d a).f1).length j) ∧ w'.cell? ⟨c, 2, none⟩ = some (.slice i ((rd_T34 d a).f2).length l) ∧ w'.cell? (ad.add ((m).toNat * 3)) = some (.int .i64 ((rd_T34 u m).f0)) ∧ w'.cell? ⟨(ad.add ((m).toNat * 3)).block, (ad.add ((m).toNat * 3)).off + 1, none⟩ = some (.slice aF ((rd_T34 u m).f1).length aJ) ∧ w'.cell? ⟨(ad.add ((m).toNat * 3)).block, (ad.add ((m).toNat * 3)).off + 2, none⟩ = some (.slice aG ((rd_T34 u m).f2).length aK)) (ds := []) (tf_ 0 11) (by kernel_rfl) rfl rfl ⟨(blk_cell b.1 0).trans rfl, (blk_cell b.1 1).trans rfl, (blk_cell b.1 2).trans rfl, (bt_ HB aw), (bt_ HB ax), (bt_ HB ay)⟩ (fun hHeld => ?_); refine with_tabW impl_NextOnly.tab12 impl_NextOnly.bits12 (fun HT_ HW_ => ?_)
   generalize wr.drew = b3 at b HB ap aq aa ab ac hHeld ⊢
   refine pu1_ 0 51 11 1 ?_
   refine pu1_ 1 52 11 3 ?_
   refine pu1_ 3 54 11 11 ?_
   refine pu1_ 4 55 11 27 ?_
   refine pu1_ 5 56 11 59 ?_
   refine ta1_ 2 53 11 63 hHeld ?_
   refine ta1_ 6 57 11 127 hHeld ?_
   refine on_ 7 (some 58) (tf_ 8 11) HT_ (fun K hK => ?_)
   refine goes_ Try.func42 (by kernel_rfl) rfl #[.agg #[.int .i64 ((rd_T34 d a).f0), .slice g ((rd_T34 d a).f1).length j, .slice i ((rd_T34 d a).f2).length l], .agg #[.int .i64 ((rd_T34 u m).f0), .slice aF ((rd_T34 u m).f1).length aJ, .slice aG ((rd_T34 u m).f2).length aK]] (by rfl) rfl rfl mp_ ?_
   with_reducible refine (impl_IsSafe.calls k4 ((rd_T34 d a).f0) _ _ ((rd_T34 d a).f1) _ _ ((rd_T34 d a).f2) ((rd_T34 u m).f0) _ _ ((rd_T34 u m).f1) _ _ ((rd_T34 u m).f2) bg _ (cb_ T HB) O.1 (cb_ U HB) P.1 (cb_ ap HB) aS.1 (cb_ aq HB) aT.1 bA.1).mono ?_
   rintro e b4 ⟨rfl, hb⟩
   refine ⟨_, rfl, ?_⟩
   have _ := Q_ (bb_ b.1 hb)
   have _ := Q_ (below_step (pb1_ HB.1 v.1) hb)
   clear b HB
   rename_i b HB
   (try clear hb)
   refine hK.out _ _ ⟨(blk_cell b.1 0).trans rfl, (blk_cell b.1 1).trans rfl, (blk_cell b.1 2).trans rfl, (bt_ HB aw), (bt_ HB ax), (bt_ HB ay)⟩ (fun hHeld => ?_)
   clear hK K
   refine no_ (some 58) ?_
   refine pu1_ 8 59 11 511 ?_
   refine pu1_ 9 60 11 1023 ?_
   refine pu1_ 10 5 11 2047 ?_
   refine done_ (done_of HT_.1 (by kernel_rfl)) ?_
   try go_wp2
   go_roundg k4
   case measure => have := ai.1; have := aj.1; have := aM.1; have := aN.1; omega
   case rel => exact ⟨(!bg), (wrap64 (m + 1)), el_, el_, H', ⟨by have := ai.1; have := aj.1; have := aM.1; have := aN.1; omega⟩, ⟨pk_ b.1⟩, ⟨pb1_ HB.1 v.1⟩⟩
  subst bc
  rw [if_pos rfl] at H
  obtain rfl := Option.some.inj H
  go_wp2
  go_ret
  exact ⟨er_, pb1_ HB.1 v.1⟩
 subst c5
 rw [if_pos rfl] at H
 obtain rfl := Option.some.inj H
 go_wp2
 go_ret
 exact ⟨er_, pb_ HB.1⟩

end Go.Proofs.Ytldcchjbaglppaa.Print
