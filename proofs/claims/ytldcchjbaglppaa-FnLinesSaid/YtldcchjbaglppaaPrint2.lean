-- Written by a program of this session (printx.py) out of the translation; Lean checks it.
import Derived.Test.YtldcchjbaglppaaPrint0
import Derived.Test.YtldcchjbaglppaaPrint1
namespace Go.Proofs.Ytldcchjbaglppaa.Print
open Go.RowKit Go.Proofs.YtldcchjbaglppaaW.PrintWords Go.Proofs.YtldcchjbaglppaaW.PrintLast Go.Proofs.YtldcchjbaglppaaW.PrintMore Go.Proofs.Ytldcchjbaglppaa.Short
attribute [local go_sem] max2_int min2_int max_two min_two max_three min_three max_four min_four   -- for this text's walks alone
set_option linter.unusedVariables false
set_option maxHeartbeats 8000000
set_option maxRecDepth 100000
set_option linter.unusedSimpArgs false

/-! ### slices_insertionSortOrdered_int: function 104 -/
mutual
def slices_insertionSortOrdered_int.l0 : Nat → List Int → Int → Int → Int → Option (List Int)
 | 0, _, _, _, _ => none
 | k + 1, b, d, c, a => if a < c then (slices_insertionSortOrdered_int.l1 k b d c a a) else (some b)
def slices_insertionSortOrdered_int.l1 : Nat → List Int → Int → Int → Int → Int → Option (List Int)
 | 0, _, _, _, _, _ => none
 | k + 1, b, d, e, g, a => if a > d then (if 0 ≤ a then (if a < (b.length : Int) then (if 0 ≤ (wrap64 (a - 1)) then (if (wrap64 (a - 1)) < (b.length : Int) then ((cmp_Less_int.f (rd b a) (rd b (wrap64 (a - 1)))).bind fun c => (if c = true then (slices_insertionSortOrdered_int.l1 k ((b.set (a : Int).toNat (rd b (wrap64 (a - 1)))).set ((wrap64 (a - 1)) : Int).toNat (rd b a)) d e g (wrap64 (a - 1))) else (slices_insertionSortOrdered_int.l0 k b d e (wrap64 (g + 1))))) else (none)) else (none)) else (none)) else (none)) else (slices_insertionSortOrdered_int.l0 k b d e (wrap64 (g + 1)))
end
def slices_insertionSortOrdered_int.f (k : Nat) (c : List Int) (a : Int) (b : Int) : Option (List Int) := slices_insertionSortOrdered_int.l0 k c a b (wrap64 (a + 1))
theorem slices_insertionSortOrdered_int.mono_l : ∀ k, (∀ a b c d, LeO (slices_insertionSortOrdered_int.l0 k a b c d) (slices_insertionSortOrdered_int.l0 (k + 1) a b c d)) ∧ (∀ a b c d e, LeO (slices_insertionSortOrdered_int.l1 k a b c d e) (slices_insertionSortOrdered_int.l1 (k + 1) a b c d e))
 | 0 => ⟨fun _ _ _ _ r h => by simp [slices_insertionSortOrdered_int.l0] at h, fun _ _ _ _ _ r h => by simp [slices_insertionSortOrdered_int.l1] at h⟩
 | k + 1 => by
  obtain ⟨ih0, ih1⟩ := slices_insertionSortOrdered_int.mono_l k
  refine ⟨?_, ?_⟩
  ·intro a b c d
   unfold slices_insertionSortOrdered_int.l0
   exact mo2_ ih0 ih1
  ·intro a b c d e
   unfold slices_insertionSortOrdered_int.l1
   exact mo2_ ih0 ih1
theorem slices_insertionSortOrdered_int.mono : ∀ a b c k, LeO (slices_insertionSortOrdered_int.f k a b c) (slices_insertionSortOrdered_int.f (k + 1) a b c) := by
 intro a b c k
 obtain ⟨ih0, ih1⟩ := slices_insertionSortOrdered_int.mono_l k
 unfold slices_insertionSortOrdered_int.f
 exact mo2_ ih0 ih1
def slices_insertionSortOrdered_int.T4 : Bool × List (List Nat × List Nat) := (true, [([], []), ([], []), ([0, 1], [0, 1]), ([2], [2]), ([3], [3]), ([3], [3]), ([4, 5, 3], [3, 4, 5]), ([6, 3], [3, 6]), ([3], [3]), ([3], [3]), ([9, 3], [3, 9]), ([8, 10, 3], [3, 8, 10]), ([11, 3], [3, 11]), ([7, 12, 3, 3], [3, 7, 12]), ([3, 13], [3, 13])])
def slices_insertionSortOrdered_int.B4 : List Nat := [0, 0, 3, 7, 15, 15, 63, 127, 15, 15, 527, 1807, 3855, 8191, 16383]
theorem slices_insertionSortOrdered_int.tab4 : rtab .any (opsOf Try.f104 4) = slices_insertionSortOrdered_int.T4 := by kernel_rfl
theorem slices_insertionSortOrdered_int.bits4 : waitsOk slices_insertionSortOrdered_int.T4.2 slices_insertionSortOrdered_int.B4 = true := by kernel_rfl
def slices_insertionSortOrdered_int.T6 : Bool × List (List Nat × List Nat) := (true, [([], []), ([], []), ([], []), ([], []), ([3], [3]), ([], []), ([], []), ([6], [6]), ([5, 7], [5, 7]), ([8], [8]), ([], []), ([], []), ([10, 11], [10, 11]), ([12], [12]), ([0, 1, 0, 1, 5, 6, 7, 8, 9, 13], [0, 1]), ([14, 9, 0, 1, 5, 6, 7, 8, 9, 13], [9, 14]), ([2, 4, 0, 1, 2, 3, 4, 5, 6, 7, 8, 9, 10, 11, 12, 13, 14, 15], [2, 4]), ([16, 13, 15, 0, 1, 2, 3, 4, 5, 6, 7, 8, 9, 10, 11, 12, 13, 14, 15], [13, 16])])
def slices_insertionSortOrdered_int.B6 : List Nat := [0, 0, 0, 0, 8, 0, 0, 64, 224, 480, 0, 0, 3072, 7168, 16355, 32739, 65535, 131071]
theorem slices_insertionSortOrdered_int.tab6 : rtab .any (opsOf Try.f104 6) = slices_insertionSortOrdered_int.T6 := by kernel_rfl
theorem slices_insertionSortOrdered_int.bits6 : waitsOk slices_insertionSortOrdered_int.T6.2 slices_insertionSortOrdered_int.B6 = true := by kernel_rfl
theorem slices_insertionSortOrdered_int.calls (k : Nat) (P0_ : Nat → Prop) (u9000_ : Value) (l0 : List Int) (y : Int) (J : Int) (r : List Int) (w0 w : World) (hB : Below w0.heap.size w0 w) (aE : Kd.R (Kd.int .i64) 3 w w0.heap.size P0_ u9000_ l0) (h : slices_insertionSortOrdered_int.f k l0 y J = some r) :
  Calls Try.prog 104 #[u9000_, .int .i64 y, .int .i64 J] w fun e w' => e = .returned (.tuple #[]) ∧ Kd.R (Kd.int .i64) 3 w' w0.heap.size (fun k_ => (P0_ k_ ∨ w.heap.size ≤ k_)) u9000_ r ∧ Below w0.heap.size w0 w' ∧ Kept w w' (fun k_ => P0_ k_) := by
 have aB := Q_ (show Kd.R (Kd.int .i64) 3 w w0.heap.size (fun k_ => (P0_ k_ ∨ w.heap.size ≤ k_)) u9000_ l0 from Kd.R_mono aE (fun k_ hk => (.inl hk)))
 have HK := Q_ (Kept.refl w (fun k_ => P0_ k_))
 have HW0 := Q_ hB.size
 have HB := Q_ hB
 clear hB
 have H : (slices_insertionSortOrdered_int.l0 k l0 y J (wrap64 (y + 1))) = some r := h
 clear h
 have H' := Q_ H
 clear H
 go_enter Try.func104, Try.ntmps104
 go_wp2
 go_loopg [6] k (fun kq v6 w' => ∃ (u : List Int) (g : Int), v6 = .int .i64 g ∧ Aside0 (slices_insertionSortOrdered_int.l0 kq u y J g = some r) ∧ Aside0 (kq ≤ k) ∧ Aside0 (Kd.R (Kd.int .i64) 3 w' w0.heap.size (fun k_ => (P0_ k_ ∨ w.heap.size ≤ k_)) u9000_ u) ∧ Aside0 (Kept w w' (fun k_ => P0_ k_)) ∧ Aside0 (Below w0.heap.size w0 w'))
 case atStart => exact ⟨(l0), (wrap64 (y + 1)), el_, H', ⟨Nat.le_refl _⟩, ⟨pr_ aB.1⟩, ⟨qt0_ HK.1⟩, ⟨pb_ HB.1⟩⟩
 clear H'
 obtain ⟨u, g, rfl, HA, v, c, HK, HB⟩ := hrel
 rcases gk with _ | k1
 ·exact absurd HA.1 (by simp [slices_insertionSortOrdered_int.l0])
 have H := HA.1
 clear HA
 simp only [slices_insertionSortOrdered_int.l0] at H
 by_cases c4 : g < J
 rotate_left
 ·rw [if_neg c4] at H
  have ao := decide_eq_false c4
  clear c4
  obtain rfl := Option.some.inj H
  go_wp2
  first | go_end0 | ((try simp only [Exit.inBlock, Exit.then]); refine bodyPost_ret (results_none rfl _ _ _) rfl ?_)
  exact ⟨er_, pr_ c.1, pb_ HB.1, qt0_ HK.1⟩
 rw [if_pos c4] at H
 have ao := decide_eq_true c4
 clear c4
 have H' := Q_ H
 clear H
 go_wp2
 go_loopg [7] k1 (fun kq v7 w' => ∃ (a : List Int) (b : Int), v7 = .int .i64 b ∧ Aside0 (slices_insertionSortOrdered_int.l1 kq a y J g b = some r) ∧ Aside0 (kq ≤ k1) ∧ Aside0 (Kd.R (Kd.int .i64) 3 w' w0.heap.size (fun k_ => (P0_ k_ ∨ w.heap.size ≤ k_)) u9000_ a) ∧ Aside0 (Kept w w' (fun k_ => P0_ k_)) ∧ Aside0 (Below w0.heap.size w0 w'))
 case atStart => exact ⟨(u), (g), el_, H', ⟨Nat.le_refl _⟩, ⟨pr_ c.1⟩, ⟨qt0_ HK.1⟩, ⟨pb_ HB.1⟩⟩
 clear H'
 obtain ⟨a, b, rfl, HA, x, c, HK, HB⟩ := hrel
 rcases gk with _ | k2
 ·exact absurd HA.1 (by simp [slices_insertionSortOrdered_int.l1])
 have H := HA.1
 clear HA
 simp only [slices_insertionSortOrdered_int.l1] at H
 by_cases c5 : b > y
 rotate_left
 ·rw [if_neg c5] at H
  have ap := decide_eq_false c5
  clear c5
  have H' := Q_ H
  clear H
  try go_wp2
  have _ := Q_ (Kd.R_drew c.1)
  have _ := Q_ (Kept.drew HK.1)
  have _ := Q_ (below_drew1 HB.1)
  clear c HK HB
  rename_i c HK HB
  refine start_ (n := 15) (S := fun w' => True) (ds := []) (tf_ 0 15) (by kernel_rfl) rfl rfl trivial (fun hHeld => ?_); refine with_tabW slices_insertionSortOrdered_int.tab4 slices_insertionSortOrdered_int.bits4 (fun HT_ HW_ => ?_)
  generalize wr.drew = w6 at c HK HB hHeld ⊢
  refine pu1_ 0 16 15 1 ?_
  refine pu1_ 1 17 15 3 ?_
  refine pu1_ 2 18 15 7 ?_
  refine pu1_ 3 19 15 15 ?_
  refine pn1_ 4 20 15 31 ?_
  refine pn1_ 5 21 15 63 ?_
  refine pn1_ 6 22 15 127 ?_
  refine pn1_ 7 23 15 255 ?_
  refine pn1_ 8 24 15 511 ?_
  refine pn1_ 9 25 15 1023 ?_
  refine pn1_ 10 26 15 2047 ?_
  refine pn1_ 11 27 15 4095 ?_
  refine pn1_ 12 28 15 8191 ?_
  refine pn1_ 13 29 15 16383 ?_
  refine pu1_ 14 30 15 32767 ?_
  refine done_ (done_of HT_.1 (by kernel_rfl)) ?_
  try go_wp2
  go_roundg k2
  case measure => have := v.1; have := x.1; omega
  case rel => exact ⟨(a), (wrap64 (g + 1)), el_, H', ⟨by have := v.1; have := x.1; omega⟩, ⟨pr_ c.1⟩, ⟨qt0_ HK.1⟩, ⟨pb_ HB.1⟩⟩
 rw [if_pos c5] at H
 have ap := decide_eq_true c5
 clear c5
 by_cases c7 : 0 ≤ b
 rotate_left
 ·rw [if_neg c7] at H
  exact nn_ H
 rw [if_pos c7] at H
 have aG := decide_eq_true c7
 clear c7
 by_cases c8 : b < (a.length : Int)
 rotate_left
 ·rw [if_neg c8] at H
  exact nn_ H
 rw [if_pos c8] at H
 have aH := decide_eq_true c8
 clear c8
 obtain ⟨d, hji9⟩ : ∃ j_ : Int, (wrap64 (b - 1)) = j_ := ⟨_, rfl⟩
 replace H : (if 0 ≤ (d) then (if (d) < (a.length : Int) then ((cmp_Less_int.f (rd a b) (rd a (d))).bind fun t => (if t = true then (slices_insertionSortOrdered_int.l1 k2 ((a.set (b : Int).toNat (rd a (d))).set ((d) : Int).toNat (rd a b)) y J g d) else (slices_insertionSortOrdered_int.l0 k2 a y J (wrap64 (g + 1))))) else (none)) else (none)) = some r := by first | (rw [hji9] at H; exact H) | (simp only [hji9] at H ⊢; exact H)
 have hji9w : (IntKind.i64.wrap (b - 1)) = d := (i64_w _).trans hji9
 by_cases L : 0 ≤ (d)
 rotate_left
 ·rw [if_neg L] at H
  exact nn_ H
 rw [if_pos L] at H
 have aC := decide_eq_true L
 clear L
 by_cases M : (d) < (a.length : Int)
 rotate_left
 ·rw [if_neg M] at H
  exact nn_ H
 rw [if_pos M] at H
 have aD := decide_eq_true M
 clear M
 obtain ⟨t, aA, H⟩ := bs_ H
 (try dsimp only at H)
 have HS_ := Q_ H
 clear H
 try go_wp2
 have _ := Q_ (Kd.R_drew c.1)
 have _ := Q_ (Kept.drew HK.1)
 have _ := Q_ (below_drew1 HB.1)
 clear c HK HB
 rename_i c HK HB
 obtain ⟨aF, aq, W⟩ := Kd.R_slice c.1
 (first | subst W | (injection W with f1_ f2_ f3_; have f4_ := f1_.symm; have f5_ := f3_.symm; clear f1_ f2_ f3_; subst f4_; subst f5_))
 have A : 0 ≤ (b : Int) := dt_
 have E : b < (a.length : Int) := dt_
 obtain ⟨m, ar, j⟩ := Kd.at_int (Kd.R_reads' c.1).2.2 b A E
 cases ar
 replace A := eq_true A
 replace E := eq_true E
 have B : 0 ≤ ((d) : Int) := dt_
 have F : (d) < (a.length : Int) := dt_
 obtain ⟨ad, au, l⟩ := Kd.at_int (Kd.R_reads' c.1).2.2 (d) B F
 obtain rfl : m = ad := (by injection au)
 replace B := eq_true B
 replace F := eq_true F
 refine start_ (n := 15) (S := fun w' => w'.cell? (m.add (b).toNat) = some (.int .i64 (rd a b)) ∧ w'.cell? (m.add ((d)).toNat) = some (.int .i64 (rd a (d)))) (ds := []) (tf_ 0 15) (by kernel_rfl) rfl rfl ⟨j, l⟩ (fun hHeld => ?_); refine with_tabW slices_insertionSortOrdered_int.tab4 slices_insertionSortOrdered_int.bits4 (fun HT_ HW_ => ?_)
 generalize wr.drew = q at c HK HB j l hHeld ⊢
 refine pu1_ 0 16 15 1 ?_
 refine pu1_ 1 17 15 3 ?_
 refine pu1_ 2 18 15 7 ?_
 refine pu1_ 3 19 15 15 ?_
 refine pu1_ 4 20 15 31 ?_
 refine pu1_ 5 21 15 63 ?_
 refine pu1_ 6 22 15 127 ?_
 refine pu1_ 8 24 15 383 ?_
 refine pu1_ 9 25 15 895 ?_
 refine pu1_ 10 26 15 1919 ?_
 refine pu1_ 11 27 15 3967 ?_
 refine ta1_ 7 23 15 4095 hHeld ?_
 refine ta1_ 12 28 15 8191 hHeld ?_
 refine on_ 13 (some 29) (tf_ 14 15) HT_ (fun K hK => ?_)
 refine goes_ Try.func110 (by kernel_rfl) rfl #[.int .i64 (rd a b), .int .i64 (rd a (d))] (by rfl) rfl rfl (by (try simp only [List.map_toArray, List.map_cons, List.map_nil]); first | done | (simp only [hji9]; rfl) | rfl | (simp only [List.length_drop, List.length_take]; rfl)) ?_
 with_reducible refine (cmp_Less_int.calls (rd a b) (rd a (d)) t _ aA.1).mono ?_
 rintro e w' ⟨rfl, ⟨nd, rfl⟩⟩
 refine ⟨_, rfl, ?_⟩
 refine hK.out _ _ ⟨hHeld.1, hHeld.2⟩ (fun hHeld => ?_)
 clear hK K
 refine no_ (some 29) ?_
 refine pu1_ 14 30 15 32767 ?_
 refine done_ (done_of HT_.1 (by kernel_rfl)) ?_
 go_upto_if 30 with (fail)
 have H := HS_.1
 clear HS_
 by_cases O : t = true
 rotate_left
 ·replace O := bf_ O
  subst O
  rw [if_neg ff_] at H
  have H' := Q_ H
  clear H
  go_wp2
  go_roundg k2
  case measure => have := v.1; have := x.1; omega
  case rel => exact ⟨(a), (wrap64 (g + 1)), el_, H', ⟨by have := v.1; have := x.1; omega⟩, ⟨pr_ c.1⟩, ⟨qt0_ HK.1⟩, ⟨pb_ HB.1⟩⟩
 subst O
 rw [if_pos rfl] at H
 obtain ⟨Z, hy123⟩ : ∃ y_ : List Int, y_ = (a.set (b : Int).toNat (rd a (d))) := ⟨_, rfl⟩
 replace H : (slices_insertionSortOrdered_int.l1 k2 (Z.set ((d) : Int).toNat (rd a b)) y J g d) = some r := hb_ hy123 H
 have ab := Q_ hy123
 clear hy123
 obtain ⟨aa, hy124⟩ : ∃ y_ : List Int, y_ = (Z.set ((d) : Int).toNat (rd a b)) := ⟨_, rfl⟩
 replace H : (slices_insertionSortOrdered_int.l1 k2 aa y J g d) = some r := hb_ hy124 H
 have ac := Q_ hy124
 clear hy124
 have H' := Q_ H
 clear H
 try go_wp2
 (try (rw [drewN_self q]; generalize hq_ : World.drewN q _ = q; have n0_ : Aside0 (Kd.R (Kd.int .i64) 3 q w0.heap.size (fun k_ => (P0_ k_ ∨ w.heap.size ≤ k_)) (.slice (some m) a.length aq) a) := ⟨by rw [← hq_]; exact (pr_ c.1)⟩; have n1_ : Aside0 (Kept w q (fun k_ => P0_ k_)) := ⟨by rw [← hq_]; exact (qt0_ HK.1)⟩; have n2_ : Aside0 (Below w0.heap.size w0 q) := ⟨by rw [← hq_]; exact (pb_ HB.1)⟩; clear c HK HB hq_; have c := n0_; have HK := n1_; have HB := n2_; clear n0_ n1_ n2_))
 have _ := Q_ (Kd.R_drew c.1)
 have _ := Q_ (Kept.drew HK.1)
 have _ := Q_ (below_drew1 HB.1)
 clear c HK HB
 rename_i c HK HB
 have C : 0 ≤ ((d) : Int) := dt_
 have G : (d) < (a.length : Int) := dt_
 obtain ⟨ae, av, o⟩ := Kd.at_int (Kd.R_reads' c.1).2.2 (d) C G
 obtain rfl : m = ae := (by injection av)
 replace C := eq_true C
 replace G := eq_true G
 have D : 0 ≤ (b : Int) := dt_
 have I : b < (a.length : Int) := dt_
 obtain ⟨af, aw, p⟩ := Kd.at_int (Kd.R_reads' c.1).2.2 b D I
 obtain rfl : m = af := (by injection aw)
 replace D := eq_true D
 replace I := eq_true I
 have ag : 0 ≤ (b : Int) := dt_
 have ai : (b : Int) < ((a.length : Int) : Int) := dt_
 obtain ⟨s, aJ, X, Y, gl16, aI, HG16⟩ := Kd.R_form c.1 (by omega)
 (first | cases X | (injection X with ea_ en_ ec_; (first | subst ea_ | (injection ea_ with ea_; subst ea_)); subst ec_; clear en_))
 have am := Q_ Y
 have an := Q_ HG16
 clear Y gl16 HG16
 have HMgo16 := Q_ (show (P0_ s ∨ w.heap.size ≤ s) from (c.1.1 _ rfl))
 (first | simp only [add_plain] at j | skip)
 (first | simp only [add_plain] at l | skip)
 (first | simp only [add_plain] at o | skip)
 (first | simp only [add_plain] at p | skip)
 obtain ⟨T, P⟩ := Kd.R_celln 0 c.1 (b : Int) ag ai
 replace ag := eq_true ag
 replace ai := eq_true ai
 have HP19 := Kd.R_putn c.1 (b : Int) (rd a (d))
 rw [← ab.1] at HP19
 have z := Q_ HP19
 clear HP19
 have ah : 0 ≤ ((d) : Int) := dt_
 have aj : ((d) : Int) < ((a.length : Int) : Int) := dt_
 obtain ⟨U, Q⟩ := Kd.R_celln 0 z.1 ((d) : Int) ah aj
 replace ah := eq_true ah
 replace aj := eq_true aj
 have HP20 := Kd.R_putn z.1 ((d) : Int) (rd a b)
 rw [← ac.1] at HP20
 have V := Q_ HP20
 clear HP20
 refine start_ (n := 18) (S := fun w' => w'.cell? ⟨s, ((d)).toNat, none⟩ = some (.int .i64 (rd a (d))) ∧ w'.cell? ⟨s, (b).toNat, none⟩ = some (.int .i64 (rd a b))) (ds := [15, 17]) #[false, false, false, false, false, false, false, false, false, false, false, false, false, false, false, false, false, false] (by kernel_rfl) rfl rfl ⟨o, p⟩ (fun hHeld => ?_); refine with_tabW slices_insertionSortOrdered_int.tab6 slices_insertionSortOrdered_int.bits6 (fun HT_ HW_ => ?_)
 generalize q.drew = aM at c HK HB an z V P Q j l o p T U hHeld ⊢
 refine pu1_ 0 33 18 1 ?_
 refine pu1_ 1 34 18 3 ?_
 refine pu1_ 2 35 18 7 ?_
 refine pu1_ 3 36 18 15 ?_
 refine pu1_ 4 37 18 31 ?_
 refine pu1_ 5 38 18 63 ?_
 refine pu1_ 6 39 18 127 ?_
 refine pu1_ 7 40 18 255 ?_
 refine pu1_ 8 41 18 511 ?_
 refine pu1_ 10 43 18 1535 ?_
 refine pu1_ 11 44 18 3583 ?_
 refine pu1_ 12 45 18 7679 ?_
 refine ta1_ 9 42 18 8191 hHeld ?_
 refine ta1_ 13 46 18 16383 hHeld ?_
 refine pu1_ 14 47 18 32767 ?_
 refine last_ (i := 15) (N := none) #[true, true, true, true, true, true, true, true, true, true, true, true, true, true, true, true, false, false] rfl rfl (one_of HT_.1 (by kernel_rfl)) (by decide) (fun K hK => ?_)
 refine skip_ (w1 := ?_) (by rfl) rfl ?_ ?_
 rotate_left
 ·go_simp
  rfl
 refine hK.out _ _ ?_
 clear hK K
 refine pu1_ 16 48 18 131071 ?_
 refine last_ (i := 17) (N := none) #[true, true, true, true, true, true, true, true, true, true, true, true, true, true, true, true, true, true] rfl rfl (one_of HT_.1 (by kernel_rfl)) (by decide) (fun K hK => ?_)
 refine skip_ (w1 := ?_) (by rfl) rfl ?_ ?_
 rotate_left
 ·go_simp
  rfl
 refine hK.out _ _ ?_
 clear hK K
 refine done_ (done_of HT_.1 (by kernel_rfl)) ?_
 try go_wp2
 go_roundg k2
 case measure => have := v.1; have := x.1; omega
 case rel => exact ⟨(aa), (d), (by first | rfl | (simp; done) | (simp only [← hji9] <;> (first | rfl | simp)) | (simp [*]; done)), H', ⟨by have := v.1; have := x.1; omega⟩, ⟨pr_ V.1⟩, ⟨qt2_ HK.1 HMgo16.1 HMgo16.1⟩, ⟨pb1_ HB.1 am.1⟩⟩

/-! ### slices_pdqsortOrdered_int: function 101 -/
def slices_pdqsortOrdered_int.l0 : Nat → List Int → Int → Int → Int → Bool → Option (List Int)
 | 0, _, _, _, _, _ => none
 | k + 1, d, b, c, e, g => if (wrap64 (c - b)) ≤ 12 then ((slices_insertionSortOrdered_int.f k d b c).bind fun a => (some a)) else (if e = 0 then (none) else (if g = true then (none) else (none)))
def slices_pdqsortOrdered_int.f (k : Nat) (d : List Int) (a : Int) (b : Int) (c : Int) : Option (List Int) := slices_pdqsortOrdered_int.l0 k d a b c true
theorem slices_pdqsortOrdered_int.mono_l : ∀ k, (∀ a b c d e, LeO (slices_pdqsortOrdered_int.l0 k a b c d e) (slices_pdqsortOrdered_int.l0 (k + 1) a b c d e))
 | 0 => fun _ _ _ _ _ r h => by simp [slices_pdqsortOrdered_int.l0] at h
 | k + 1 => by
  have ih0 := slices_pdqsortOrdered_int.mono_l k
  ·intro a b c d e
   unfold slices_pdqsortOrdered_int.l0
   exact mo2_ ih0 slices_insertionSortOrdered_int.mono
theorem slices_pdqsortOrdered_int.mono : ∀ a b c d k, LeO (slices_pdqsortOrdered_int.f k a b c d) (slices_pdqsortOrdered_int.f (k + 1) a b c d) := by
 intro a b c d k
 have ih0 := slices_pdqsortOrdered_int.mono_l k
 unfold slices_pdqsortOrdered_int.f
 exact mo2_ ih0 slices_insertionSortOrdered_int.mono
theorem slices_pdqsortOrdered_int.calls (k : Nat) (P0_ : Nat → Prop) (u9000_ : Value) (q : List Int) (s : Int) (t : Int) (u : Int) (r : List Int) (w0 w : World) (hB : Below w0.heap.size w0 w) (A : Kd.R (Kd.int .i64) 3 w w0.heap.size P0_ u9000_ q) (h : slices_pdqsortOrdered_int.f k q s t u = some r) :
  Calls Try.prog 101 #[u9000_, .int .i64 s, .int .i64 t, .int .i64 u] w fun e w' => e = .returned (.tuple #[]) ∧ Kd.R (Kd.int .i64) 3 w' w0.heap.size (fun k_ => (P0_ k_ ∨ w.heap.size ≤ k_)) u9000_ r ∧ Below w0.heap.size w0 w' ∧ Kept w w' (fun k_ => P0_ k_) := by
 have y := Q_ (show Kd.R (Kd.int .i64) 3 w w0.heap.size (fun k_ => (P0_ k_ ∨ w.heap.size ≤ k_)) u9000_ q from Kd.R_mono A (fun k_ hk => (.inl hk)))
 have HK := Q_ (Kept.refl w (fun k_ => P0_ k_))
 have HW0 := Q_ hB.size
 have HB := Q_ hB
 clear hB
 have H : (slices_pdqsortOrdered_int.l0 k q s t u true) = some r := h
 clear h
 have H' := Q_ H
 clear H
 go_enter Try.func101, Try.ntmps101
 go_wp2
 repeat (go_quiet (fail); try go_wp2)
 go_loopg [1, 2, 3, 8] k (fun kq F G I J w' => ∃ (b : List Int) (c : Int) (d : Int) (g : Int) (j : Bool), F = .int .i64 c ∧ G = .int .i64 d ∧ I = .int .i64 g ∧ J = .bool j ∧ Aside0 (slices_pdqsortOrdered_int.l0 kq b c d g j = some r) ∧ Aside0 (kq ≤ k) ∧ Aside0 (Kd.R (Kd.int .i64) 3 w' w0.heap.size (fun k_ => (P0_ k_ ∨ w.heap.size ≤ k_)) u9000_ b) ∧ Aside0 (Kept w w' (fun k_ => P0_ k_)) ∧ Aside0 (Below w0.heap.size w0 w'))
 case atStart => exact ⟨(q), (s), (t), (u), (true), el_, el_, el_, el_, H', ⟨Nat.le_refl _⟩, ⟨pr_ y.1⟩, ⟨qt0_ HK.1⟩, ⟨pb_ HB.1⟩⟩
 clear H'
 obtain ⟨b, c, d, g, j, rfl, rfl, rfl, rfl, HA, E, a, HK, HB⟩ := hrel
 rcases gk with _ | k1
 ·exact absurd HA.1 (by simp [slices_pdqsortOrdered_int.l0])
 have H := HA.1
 clear HA
 simp only [slices_pdqsortOrdered_int.l0] at H
 by_cases o : (wrap64 (d - c)) ≤ 12
 ·rw [if_pos o] at H
  have p := decide_eq_true o
  clear o
  obtain ⟨i, x, H⟩ := bs_ H
  replace H : (some i) = some r := H
  obtain rfl := Option.some.inj H
  obtain ⟨l, m, z⟩ := Kd.R_slice a.1
  subst z
  go_wp2_with (first | (go_at_call 104; (with_reducible refine (slices_insertionSortOrdered_int.calls k1 (fun k_ => some k_ = (.slice l b.length m : Value).ownBlock) (.slice l b.length m) b c d i w0 _ ?side1 ?side2 x.1).mono ?_); (case side1 => exact qb0_ HB.1); (case side2 => exact Kd.R_tight rfl a.1); rintro e D ⟨rfl, hy0, hb, hkp⟩; have _ := Q_ (Kd.R_reok rfl hy0 (fun k_ e_ => a.1.1 k_ e_)); have _ := Q_ (Kept.then_ (S := (fun k_ => P0_ k_)) (qt0_ HK.1) hkp (fun k_ hs_ => (fun e_ => (a.1.1 k_ e_.symm)) hs_)); have _ := Q_ (hb); clear a HK HB; rename_i a HK HB; (try clear hb hkp hy0)))
  repeat (go_quiet (first | (go_at_call 104; (with_reducible refine (slices_insertionSortOrdered_int.calls k1 (fun k_ => some k_ = (.slice l b.length m : Value).ownBlock) (.slice l b.length m) b c d i w0 _ ?side1 ?side2 x.1).mono ?_); (case side1 => exact qb0_ HB.1); (case side2 => exact Kd.R_tight rfl a.1); rintro e D ⟨rfl, hy0, hb, hkp⟩; have _ := Q_ (Kd.R_reok rfl hy0 (fun k_ e_ => a.1.1 k_ e_)); have _ := Q_ (Kept.then_ (S := (fun k_ => P0_ k_)) (qt0_ HK.1) hkp (fun k_ hs_ => (fun e_ => (a.1.1 k_ e_.symm)) hs_)); have _ := Q_ (hb); clear a HK HB; rename_i a HK HB; (try clear hb hkp hy0))); try go_wp2_with (first | (go_at_call 104; (with_reducible refine (slices_insertionSortOrdered_int.calls k1 (fun k_ => some k_ = (.slice l b.length m : Value).ownBlock) (.slice l b.length m) b c d i w0 _ ?side1 ?side2 x.1).mono ?_); (case side1 => exact qb0_ HB.1); (case side2 => exact Kd.R_tight rfl a.1); rintro e D ⟨rfl, hy0, hb, hkp⟩; have _ := Q_ (Kd.R_reok rfl hy0 (fun k_ e_ => a.1.1 k_ e_)); have _ := Q_ (Kept.then_ (S := (fun k_ => P0_ k_)) (qt0_ HK.1) hkp (fun k_ hs_ => (fun e_ => (a.1.1 k_ e_.symm)) hs_)); have _ := Q_ (hb); clear a HK HB; rename_i a HK HB; (try clear hb hkp hy0))))
  first | go_end0 | ((try simp only [Exit.inBlock, Exit.then]); refine bodyPost_ret (results_none rfl _ _ _) rfl ?_)
  exact ⟨er_, pr_ a.1, pb_ HB.1, qt0_ HK.1⟩
 rw [if_neg o] at H
 have p := decide_eq_false o
 clear o
 by_cases v : g = 0
 ·rw [if_pos v] at H
  exact nn_ H
 rw [if_neg v] at H
 have B : (g == 0) = false := beq_eq_false_iff_ne.mpr v
 have C : (g != 0) = true := bne_iff_ne.mpr v
 by_cases n : j = true
 rotate_left
 ·replace n := bf_ n
  subst n
  rw [if_neg ff_] at H
  exact nn_ H
 subst n
 rw [if_pos rfl] at H
 exact nn_ H

/-! ### bits_Len64: function 114, by hand -/
def bits_Len64.f (a : Int) : Option (Int) := if 0 ≤ a then (if a ≤ 18446744073709551615 then (some (Lib.bitLen a.toNat : Int)) else (none)) else (none)
theorem bits_Len64.calls (a : Int) (r : Int) (w : World) (h : bits_Len64.f a = some r) :
  Calls Try.prog 114 #[.int .u64 a] w fun e w' => e = .returned (.int .i64 r) ∧ Drawn0 w w' := by
 unfold bits_Len64.f at h
 by_cases h0 : 0 ≤ a
 ·by_cases h1 : a ≤ 18446744073709551615
  ·rw [if_pos h0, if_pos h1] at h
   obtain rfl := Option.some.inj h
   refine (Go.Proofs.Ytldcchjbaglppaa.Bits.len64 a w h0 h1).mono ?_
   rintro e w' ⟨rfl, rfl⟩
   exact ⟨rfl, Drawn0.refl _⟩
  ·rw [if_pos h0, if_neg h1] at h
   cases h
 ·rw [if_neg h0] at h
  cases h


/-! ### bits_Len: function 102, by hand -/
def bits_Len.f (a : Int) : Option (Int) := if 0 ≤ a then (if a ≤ 18446744073709551615 then (some (Lib.bitLen a.toNat : Int)) else (none)) else (none)
theorem bits_Len.calls (a : Int) (r : Int) (w : World) (h : bits_Len.f a = some r) :
  Calls Try.prog 102 #[.int .u64 a] w fun e w' => e = .returned (.int .i64 r) ∧ Drawn0 w w' := by
 unfold bits_Len.f at h
 by_cases h0 : 0 ≤ a
 ·by_cases h1 : a ≤ 18446744073709551615
  ·rw [if_pos h0, if_pos h1] at h
   obtain rfl := Option.some.inj h
   refine (Go.Proofs.Ytldcchjbaglppaa.Bits.len a w h0 h1).mono ?_
   rintro e w' ⟨rfl, rfl⟩
   exact ⟨rfl, Drawn0.refl _⟩
  ·rw [if_pos h0, if_neg h1] at h
   cases h
 ·rw [if_neg h0] at h
  cases h


/-! ### slices_Sort_int_int: function 95 -/
def slices_Sort_int_int.f (k : Nat) (c : List Int) : Option (List Int) := (bits_Len.f (IntKind.u64.wrap ((c.length : Int)))).bind fun a => ((slices_pdqsortOrdered_int.f k c 0 (c.length : Int) a).bind fun b => (some b))
theorem slices_Sort_int_int.mono : ∀ a k, LeO (slices_Sort_int_int.f k a) (slices_Sort_int_int.f (k + 1) a) := by
 intro a k
 unfold slices_Sort_int_int.f
 exact mo1_ slices_pdqsortOrdered_int.mono
theorem slices_Sort_int_int.calls (k : Nat) (P0_ : Nat → Prop) (u9000_ : Value) (c : List Int) (r : List Int) (w0 w : World) (hB : Below w0.heap.size w0 w) (l : Kd.R (Kd.int .i64) 3 w w0.heap.size P0_ u9000_ c) (h : slices_Sort_int_int.f k c = some r) :
  Calls Try.prog 95 #[u9000_] w fun e w' => e = .returned (.tuple #[]) ∧ Kd.R (Kd.int .i64) 3 w' w0.heap.size (fun k_ => (P0_ k_ ∨ w.heap.size ≤ k_)) u9000_ r ∧ Below w0.heap.size w0 w' ∧ Kept w w' (fun k_ => P0_ k_) := by
 have b := Q_ (show Kd.R (Kd.int .i64) 3 w w0.heap.size (fun k_ => (P0_ k_ ∨ w.heap.size ≤ k_)) u9000_ c from Kd.R_mono l (fun k_ hk => (.inl hk)))
 have HK := Q_ (Kept.refl w (fun k_ => P0_ k_))
 have HW0 := Q_ hB.size
 have HB := Q_ hB
 clear hB
 have H : ((bits_Len.f (IntKind.u64.wrap ((c.length : Int)))).bind fun a => ((slices_pdqsortOrdered_int.f k c 0 (c.length : Int) a).bind fun d => (some d))) = some r := h
 clear h
 obtain ⟨a, m, H⟩ := bs_ H
 (try dsimp only at H)
 obtain ⟨d, n, H⟩ := bs_ H
 replace H : (some d) = some r := H
 obtain rfl := Option.some.inj H
 obtain ⟨g, i, j⟩ := Kd.R_slice b.1
 subst j
 go_enter Try.func95, Try.ntmps95
 go_wp2_with (first | ((with_reducible refine gate_callee (f := 102) rfl ?_); refine gl_ (some 9) Try.func102 #[.int .u64 (IntKind.u64.wrap ((c.length : Int)))] ?_; (with_reducible refine (bits_Len.calls (IntKind.u64.wrap ((c.length : Int))) a _ m.1).mono ?_); rintro e w' ⟨rfl, ⟨nd, rfl⟩⟩; refine ⟨_, rfl, ?_⟩) | ((with_reducible refine gate_callee (f := 101) rfl ?_); refine gl_ (some 10) Try.func101 #[.slice g c.length i, .int .i64 0, .int .i64 (c.length : Int), .int .i64 a] ?_; (with_reducible refine (slices_pdqsortOrdered_int.calls k (fun k_ => some k_ = (.slice g c.length i : Value).ownBlock) (.slice g c.length i) c 0 (c.length : Int) a d w0 _ ?side1 ?side2 n.1).mono ?_); (case side1 => exact qb0_ HB.1); (case side2 => exact Kd.R_tight rfl b.1); rintro e o ⟨rfl, hy0, hb, hkp⟩; refine ⟨_, rfl, ?_⟩; have _ := Q_ (Kd.R_reok rfl hy0 (fun k_ e_ => b.1.1 k_ e_)); have _ := Q_ (Kept.then_ (S := (fun k_ => P0_ k_)) (qt0_ HK.1) hkp (fun k_ hs_ => (fun e_ => (b.1.1 k_ e_.symm)) hs_)); have _ := Q_ (hb); clear b HK HB; rename_i b HK HB; (try clear hb hkp hy0)))
 first | go_end0 | ((try simp only [Exit.inBlock, Exit.then]); refine bodyPost_ret (results_none rfl _ _ _) rfl ?_)
 exact ⟨er_, pr_ b.1, pb_ HB.1, qt0_ HK.1⟩

/-! ### slices_Compact_int_int: function 96 -/
def slices_Compact_int_int.l0 : Nat → List Int → Int → Option (List Int)
 | 0, _, _ => none
 | k + 1, b, a => if a < (b.length : Int) then (if 0 ≤ a then (if 0 ≤ (wrap64 (a - 1)) then (if (wrap64 (a - 1)) < (b.length : Int) then (if (rd b a) = (rd b (wrap64 (a - 1))) then (none) else (slices_Compact_int_int.l0 k b (wrap64 (a + 1)))) else (none)) else (none)) else (none)) else (some b)
def slices_Compact_int_int.f (k : Nat) (a : List Int) : Option (List Int) := if (a.length : Int) < 2 then (some a) else (slices_Compact_int_int.l0 k a 1)
theorem slices_Compact_int_int.mono_l : ∀ k, (∀ a b, LeO (slices_Compact_int_int.l0 k a b) (slices_Compact_int_int.l0 (k + 1) a b))
 | 0 => fun _ _ r h => by simp [slices_Compact_int_int.l0] at h
 | k + 1 => by
  have ih0 := slices_Compact_int_int.mono_l k
  ·intro a b
   unfold slices_Compact_int_int.l0
   exact mo1_ ih0
theorem slices_Compact_int_int.mono : ∀ a k, LeO (slices_Compact_int_int.f k a) (slices_Compact_int_int.f (k + 1) a) := by
 intro a k
 have ih0 := slices_Compact_int_int.mono_l k
 unfold slices_Compact_int_int.f
 exact mo1_ ih0
theorem slices_Compact_int_int.calls (k : Nat) (P0_ : Nat → Prop) (u9000_ : Value) (b : List Int) (r : List Int) (w0 w : World) (hB : Below w0.heap.size w0 w) (K : Kd.R (Kd.int .i64) 3 w w0.heap.size P0_ u9000_ b) (h : slices_Compact_int_int.f k b = some r) :
  Calls Try.prog 96 #[u9000_] w fun e w' => ∃ v0_ : Value, e = .returned (v0_) ∧ Kd.R (Kd.int .i64) 3 w' w0.heap.size (fun k_ => (P0_ k_ ∨ w.heap.size ≤ k_)) v0_ r ∧ Below w0.heap.size w0 w' ∧ Kept w w' (fun k_ => P0_ k_) := by
 have m := Q_ (show Kd.R (Kd.int .i64) 3 w w0.heap.size (fun k_ => (P0_ k_ ∨ w.heap.size ≤ k_)) u9000_ b from Kd.R_mono K (fun k_ hk => (.inl hk)))
 have HK := Q_ (Kept.refl w (fun k_ => P0_ k_))
 have HW0 := Q_ hB.size
 have HB := Q_ hB
 clear hB
 have H : (if (b.length : Int) < 2 then (some b) else (slices_Compact_int_int.l0 k b 1)) = some r := h
 clear h
 by_cases p : (b.length : Int) < 2
 rotate_left
 ·rw [if_neg p] at H
  have t := decide_eq_false p
  have u : decide (b.length < 2) = false := decide_eq_false (by omega)
  clear p
  have H' := Q_ H
  clear H
  obtain ⟨G, I, J⟩ := Kd.R_slice m.1
  subst J
  go_enter Try.func96, Try.ntmps96
  go_wp2
  repeat (go_quiet (fail); try go_wp2)
  go_loopg [3] k (fun kq T w' => ∃ (a : Int), T = .int .i64 a ∧ Aside0 (slices_Compact_int_int.l0 kq b a = some r) ∧ Aside0 (kq ≤ k) ∧ Aside0 (Kd.R (Kd.int .i64) 3 w' w0.heap.size (fun k_ => (P0_ k_ ∨ w.heap.size ≤ k_)) (.slice G b.length I) b) ∧ Aside0 (Kept w w' (fun k_ => P0_ k_)) ∧ Aside0 (Below w0.heap.size w0 w'))
  case atStart => exact ⟨(1), el_, H', ⟨Nat.le_refl _⟩, ⟨pr_ m.1⟩, ⟨qt0_ HK.1⟩, ⟨pb_ HB.1⟩⟩
  clear H'
  obtain ⟨a, rfl, HA, s, d, HK, HB⟩ := hrel
  rcases gk with _ | k1
  ·exact absurd HA.1 (by simp [slices_Compact_int_int.l0])
  have H := HA.1
  clear HA
  simp only [slices_Compact_int_int.l0] at H
  by_cases q : a < (b.length : Int)
  rotate_left
  ·rw [if_neg q] at H
   have v := decide_eq_false q
   clear q
   obtain rfl := Option.some.inj H
   go_wp2
   repeat (go_quiet (fail); try go_wp2)
   go_ret
   exact ⟨_, er_, pr_ d.1, pb_ HB.1, qt0_ HK.1⟩
  rw [if_pos q] at H
  have v := decide_eq_true q
  clear q
  by_cases C : 0 ≤ a
  rotate_left
  ·rw [if_neg C] at H
   exact nn_ H
  rw [if_pos C] at H
  have M := decide_eq_true C
  clear C
  obtain ⟨c, hji6⟩ : ∃ j_ : Int, (wrap64 (a - 1)) = j_ := ⟨_, rfl⟩
  replace H : (if 0 ≤ (c) then (if (c) < (b.length : Int) then (if (rd b a) = (rd b (c)) then (none) else (slices_Compact_int_int.l0 k1 b (wrap64 (a + 1)))) else (none)) else (none)) = some r := by first | (rw [hji6] at H; exact H) | (simp only [hji6] at H ⊢; exact H)
  have hji6w : (IntKind.i64.wrap (a - 1)) = c := (i64_w _).trans hji6
  by_cases D : 0 ≤ (c)
  rotate_left
  ·rw [if_neg D] at H
   exact nn_ H
  rw [if_pos D] at H
  have N := decide_eq_true D
  clear D
  by_cases E : (c) < (b.length : Int)
  rotate_left
  ·rw [if_neg E] at H
   exact nn_ H
  rw [if_pos E] at H
  have O := decide_eq_true E
  clear E
  by_cases F : (rd b a) = (rd b (c))
  ·rw [if_pos F] at H
   exact nn_ H
  rw [if_neg F] at H
  have P : ((rd b a) == (rd b (c))) = false := beq_eq_false_iff_ne.mpr F
  have Q : ((rd b a) != (rd b (c))) = true := bne_iff_ne.mpr F
  have H' := Q_ H
  clear H
  have g : 0 ≤ (a : Int) := dt_
  have j : a < (b.length : Int) := dt_
  obtain ⟨n, x, A⟩ := Kd.at_int (Kd.R_reads' d.1).2.2 a g j
  cases x
  replace g := eq_true g
  replace j := eq_true j
  have i : 0 ≤ ((c) : Int) := dt_
  have l : (c) < (b.length : Int) := dt_
  obtain ⟨o, y, B⟩ := Kd.at_int (Kd.R_reads' d.1).2.2 (c) i l
  obtain rfl : n = o := (by injection y)
  replace i := eq_true i
  replace l := eq_true l
  go_wp2
  repeat (go_quiet (fail); try go_wp2)
  go_roundg k1
  case measure => have := s.1; omega
  case rel => exact ⟨(wrap64 (a + 1)), el_, H', ⟨by have := s.1; omega⟩, ⟨pr_ d.1⟩, ⟨qt0_ HK.1⟩, ⟨pb_ HB.1⟩⟩
 rw [if_pos p] at H
 have t := decide_eq_true p
 have u : decide (b.length < 2) = true := decide_eq_true (by omega)
 clear p
 obtain rfl := Option.some.inj H
 obtain ⟨L, S, z⟩ := Kd.R_slice m.1
 subst z
 go_enter Try.func96, Try.ntmps96
 go_wp2
 repeat (go_quiet (fail); try go_wp2)
 go_ret
 exact ⟨_, er_, pr_ m.1, pb_ HB.1, qt0_ HK.1⟩

/-! ### impl_MovesFrom: function 81 -/
def impl_MovesFrom.l0 : Nat → Int → Bool → List Int → List (S78) → Int → Int → Option (List Int)
 | 0, _, _, _, _, _, _ => none
 | k + 1, h, i, g, b, c, a => if a < c then (if 0 ≤ a then (if a < (b.length : Int) then (if ((rd_T78 b a).f0) = h then (if (((rd_T78 b a).f1) == i) = true then (if g.length < 17592186044416 then (impl_MovesFrom.l0 k h i (g ++ [(rd_T78 b a).f2]) b c (wrap64 (a + 1))) else (none)) else (impl_MovesFrom.l0 k h i g b c (wrap64 (a + 1)))) else (impl_MovesFrom.l0 k h i g b c (wrap64 (a + 1)))) else (none)) else (none)) else ((slices_Sort_int_int.f k g).bind fun d => ((slices_Compact_int_int.f k d).bind fun e => (some e)))
def impl_MovesFrom.f (k : Nat) (b : Int) (c : List Bool) (a : List (S78)) (d : Int) (e : Bool) : Option (List Int) := impl_MovesFrom.l0 k d e (([] : List Int)) a (a.length : Int) 0
theorem impl_MovesFrom.mono_l : ∀ k, (∀ a b c d e f, LeO (impl_MovesFrom.l0 k a b c d e f) (impl_MovesFrom.l0 (k + 1) a b c d e f))
 | 0 => fun _ _ _ _ _ _ r h => by simp [impl_MovesFrom.l0] at h
 | k + 1 => by
  have ih0 := impl_MovesFrom.mono_l k
  ·intro a b c d e f
   unfold impl_MovesFrom.l0
   exact mo3_ ih0 slices_Compact_int_int.mono slices_Sort_int_int.mono
theorem impl_MovesFrom.mono : ∀ a b c d e k, LeO (impl_MovesFrom.f k a b c d e) (impl_MovesFrom.f (k + 1) a b c d e) := by
 intro a b c d e k
 have ih0 := impl_MovesFrom.mono_l k
 unfold impl_MovesFrom.f
 exact mo3_ ih0 slices_Compact_int_int.mono slices_Sort_int_int.mono
theorem impl_MovesFrom.calls (k : Nat) (A : Int) (z : Option Addr) (B : Nat) (q : List Bool) (K : Option Addr) (D : Nat) (c : List (S78)) (P : Int) (L : Bool) (r : List Int) (w : World) (hr0_1 : Kd.C Kd.bool w z q.length q) (S : q.length ≤ B) (hr0_2 : Kd.C k78 w K c.length c) (T : c.length ≤ D) (h : impl_MovesFrom.f k A q c P L = some r) :
  Calls Try.prog 81 #[.agg #[.int .i64 A, .slice z q.length B, .slice K c.length D], .int .i64 P, .bool L] w fun e w' => ∃ v0_ : Value, e = .returned (v0_) ∧ Kd.R (Kd.int .i64) 3 w' w.heap.size (fun _ => True) v0_ r ∧ Below w.heap.size w w' := by
 have hu34 := Try.underlying34
 have hu78 := Try.underlying78
 have aC := Q_ hr0_1
 have az := Q_ S
 clear hr0_1 S
 have aj := Q_ hr0_2
 have aA := Q_ T
 clear hr0_2 T
 have HB := Q_ (Below.refl w.heap.size w)
 have H : (impl_MovesFrom.l0 k P L (([] : List Int)) c (c.length : Int) 0) = some r := h
 clear h
 obtain ⟨ac, hy131⟩ : ∃ y_ : List Int, y_ = (([] : List Int)) := ⟨_, rfl⟩
 replace H : (impl_MovesFrom.l0 k P L ac c (c.length : Int) 0) = some r := hb_ hy131 H
 have O := Q_ hy131
 clear hy131
 have H' := Q_ H
 clear H
 go_enter Try.func81, Try.ntmps81
 go_wp2_with (first | ((with_reducible refine gate_dst (N := 3) rfl ?_); refine bx_ 3 #[.int .i64 A, .slice z q.length B, .slice K c.length D] 34 ?_; intro Q hg w4 hbox hb; have _ := Q_ (below_step (pb_ HB.1) hb); have d := Q_ (hbox); have ae := Q_ (gw_ (w := w) hg (pb_ HB.1)); have j := ae; clear HB; rename_i HB; clear hb hbox hg) | ((with_reducible refine gate_dst (N := 10) rfl ?_); refine Kd.R_lit (Kd.int .i64) _ 3 ?hg (N := 10) ?hd (xs := ([] : List Int)) (inner := []) (ok := fun _ => True) (okp := fun _ => True) ?hr ?hp (fun _ hk => hk) trivial (Below.refl _ _) (Nat.le_refl _) (by simp) ?_; (case hd => rfl); (case hg => rfl); (case hr => first | (go_simp; done) | (go_simp; rfl)); (case hp => exact (Reps.none _ _)); intro aZ w5 U hb hg_ hnew_; clear hg_ hnew_; (first | rw [← O.1] at U | (simp only [Int.reduceToNat] at U; rw [← O.1] at U)); have _ := Q_ (Kd.R_lower U (below_size (pb1_ HB.1 j.1))); have _ := Q_ (bb_ d.1 hb); have _ := Q_ (below_step (pb1_ HB.1 j.1) hb); clear d HB; rename_i ag d HB; clear hb U; have aY := bc3_ d.1))
 (try simp only [Act.put, s1_, s2_, s3_])
 go_loopg [7, 14] k (fun kq v7 aX w' => ∃ (n : List Int) (a : Int), aX = .int .i64 a ∧ Aside0 (impl_MovesFrom.l0 kq P L n c (c.length : Int) a = some r) ∧ Aside0 (kq ≤ k) ∧ Aside0 (Kd.R (Kd.int .i64) 3 w' w.heap.size (fun _ => True) v7 n) ∧ Aside0 (w'.heap[Q]? = some (.cells #[.int .i64 A, (.slice z q.length B), (.slice K c.length D)] 34 (0, 0))) ∧ Aside0 (Below w.heap.size w w'))
 case atStart => exact ⟨(ac), (0), el_, H', ⟨Nat.le_refl _⟩, ⟨pr_ ag.1⟩, ⟨pk_ d.1⟩, ⟨pb1_ HB.1 j.1⟩⟩
 clear H'
 obtain ⟨n, a, rfl, HA, M, i, d, HB⟩ := hrel
 rcases gk with _ | k1
 ·exact absurd HA.1 (by simp [impl_MovesFrom.l0])
 have H := HA.1
 clear HA
 simp only [impl_MovesFrom.l0] at H
 by_cases c8 : a < (c.length : Int)
 rotate_left
 ·rw [if_neg c8] at H
  have au := decide_eq_false c8
  clear c8
  obtain ⟨aa, A9, H⟩ := bs_ H
  (try dsimp only at H)
  obtain ⟨ab, ay, H⟩ := bs_ H
  replace H : (some ab) = some r := H
  obtain rfl := Option.some.inj H
  obtain ⟨x, y, aw⟩ := Kd.R_slice i.1
  subst aw
  go_wp2_with (first | ((with_reducible refine gate_callee (f := 95) rfl ?_); refine gl_ (some 35) Try.func95 #[.slice x n.length y] ?_; (with_reducible refine (slices_Sort_int_int.calls k1 (fun k_ => some k_ = (.slice x n.length y : Value).ownBlock) (.slice x n.length y) n aa w _ ?side1 ?side2 A9.1).mono ?_); (case side1 => exact qb1_ HB.1 j.1); (case side2 => exact Kd.R_tight rfl i.1); rintro e a6 ⟨rfl, hy0, hb, hkp⟩; refine ⟨_, rfl, ?_⟩; have _ := Q_ (Kd.R_reok rfl hy0 (fun k_ e_ => i.1.1 k_ e_)); have _ := Q_ (blk_kept (pk_ d.1) hkp (fun hs_ => (fun e_ => (Kd.R_ne i.1 d.1 (by decide)) e_) hs_)); have _ := Q_ (hb); clear i d HB; rename_i i d HB; (try clear hb hkp hy0)) | ((with_reducible refine gate_callee (f := 96) rfl ?_); refine gl_ (some 37) Try.func96 #[.slice x n.length y] ?_; (with_reducible refine (slices_Compact_int_int.calls k1 (fun k_ => some k_ = (.slice x n.length y : Value).ownBlock) (.slice x n.length y) aa ab w _ ?side1 ?side2 ay.1).mono ?_); (case side1 => exact qb1_ HB.1 j.1); (case side2 => exact Kd.R_tight rfl i.1); rintro e a7 ⟨a3, rfl, ax, hb, hkp⟩; refine ⟨_, rfl, ?_⟩; have _ := Q_ (blk_kept (pk_ d.1) hkp (fun hs_ => (fun e_ => (Kd.R_ne i.1 d.1 (by decide)) e_) hs_)); have _ := Q_ (Kd.R_mono (ok' := fun k_ => True) ax (fun k_ hk_ => trivial)); have _ := Q_ (hb); clear d HB i; rename_i d ai HB; (try clear hb hkp ax)))
  go_ret
  exact ⟨_, er_, pr_ ai.1, pb1_ HB.1 j.1⟩
 rw [if_pos c8] at H
 have au := decide_eq_true c8
 clear c8
 by_cases X : 0 ≤ a
 rotate_left
 ·rw [if_neg X] at H
  exact nn_ H
 rw [if_pos X] at H
 have aD := decide_eq_true X
 clear X
 by_cases Y : a < (c.length : Int)
 rotate_left
 ·rw [if_neg Y] at H
  exact nn_ H
 rw [if_pos Y] at H
 have aE := decide_eq_true Y
 clear Y
 have HS_ := Q_ H
 clear H
 have V : 0 ≤ (a : Int) := dt_
 have W : a < (c.length : Int) := dt_
 obtain ⟨am, av, E, F, G, I⟩ := at_T78 aj.1 a V W
 cases av
 replace E := bt_ HB E
 replace F := bt_ HB F
 replace G := bt_ HB G
 replace I := bt_ HB I
 replace V := eq_true V
 replace W := eq_true W
 go_upto_region 5 with (first | ((with_reducible refine gate_dst (N := 9) rfl ?_); refine bx_ 9 #[.int .i64 0, .bool false, .int .i64 0, .int .i64 0] 78 ?_; intro aq hg a8 hbox hb; have _ := Q_ (Kd.R_below (pr_ i.1) hb); have _ := Q_ (bb_ d.1 hb); have _ := Q_ (below_step (pb1_ HB.1 j.1) hb); have l := Q_ (hbox); have af := Q_ (gw_ (w := w) hg (pb1_ HB.1 j.1)); have s := af; have m := Q_ (nb_ hg d); have p := Q_ m.1.symm; clear i d HB; rename_i i d HB; clear hb hbox hg; have aM := p.1; have aT := m.1; have aH := bc4_ l.1))
 (try simp only [Act.put, s1_, s2_, s3_])
 have H := HS_.1
 clear HS_
 by_cases J : ((rd_T78 c a).f0) = P
 rotate_left
 ·rw [if_neg J] at H
  have t : (((rd_T78 c a).f0) == P) = false := beq_eq_false_iff_ne.mpr J
  have u : (((rd_T78 c a).f0) != P) = true := bne_iff_ne.mpr J
  (first | rw [t] | (simp only [i64_w, i32_w]; rw [t]) | rw [u] | (have c_ := u; rw [bne] at c_; rw [c_]; clear c_) | skip)
  have H' := Q_ H
  clear H
  have aN := p.1
  have aU := m.1
  have aI := bc4_ l.1
  go_wp2
  go_roundg k1
  case measure => have := M.1; omega
  case rel => exact ⟨(n), (wrap64 (a + 1)), el_, H', ⟨by have := M.1; omega⟩, ⟨pr_ (Kd.R_mono (rf4_ i.1 l.1) (fun _ hk => trivial))⟩, ⟨pp_ d.1⟩, ⟨pb2_ HB.1 j.1 s.1⟩⟩
 rw [if_pos J] at H
 have t : (((rd_T78 c a).f0) == P) = true := beq_iff_eq.mpr J
 have u : (((rd_T78 c a).f0) != P) = false := bne_eq_false_iff_eq.mpr J
 clear J
 (first | rw [t] | (simp only [i64_w, i32_w]; rw [t]) | rw [u] | (have c_ := u; rw [bne] at c_; rw [c_]; clear c_) | skip)
 by_cases v : (((rd_T78 c a).f1) == L) = true
 rotate_left
 ·rw [if_neg v] at H
  have an : (((rd_T78 c a).f1) == L) = false := by simpa using v
  (try (have ao : decide (((rd_T78 c a).f1) = L) = false := by simpa using v))
  (try (have ap : (((rd_T78 c a).f1) == L) = false := by simpa using v))
  (try (have aG : ¬ (((rd_T78 c a).f1) = L) := by simpa using v))
  clear v
  have H' := Q_ H
  clear H
  have aQ := p.1
  have aV := m.1
  have aJ := bc4_ l.1
  go_wp2
  go_roundg k1
  case measure => have := M.1; omega
  case rel => exact ⟨(n), (wrap64 (a + 1)), el_, H', ⟨by have := M.1; omega⟩, ⟨pr_ (Kd.R_mono (rf4_ i.1 l.1) (fun _ hk => trivial))⟩, ⟨pp_ d.1⟩, ⟨pb2_ HB.1 j.1 s.1⟩⟩
 rw [if_pos v] at H
 have an : (((rd_T78 c a).f1) == L) = true := v
 (try (have ao : decide (((rd_T78 c a).f1) = L) = true := by simpa using v))
 (try (have ap : (((rd_T78 c a).f1) == L) = true := by simpa using v))
 clear v
 by_cases Z : n.length < 17592186044416
 rotate_left
 ·rw [if_neg Z] at H
  exact nn_ H
 rw [if_pos Z] at H
 have ak := Q_ Z
 clear Z
 obtain ⟨ad, hy136⟩ : ∃ y_ : List Int, y_ = (n ++ [(rd_T78 c a).f2]) := ⟨_, rfl⟩
 replace H : (impl_MovesFrom.l0 k1 P L ad c (c.length : Int) (wrap64 (a + 1))) = some r := hb_ hy136 H
 have al := Q_ hy136
 clear hy136
 have H' := Q_ H
 clear H
 have aR := p.1
 have aW := m.1
 have aK := bc4_ l.1
 go_wp2_with (first | ((with_reducible refine gate_builtin (b := .append) (xs := #[.tmp 28, .tmp 31]) rfl ?_); at_builtin; refine Kd.R_append (Kd.int .i64) (w0 := w) w.heap.size rfl (.tmp 28) (.tmp 31) 39 3 (.int .i64 0) 8 rfl Try.underlying39 info3 rfl (by decide) (by omega) u7 n ((rd_T78 c a).f2) [.int .i64 ((rd_T78 c a).f2)] (fun _ => True) (fun _ => False) rfl (by first | (go_simp; done) | (go_simp; rfl)) ?aP (fun _ hk => hk.elim) ?aF ?aO ?aB ?aS ?aL ?_; (case aP => exact rfl); (case aB => exact (pb2_ HB.1 j.1 s.1)); (case aF => exact (fun _ _ => trivial)); (case aO => exact (pr_ (Kd.R_mono (rf4_ i.1 l.1) (fun _ hk => trivial)))); (case aS => exact (below_size (pb2_ HB.1 j.1 s.1))); (case aL => have := ak.1; omega); intro a0 a9 ho hb hg hat; rw [← al.1] at ho; have _ := Q_ (blk_grown (g := Q) (o := .cells #[.int .i64 A, .slice z q.length B, .slice (some am) c.length D] 34 (0, 0)) (pp_ d.1) hg (Kd.R_ne i.1 d.1 (by decide))); have _ := Q_ (blk_grown (g := aq) (o := .cells #[.int .i64 ((rd_T78 c a).f0), .bool ((rd_T78 c a).f1), .int .i64 ((rd_T78 c a).f2), .int .i64 ((rd_T78 c a).f3)] 78 (0, 0)) (pp_ l.1) hg (Kd.R_ne i.1 l.1 (by decide))); have _ := Q_ (hb); have _ := Q_ (ho); clear d l HB i; rename_i d l HB ah; clear ho hb hg hat))
 go_roundg k1
 case measure => have := M.1; omega
 case rel => exact ⟨(ad), (wrap64 (a + 1)), el_, H', ⟨by have := M.1; omega⟩, ⟨pr_ ah.1⟩, ⟨pk_ d.1⟩, ⟨pb2_ HB.1 j.1 s.1⟩⟩

end Go.Proofs.Ytldcchjbaglppaa.Print
