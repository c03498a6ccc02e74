-- Written by a program of this session (printx.py) out of the translation; Lean checks it.
import Derived.Test.YtchnkakjjbfklaaPrint0
import Derived.Test.YtchnkakjjbfklaaPrint6
import Derived.Test.YtchnkakjjbfklaaPrint7
namespace Go.Proofs.Ytchnkakjjbfklaa.Print
open Go.RowKit Go.Proofs.YtchnkakjjbfklaaW.PrintWords Go.Proofs.YtchnkakjjbfklaaW.PrintLast Go.Proofs.YtchnkakjjbfklaaW.PrintMore Go.Proofs.Ytchnkakjjbfklaa.Short
attribute [local go_sem] max2_int min2_int max_two min_two max_three min_three max_four min_four   -- for this text's walks alone
set_option linter.unusedVariables false
set_option maxHeartbeats 8000000
set_option maxRecDepth 100000
set_option linter.unusedSimpArgs false

/-! ### slices_EqualFunc_impl_Dialed_impl_Dialed_impl_Dialed_impl_Dialed_with_impl_EqualDialed: function 100002 -/
def slices_EqualFunc_impl_Dialed_impl_Dialed_impl_Dialed_impl_Dialed_with_impl_EqualDialed.l0 : Nat → List (S55) → List (S55) → Int → Int → Option (Bool)
 | 0, _, _, _, _ => none
 | k + 1, c, b, e, a => if a < e then (if 0 ≤ a then (if a < (b.length : Int) then (if a < (c.length : Int) then ((impl_EqualDialed.f k ((rd_T55 b a).f0.f0) ((rd_T55 b a).f0.f1) ((rd_T55 b a).f0.f2) ((rd_T55 b a).f1) ((rd_T55 b a).f2) ((rd_T55 c a).f0.f0) ((rd_T55 c a).f0.f1) ((rd_T55 c a).f0.f2) ((rd_T55 c a).f1) ((rd_T55 c a).f2)).bind fun d => (if d = true then (slices_EqualFunc_impl_Dialed_impl_Dialed_impl_Dialed_impl_Dialed_with_impl_EqualDialed.l0 k c b e (wrap64 (a + 1))) else (some false))) else (none)) else (none)) else (none)) else (some true)
def slices_EqualFunc_impl_Dialed_impl_Dialed_impl_Dialed_impl_Dialed_with_impl_EqualDialed.f (k : Nat) (a : List (S55)) (b : List (S55)) : Option (Bool) := if (a.length : Int) = (b.length : Int) then (slices_EqualFunc_impl_Dialed_impl_Dialed_impl_Dialed_impl_Dialed_with_impl_EqualDialed.l0 k b a (a.length : Int) 0) else (some false)
theorem slices_EqualFunc_impl_Dialed_impl_Dialed_impl_Dialed_impl_Dialed_with_impl_EqualDialed.mono_l : ∀ k, (∀ a b c d, LeO (slices_EqualFunc_impl_Dialed_impl_Dialed_impl_Dialed_impl_Dialed_with_impl_EqualDialed.l0 k a b c d) (slices_EqualFunc_impl_Dialed_impl_Dialed_impl_Dialed_impl_Dialed_with_impl_EqualDialed.l0 (k + 1) a b c d))
 | 0 => fun _ _ _ _ r h => by simp [slices_EqualFunc_impl_Dialed_impl_Dialed_impl_Dialed_impl_Dialed_with_impl_EqualDialed.l0] at h
 | k + 1 => by
  have ih0 := slices_EqualFunc_impl_Dialed_impl_Dialed_impl_Dialed_impl_Dialed_with_impl_EqualDialed.mono_l k
  ·intro a b c d
   unfold slices_EqualFunc_impl_Dialed_impl_Dialed_impl_Dialed_impl_Dialed_with_impl_EqualDialed.l0
   exact mo2_ ih0 impl_EqualDialed.mono
theorem slices_EqualFunc_impl_Dialed_impl_Dialed_impl_Dialed_impl_Dialed_with_impl_EqualDialed.mono : ∀ a b k, LeO (slices_EqualFunc_impl_Dialed_impl_Dialed_impl_Dialed_impl_Dialed_with_impl_EqualDialed.f k a b) (slices_EqualFunc_impl_Dialed_impl_Dialed_impl_Dialed_impl_Dialed_with_impl_EqualDialed.f (k + 1) a b) := by
 intro a b k
 have ih0 := slices_EqualFunc_impl_Dialed_impl_Dialed_impl_Dialed_impl_Dialed_with_impl_EqualDialed.mono_l k
 unfold slices_EqualFunc_impl_Dialed_impl_Dialed_impl_Dialed_impl_Dialed_with_impl_EqualDialed.f
 exact mo2_ ih0 impl_EqualDialed.mono
theorem slices_EqualFunc_impl_Dialed_impl_Dialed_impl_Dialed_impl_Dialed_with_impl_EqualDialed.calls (k : Nat) (A0 : Option Addr) (c0 : Nat) (u : List (S55)) (A1 : Option Addr) (c1 : Nat) (G : List (S55)) (r : Bool) (w : World) (hr0 : Kd.C k55 w A0 u.length u) (ax : u.length ≤ c0) (hr1 : Kd.C k55 w A1 G.length G) (ay : G.length ≤ c1) (h : slices_EqualFunc_impl_Dialed_impl_Dialed_impl_Dialed_impl_Dialed_with_impl_EqualDialed.f k u G = some r) :
  Calls Try.prog 30 #[.slice A0 u.length c0, .slice A1 G.length c1, .func (.func 31) #[] #[]] w fun e w' => e = .returned (.bool r) ∧ Below w.heap.size w w' := by
 have hu55 := Try.underlying55
 have aD := Q_ hr0
 have aV := Q_ ax
 clear hr0 ax
 have aE := Q_ hr1
 have aW := Q_ ay
 clear hr1 ay
 have HB := Q_ (Below.refl w.heap.size w)
 have H : (if (u.length : Int) = (G.length : Int) then (slices_EqualFunc_impl_Dialed_impl_Dialed_impl_Dialed_impl_Dialed_with_impl_EqualDialed.l0 k G u (u.length : Int) 0) else (some false)) = some r := h
 clear h
 by_cases Z : (u.length : Int) = (G.length : Int)
 rotate_left
 ·rw [if_neg Z] at H
  have ap : ((u.length : Int) == (G.length : Int)) = false := beq_eq_false_iff_ne.mpr Z
  have aq : ((u.length : Int) != (G.length : Int)) = true := bne_iff_ne.mpr Z
  have ar : (u.length == G.length) = false := by first | simpa using Z | (simp at Z ⊢; omega)
  obtain rfl := Option.some.inj H
  go_enter Try.func30, Try.ntmps30
  (try simp only [Bool.not_false, Bool.not_true])
  go_wp2
  go_ret
  exact ⟨er_, pb_ HB.1⟩
 rw [if_pos Z] at H
 have ap : ((u.length : Int) == (G.length : Int)) = true := beq_iff_eq.mpr Z
 have aq : ((u.length : Int) != (G.length : Int)) = false := bne_eq_false_iff_eq.mpr Z
 have ar : (u.length == G.length) = true := by first | simpa using Z | (simp at Z ⊢; omega)
 clear Z
 have H' := Q_ H
 clear H
 go_enter Try.func30, Try.ntmps30
 (try simp only [Bool.not_false, Bool.not_true])
 go_wp2
 go_loopg [17] k (fun kq aN w' => ∃ (a : Int), aN = .int .i64 a ∧ Aside0 (slices_EqualFunc_impl_Dialed_impl_Dialed_impl_Dialed_impl_Dialed_with_impl_EqualDialed.l0 kq G u (u.length : Int) a = some r) ∧ Aside0 (kq ≤ k) ∧ Aside0 (Below w.heap.size w w'))
 case atStart => exact ⟨(0), el_, H', ⟨Nat.le_refl _⟩, ⟨pb_ HB.1⟩⟩
 clear H'
 obtain ⟨a, rfl, HA, ao, HB⟩ := hrel
 rcases gk with _ | k1
 ·exact absurd HA.1 (by simp [slices_EqualFunc_impl_Dialed_impl_Dialed_impl_Dialed_impl_Dialed_with_impl_EqualDialed.l0])
 have H := HA.1
 clear HA
 simp only [slices_EqualFunc_impl_Dialed_impl_Dialed_impl_Dialed_impl_Dialed_with_impl_EqualDialed.l0] at H
 by_cases c4 : a < (u.length : Int)
 rotate_left
 ·rw [if_neg c4] at H
  have au := decide_eq_false c4
  clear c4
  obtain rfl := Option.some.inj H
  (try simp only [Bool.not_false, Bool.not_true])
  go_wp2
  go_ret
  exact ⟨er_, pb_ HB.1⟩
 rw [if_pos c4] at H
 have au := decide_eq_true c4
 clear c4
 by_cases c5 : 0 ≤ a
 rotate_left
 ·rw [if_neg c5] at H
  exact nn_ H
 rw [if_pos c5] at H
 have aS := decide_eq_true c5
 clear c5
 by_cases c6 : a < (u.length : Int)
 rotate_left
 ·rw [if_neg c6] at H
  exact nn_ H
 rw [if_pos c6] at H
 have aT := decide_eq_true c6
 clear c6
 have HS_ := Q_ H
 clear H
 have ab : 0 ≤ (a : Int) := dt_
 have ad : a < (u.length : Int) := dt_
 obtain ⟨aF, v, y, x, z, av, L, M, O, P, Q, R, V, S, W⟩ := at_U55 aD.1 a ab ad
 cases av
 replace L := bt_ HB L
 replace M := bt_ HB M
 replace O := bt_ HB O
 replace P := bt_ HB P
 replace Q := bt_ HB Q
 replace ab := eq_true ab
 replace ad := eq_true ad
 go_upto_region 6 with (first | ((with_reducible refine gate_dst (N := 8) rfl ?_); refine bx_ 8 #[.bool false, .int .i64 0, .slice none 0 0, .int .i64 0, .slice none 0 0] 55 ?_; intro b hg w7 hbox hb; have _ := Q_ (below_step (pb_ HB.1) hb); have A := Q_ (hbox); have F := Q_ (gw_ (w := w) hg (pb_ HB.1)); have B := F; clear HB; rename_i HB; clear hb hbox hg; have aU := bc5_ A.1))
 (try simp only [Act.put, s1_, s2_, s3_])
 have H := HS_.1
 clear HS_
 by_cases c9 : a < (G.length : Int)
 rotate_left
 ·rw [if_neg c9] at H
  exact nn_ H
 rw [if_pos c9] at H
 have ak := decide_eq_true c9
 clear c9
 (first | rw [ak] | (simp only [i64_w, i32_w]; rw [ak]) | skip)
 have HS_ := Q_ H
 clear H
 have ac : 0 ≤ (a : Int) := dt_
 have ae : a < (G.length : Int) := dt_
 obtain ⟨K, af, ai, ag, aj, aw, c, n, q, s, t, T, X, U, Y⟩ := at_U55 aE.1 a ac ae
 cases aw
 have d : K.block ≠ b := Nat.ne_of_lt (Nat.lt_of_lt_of_le (by have := World.block_lt_of_cell? _ _ c; first | rwa [add_block] at this | exact this) F.1)
 have i : K.block ≠ b := Nat.ne_of_lt (Nat.lt_of_lt_of_le (by have := World.block_lt_of_cell? _ _ c; first | rwa [add_block] at this | exact this) F.1)
 have j : K.block ≠ b := Nat.ne_of_lt (Nat.lt_of_lt_of_le (by have := World.block_lt_of_cell? _ _ c; first | rwa [add_block] at this | exact this) F.1)
 have l : K.block ≠ b := Nat.ne_of_lt (Nat.lt_of_lt_of_le (by have := World.block_lt_of_cell? _ _ c; first | rwa [add_block] at this | exact this) F.1)
 have m : K.block ≠ b := Nat.ne_of_lt (Nat.lt_of_lt_of_le (by have := World.block_lt_of_cell? _ _ c; first | rwa [add_block] at this | exact this) F.1)
 replace c := bt_ HB c
 replace n := bt_ HB n
 replace q := bt_ HB q
 replace s := bt_ HB s
 replace t := bt_ HB t
 replace c := (cell_far (p := ⟨b, 0, none⟩) (by first | (rw [add_block]; exact d) | (show (Addr.add _ _).block ≠ _; rw [add_block]; exact d) | exact d) (.bool ((rd_T55 u a).f0.f0))).trans c
 replace n := (cell_far (p := ⟨b, 0, none⟩) (by first | (rw [add_block]; exact d) | (show (Addr.add _ _).block ≠ _; rw [add_block]; exact d) | exact d) (.bool ((rd_T55 u a).f0.f0))).trans n
 replace q := (cell_far (p := ⟨b, 0, none⟩) (by first | (rw [add_block]; exact d) | (show (Addr.add _ _).block ≠ _; rw [add_block]; exact d) | exact d) (.bool ((rd_T55 u a).f0.f0))).trans q
 replace s := (cell_far (p := ⟨b, 0, none⟩) (by first | (rw [add_block]; exact d) | (show (Addr.add _ _).block ≠ _; rw [add_block]; exact d) | exact d) (.bool ((rd_T55 u a).f0.f0))).trans s
 replace t := (cell_far (p := ⟨b, 0, none⟩) (by first | (rw [add_block]; exact d) | (show (Addr.add _ _).block ≠ _; rw [add_block]; exact d) | exact d) (.bool ((rd_T55 u a).f0.f0))).trans t
 replace c := (cell_far (p := ⟨b, 1, none⟩) (by first | (rw [add_block]; exact i) | (show (Addr.add _ _).block ≠ _; rw [add_block]; exact i) | exact i) (.int .i64 ((rd_T55 u a).f0.f1))).trans c
 replace n := (cell_far (p := ⟨b, 1, none⟩) (by first | (rw [add_block]; exact i) | (show (Addr.add _ _).block ≠ _; rw [add_block]; exact i) | exact i) (.int .i64 ((rd_T55 u a).f0.f1))).trans n
 replace q := (cell_far (p := ⟨b, 1, none⟩) (by first | (rw [add_block]; exact i) | (show (Addr.add _ _).block ≠ _; rw [add_block]; exact i) | exact i) (.int .i64 ((rd_T55 u a).f0.f1))).trans q
 replace s := (cell_far (p := ⟨b, 1, none⟩) (by first | (rw [add_block]; exact i) | (show (Addr.add _ _).block ≠ _; rw [add_block]; exact i) | exact i) (.int .i64 ((rd_T55 u a).f0.f1))).trans s
 replace t := (cell_far (p := ⟨b, 1, none⟩) (by first | (rw [add_block]; exact i) | (show (Addr.add _ _).block ≠ _; rw [add_block]; exact i) | exact i) (.int .i64 ((rd_T55 u a).f0.f1))).trans t
 replace c := (cell_far (p := ⟨b, 2, none⟩) (by first | (rw [add_block]; exact j) | (show (Addr.add _ _).block ≠ _; rw [add_block]; exact j) | exact j) (.slice v ((rd_T55 u a).f0.f2).length y)).trans c
 replace n := (cell_far (p := ⟨b, 2, none⟩) (by first | (rw [add_block]; exact j) | (show (Addr.add _ _).block ≠ _; rw [add_block]; exact j) | exact j) (.slice v ((rd_T55 u a).f0.f2).length y)).trans n
 replace q := (cell_far (p := ⟨b, 2, none⟩) (by first | (rw [add_block]; exact j) | (show (Addr.add _ _).block ≠ _; rw [add_block]; exact j) | exact j) (.slice v ((rd_T55 u a).f0.f2).length y)).trans q
 replace s := (cell_far (p := ⟨b, 2, none⟩) (by first | (rw [add_block]; exact j) | (show (Addr.add _ _).block ≠ _; rw [add_block]; exact j) | exact j) (.slice v ((rd_T55 u a).f0.f2).length y)).trans s
 replace t := (cell_far (p := ⟨b, 2, none⟩) (by first | (rw [add_block]; exact j) | (show (Addr.add _ _).block ≠ _; rw [add_block]; exact j) | exact j) (.slice v ((rd_T55 u a).f0.f2).length y)).trans t
 replace c := (cell_far (p := ⟨b, 3, none⟩) (by first | (rw [add_block]; exact l) | (show (Addr.add _ _).block ≠ _; rw [add_block]; exact l) | exact l) (.int .i64 ((rd_T55 u a).f1))).trans c
 replace n := (cell_far (p := ⟨b, 3, none⟩) (by first | (rw [add_block]; exact l) | (show (Addr.add _ _).block ≠ _; rw [add_block]; exact l) | exact l) (.int .i64 ((rd_T55 u a).f1))).trans n
 replace q := (cell_far (p := ⟨b, 3, none⟩) (by first | (rw [add_block]; exact l) | (show (Addr.add _ _).block ≠ _; rw [add_block]; exact l) | exact l) (.int .i64 ((rd_T55 u a).f1))).trans q
 replace s := (cell_far (p := ⟨b, 3, none⟩) (by first | (rw [add_block]; exact l) | (show (Addr.add _ _).block ≠ _; rw [add_block]; exact l) | exact l) (.int .i64 ((rd_T55 u a).f1))).trans s
 replace t := (cell_far (p := ⟨b, 3, none⟩) (by first | (rw [add_block]; exact l) | (show (Addr.add _ _).block ≠ _; rw [add_block]; exact l) | exact l) (.int .i64 ((rd_T55 u a).f1))).trans t
 replace c := (cell_far (p := ⟨b, 4, none⟩) (by first | (rw [add_block]; exact m) | (show (Addr.add _ _).block ≠ _; rw [add_block]; exact m) | exact m) (.slice x ((rd_T55 u a).f2).length z)).trans c
 replace n := (cell_far (p := ⟨b, 4, none⟩) (by first | (rw [add_block]; exact m) | (show (Addr.add _ _).block ≠ _; rw [add_block]; exact m) | exact m) (.slice x ((rd_T55 u a).f2).length z)).trans n
 replace q := (cell_far (p := ⟨b, 4, none⟩) (by first | (rw [add_block]; exact m) | (show (Addr.add _ _).block ≠ _; rw [add_block]; exact m) | exact m) (.slice x ((rd_T55 u a).f2).length z)).trans q
 replace s := (cell_far (p := ⟨b, 4, none⟩) (by first | (rw [add_block]; exact m) | (show (Addr.add _ _).block ≠ _; rw [add_block]; exact m) | exact m) (.slice x ((rd_T55 u a).f2).length z)).trans s
 replace t := (cell_far (p := ⟨b, 4, none⟩) (by first | (rw [add_block]; exact m) | (show (Addr.add _ _).block ≠ _; rw [add_block]; exact m) | exact m) (.slice x ((rd_T55 u a).f2).length z)).trans t
 clear d
 clear i
 clear j
 clear l
 clear m
 replace ac := eq_true ac
 replace ae := eq_true ae
 go_upto_region 7 with (first | ((with_reducible refine gate_dst (N := 9) rfl ?_); refine bx_ 9 #[.bool false, .int .i64 0, .slice none 0 0, .int .i64 0, .slice none 0 0] 55 ?_; intro aa hg aX hbox hb; have _ := Q_ (blk_below (g := b) (o := .cells #[.bool ((rd_T55 u a).f0.f0), .int .i64 ((rd_T55 u a).f0.f1), .slice v ((rd_T55 u a).f0.f2).length y, .int .i64 ((rd_T55 u a).f1), .slice x ((rd_T55 u a).f2).length z] 55 (0, 0)) (pp_ A.1) hb); have _ := Q_ (below_step (pb1_ HB.1 B.1) hb); have I := Q_ (hbox); have am := Q_ (gw_ (w := w) hg (pb1_ HB.1 B.1)); have D := am; have E := Q_ ((by rw [hg]; exact Nat.ne_of_lt (blk_lt (g := b) (o := .cells #[.bool ((rd_T55 u a).f0.f0), .int .i64 ((rd_T55 u a).f0.f1), .slice v ((rd_T55 u a).f0.f2).length y, .int .i64 ((rd_T55 u a).f1), .slice x ((rd_T55 u a).f2).length z] 55 (0, 0)) (pp_ A.1)) : b ≠ aa)); have J := Q_ E.1.symm; clear A HB; rename_i A HB; clear hb hbox hg; have aJ := J.1; have aL := E.1; have aG := bc5_ I.1))
 (try simp only [Act.put, s1_, s2_, s3_])
 have H := HS_.1
 clear HS_
 obtain ⟨al, aC, H⟩ := bs_ H
 (try dsimp only at H)
 have HS_ := Q_ H
 clear H
 have aK := E.1
 have aM := J.1
 have aH := bc5_ A.1
 have aI := bc5_ I.1
 go_upto_if 30 with (first | (go_at_call 31; (with_reducible refine (impl_EqualDialed.calls k1 ((rd_T55 u a).f0.f0) ((rd_T55 u a).f0.f1) _ _ ((rd_T55 u a).f0.f2) ((rd_T55 u a).f1) _ _ ((rd_T55 u a).f2) ((rd_T55 G a).f0.f0) ((rd_T55 G a).f0.f1) _ _ ((rd_T55 G a).f0.f2) ((rd_T55 G a).f1) _ _ ((rd_T55 G a).f2) al _ ?side1 R.1 ?side3 S.1 ?side5 T.1 ?side7 U.1 aC.1).mono ?_); (case side1 => exact Kd.C_below V.1 (pb2_ HB.1 B.1 D.1)); (case side3 => exact Kd.C_below W.1 (pb2_ HB.1 B.1 D.1)); (case side5 => exact Kd.C_below X.1 (pb2_ HB.1 B.1 D.1)); (case side7 => exact Kd.C_below Y.1 (pb2_ HB.1 B.1 D.1)); rintro e aY ⟨rfl, hb⟩; have _ := Q_ (blk_below (g := b) (o := .cells #[.bool ((rd_T55 u a).f0.f0), .int .i64 ((rd_T55 u a).f0.f1), .slice v ((rd_T55 u a).f0.f2).length y, .int .i64 ((rd_T55 u a).f1), .slice x ((rd_T55 u a).f2).length z] 55 (0, 0)) (pp_ A.1) hb); have _ := Q_ (blk_below (g := aa) (o := .cells #[.bool ((rd_T55 G a).f0.f0), .int .i64 ((rd_T55 G a).f0.f1), .slice af ((rd_T55 G a).f0.f2).length ai, .int .i64 ((rd_T55 G a).f1), .slice ag ((rd_T55 G a).f2).length aj] 55 (0, 0)) (pp_ I.1) hb); have _ := Q_ (below_step (pb2_ HB.1 B.1 D.1) hb); clear A I HB; rename_i A I HB; (try clear hb)))
 (try simp only [Act.put, s1_, s2_, s3_])
 have H := HS_.1
 clear HS_
 by_cases ah : al = true
 rotate_left
 ·replace ah := bf_ ah
  subst ah
  rw [if_neg ff_] at H
  obtain rfl := Option.some.inj H
  (try simp only [Bool.not_false, Bool.not_true])
  go_wp2
  go_ret
  exact ⟨er_, pb2_ HB.1 B.1 D.1⟩
 subst ah
 rw [if_pos rfl] at H
 have H' := Q_ H
 clear H
 (try simp only [Bool.not_false, Bool.not_true])
 go_wp2
 go_roundg k1
 case measure => have := ao.1; omega
 case rel => exact ⟨(wrap64 (a + 1)), el_, H', ⟨by have := ao.1; omega⟩, ⟨pb2_ HB.1 B.1 D.1⟩⟩

/-! ### slices_EqualFunc_impl_Logged_impl_Logged_impl_Logged_impl_Logged_with_impl_equalLogged: function 100003 -/
def slices_EqualFunc_impl_Logged_impl_Logged_impl_Logged_impl_Logged_with_impl_equalLogged.l0 : Nat → List (S57) → List (S57) → Int → Int → Option (Bool)
 | 0, _, _, _, _ => none
 | k + 1, c, b, e, a => if a < e then (if 0 ≤ a then (if a < (b.length : Int) then (if a < (c.length : Int) then ((impl_equalLogged.f k ((rd_T57 b a).f0) ((rd_T57 b a).f1) ((rd_T57 b a).f2) ((rd_T57 b a).f3.f0.f0) ((rd_T57 b a).f3.f0.f1) ((rd_T57 b a).f3.f0.f2) ((rd_T57 b a).f3.f1) ((rd_T57 b a).f3.f2) ((rd_T57 c a).f0) ((rd_T57 c a).f1) ((rd_T57 c a).f2) ((rd_T57 c a).f3.f0.f0) ((rd_T57 c a).f3.f0.f1) ((rd_T57 c a).f3.f0.f2) ((rd_T57 c a).f3.f1) ((rd_T57 c a).f3.f2)).bind fun d => (if d = true then (slices_EqualFunc_impl_Logged_impl_Logged_impl_Logged_impl_Logged_with_impl_equalLogged.l0 k c b e (wrap64 (a + 1))) else (some false))) else (none)) else (none)) else (none)) else (some true)
def slices_EqualFunc_impl_Logged_impl_Logged_impl_Logged_impl_Logged_with_impl_equalLogged.f (k : Nat) (a : List (S57)) (b : List (S57)) : Option (Bool) := if (a.length : Int) = (b.length : Int) then (slices_EqualFunc_impl_Logged_impl_Logged_impl_Logged_impl_Logged_with_impl_equalLogged.l0 k b a (a.length : Int) 0) else (some false)
theorem slices_EqualFunc_impl_Logged_impl_Logged_impl_Logged_impl_Logged_with_impl_equalLogged.mono_l : ∀ k, (∀ a b c d, LeO (slices_EqualFunc_impl_Logged_impl_Logged_impl_Logged_impl_Logged_with_impl_equalLogged.l0 k a b c d) (slices_EqualFunc_impl_Logged_impl_Logged_impl_Logged_impl_Logged_with_impl_equalLogged.l0 (k + 1) a b c d))
 | 0 => fun _ _ _ _ r h => by simp [slices_EqualFunc_impl_Logged_impl_Logged_impl_Logged_impl_Logged_with_impl_equalLogged.l0] at h
 | k + 1 => by
  have ih0 := slices_EqualFunc_impl_Logged_impl_Logged_impl_Logged_impl_Logged_with_impl_equalLogged.mono_l k
  ·intro a b c d
   unfold slices_EqualFunc_impl_Logged_impl_Logged_impl_Logged_impl_Logged_with_impl_equalLogged.l0
   exact mo2_ ih0 impl_equalLogged.mono
theorem slices_EqualFunc_impl_Logged_impl_Logged_impl_Logged_impl_Logged_with_impl_equalLogged.mono : ∀ a b k, LeO (slices_EqualFunc_impl_Logged_impl_Logged_impl_Logged_impl_Logged_with_impl_equalLogged.f k a b) (slices_EqualFunc_impl_Logged_impl_Logged_impl_Logged_impl_Logged_with_impl_equalLogged.f (k + 1) a b) := by
 intro a b k
 have ih0 := slices_EqualFunc_impl_Logged_impl_Logged_impl_Logged_impl_Logged_with_impl_equalLogged.mono_l k
 unfold slices_EqualFunc_impl_Logged_impl_Logged_impl_Logged_impl_Logged_with_impl_equalLogged.f
 exact mo2_ ih0 impl_equalLogged.mono
theorem slices_EqualFunc_impl_Logged_impl_Logged_impl_Logged_impl_Logged_with_impl_equalLogged.calls (k : Nat) (A0 : Option Addr) (c0 : Nat) (t : List (S57)) (A1 : Option Addr) (c1 : Nat) (M : List (S57)) (r : Bool) (w : World) (hr0 : Kd.C k57 w A0 t.length t) (aG : t.length ≤ c0) (hr1 : Kd.C k57 w A1 M.length M) (aH : M.length ≤ c1) (h : slices_EqualFunc_impl_Logged_impl_Logged_impl_Logged_impl_Logged_with_impl_equalLogged.f k t M = some r) :
  Calls Try.prog 32 #[.slice A0 t.length c0, .slice A1 M.length c1, .func (.func 33) #[] #[]] w fun e w' => e = .returned (.bool r) ∧ Below w.heap.size w w' := by
 have hu57 := Try.underlying57
 have aM := Q_ hr0
 have a4 := Q_ aG
 clear hr0 aG
 have aN := Q_ hr1
 have a5 := Q_ aH
 clear hr1 aH
 have HB := Q_ (Below.refl w.heap.size w)
 have H : (if (t.length : Int) = (M.length : Int) then (slices_EqualFunc_impl_Logged_impl_Logged_impl_Logged_impl_Logged_with_impl_equalLogged.l0 k M t (t.length : Int) 0) else (some false)) = some r := h
 clear h
 by_cases c3 : (t.length : Int) = (M.length : Int)
 rotate_left
 ·rw [if_neg c3] at H
  have aA : ((t.length : Int) == (M.length : Int)) = false := beq_eq_false_iff_ne.mpr c3
  have aB : ((t.length : Int) != (M.length : Int)) = true := bne_iff_ne.mpr c3
  have aC : (t.length == M.length) = false := by first | simpa using c3 | (simp at c3 ⊢; omega)
  obtain rfl := Option.some.inj H
  go_enter Try.func32, Try.ntmps32
  (try simp only [Bool.not_false, Bool.not_true])
  go_wp2
  go_ret
  exact ⟨er_, pb_ HB.1⟩
 rw [if_pos c3] at H
 have aA : ((t.length : Int) == (M.length : Int)) = true := beq_iff_eq.mpr c3
 have aB : ((t.length : Int) != (M.length : Int)) = false := bne_eq_false_iff_eq.mpr c3
 have aC : (t.length == M.length) = true := by first | simpa using c3 | (simp at c3 ⊢; omega)
 clear c3
 have H' := Q_ H
 clear H
 go_enter Try.func32, Try.ntmps32
 (try simp only [Bool.not_false, Bool.not_true])
 go_wp2
 go_loopg [17] k (fun kq aW w' => ∃ (a : Int), aW = .int .i64 a ∧ Aside0 (slices_EqualFunc_impl_Logged_impl_Logged_impl_Logged_impl_Logged_with_impl_equalLogged.l0 kq M t (t.length : Int) a = some r) ∧ Aside0 (kq ≤ k) ∧ Aside0 (Below w.heap.size w w'))
 case atStart => exact ⟨(0), el_, H', ⟨Nat.le_refl _⟩, ⟨pb_ HB.1⟩⟩
 clear H'
 obtain ⟨a, rfl, HA, az, HB⟩ := hrel
 rcases gk with _ | k1
 ·exact absurd HA.1 (by simp [slices_EqualFunc_impl_Logged_impl_Logged_impl_Logged_impl_Logged_with_impl_equalLogged.l0])
 have H := HA.1
 clear HA
 simp only [slices_EqualFunc_impl_Logged_impl_Logged_impl_Logged_impl_Logged_with_impl_equalLogged.l0] at H
 by_cases c4 : a < (t.length : Int)
 rotate_left
 ·rw [if_neg c4] at H
  have aD := decide_eq_false c4
  clear c4
  obtain rfl := Option.some.inj H
  (try simp only [Bool.not_false, Bool.not_true])
  go_wp2
  go_ret
  exact ⟨er_, pb_ HB.1⟩
 rw [if_pos c4] at H
 have aD := decide_eq_true c4
 clear c4
 by_cases c5 : 0 ≤ a
 rotate_left
 ·rw [if_neg c5] at H
  exact nn_ H
 rw [if_pos c5] at H
 have a1 := decide_eq_true c5
 clear c5
 by_cases c6 : a < (t.length : Int)
 rotate_left
 ·rw [if_neg c6] at H
  exact nn_ H
 rw [if_pos c6] at H
 have a2 := decide_eq_true c6
 clear c6
 have HS_ := Q_ H
 clear H
 have ak : 0 ≤ (a : Int) := dt_
 have am : a < (t.length : Int) := dt_
 obtain ⟨aO, D, F, E, G, aE, S, T, U, V, W, X, Y, Z, aa, ae, ab, af⟩ := at_U57 aM.1 a ak am
 cases aE
 replace S := bt_ HB S
 replace T := bt_ HB T
 replace U := bt_ HB U
 replace V := bt_ HB V
 replace W := bt_ HB W
 replace X := bt_ HB X
 replace Y := bt_ HB Y
 replace Z := bt_ HB Z
 replace ak := eq_true ak
 replace am := eq_true am
 go_upto_region 6 with (first | ((with_reducible refine gate_dst (N := 8) rfl ?_); refine bx_ 8 #[.int .i64 0, .int .i64 0, .bool false, .bool false, .int .i64 0, .slice none 0 0, .int .i64 0, .slice none 0 0] 57 ?_; intro b hg w7 hbox hb; have _ := Q_ (below_step (pb_ HB.1) hb); have I := Q_ (hbox); have K := Q_ (gw_ (w := w) hg (pb_ HB.1)); have J := K; clear HB; rename_i HB; clear hb hbox hg; have a3 := bc8_ I.1))
 (try simp only [Act.put, s1_, s2_, s3_])
 have H := HS_.1
 clear HS_
 by_cases c9 : a < (M.length : Int)
 rotate_left
 ·rw [if_neg c9] at H
  exact nn_ H
 rw [if_pos c9] at H
 have av := decide_eq_true c9
 clear c9
 (first | rw [av] | (simp only [i64_w, i32_w]; rw [av]) | skip)
 have HS_ := Q_ H
 clear H
 have al : 0 ≤ (a : Int) := dt_
 have an : a < (M.length : Int) := dt_
 obtain ⟨L, ao, ar, ap, au, aF, c, u, v, x, y, z, A, B, ac, ag, ad, ah⟩ := at_U57 aN.1 a al an
 cases aF
 have d : L.block ≠ b := Nat.ne_of_lt (Nat.lt_of_lt_of_le (by have := World.block_lt_of_cell? _ _ c; first | rwa [add_block] at this | exact this) K.1)
 have i : L.block ≠ b := Nat.ne_of_lt (Nat.lt_of_lt_of_le (by have := World.block_lt_of_cell? _ _ c; first | rwa [add_block] at this | exact this) K.1)
 have j : L.block ≠ b := Nat.ne_of_lt (Nat.lt_of_lt_of_le (by have := World.block_lt_of_cell? _ _ c; first | rwa [add_block] at this | exact this) K.1)
 have l : L.block ≠ b := Nat.ne_of_lt (Nat.lt_of_lt_of_le (by have := World.block_lt_of_cell? _ _ c; first | rwa [add_block] at this | exact this) K.1)
 have m : L.block ≠ b := Nat.ne_of_lt (Nat.lt_of_lt_of_le (by have := World.block_lt_of_cell? _ _ c; first | rwa [add_block] at this | exact this) K.1)
 have n : L.block ≠ b := Nat.ne_of_lt (Nat.lt_of_lt_of_le (by have := World.block_lt_of_cell? _ _ c; first | rwa [add_block] at this | exact this) K.1)
 have q : L.block ≠ b := Nat.ne_of_lt (Nat.lt_of_lt_of_le (by have := World.block_lt_of_cell? _ _ c; first | rwa [add_block] at this | exact this) K.1)
 have s : L.block ≠ b := Nat.ne_of_lt (Nat.lt_of_lt_of_le (by have := World.block_lt_of_cell? _ _ c; first | rwa [add_block] at this | exact this) K.1)
 replace c := bt_ HB c
 replace u := bt_ HB u
 replace v := bt_ HB v
 replace x := bt_ HB x
 replace y := bt_ HB y
 replace z := bt_ HB z
 replace A := bt_ HB A
 replace B := bt_ HB B
 replace c := (cell_far (p := ⟨b, 0, none⟩) (by first | (rw [add_block]; exact d) | (show (Addr.add _ _).block ≠ _; rw [add_block]; exact d) | exact d) (.int .i64 ((rd_T57 t a).f0))).trans c
 replace u := (cell_far (p := ⟨b, 0, none⟩) (by first | (rw [add_block]; exact d) | (show (Addr.add _ _).block ≠ _; rw [add_block]; exact d) | exact d) (.int .i64 ((rd_T57 t a).f0))).trans u
 replace v := (cell_far (p := ⟨b, 0, none⟩) (by first | (rw [add_block]; exact d) | (show (Addr.add _ _).block ≠ _; rw [add_block]; exact d) | exact d) (.int .i64 ((rd_T57 t a).f0))).trans v
 replace x := (cell_far (p := ⟨b, 0, none⟩) (by first | (rw [add_block]; exact d) | (show (Addr.add _ _).block ≠ _; rw [add_block]; exact d) | exact d) (.int .i64 ((rd_T57 t a).f0))).trans x
 replace y := (cell_far (p := ⟨b, 0, none⟩) (by first | (rw [add_block]; exact d) | (show (Addr.add _ _).block ≠ _; rw [add_block]; exact d) | exact d) (.int .i64 ((rd_T57 t a).f0))).trans y
 replace z := (cell_far (p := ⟨b, 0, none⟩) (by first | (rw [add_block]; exact d) | (show (Addr.add _ _).block ≠ _; rw [add_block]; exact d) | exact d) (.int .i64 ((rd_T57 t a).f0))).trans z
 replace A := (cell_far (p := ⟨b, 0, none⟩) (by first | (rw [add_block]; exact d) | (show (Addr.add _ _).block ≠ _; rw [add_block]; exact d) | exact d) (.int .i64 ((rd_T57 t a).f0))).trans A
 replace B := (cell_far (p := ⟨b, 0, none⟩) (by first | (rw [add_block]; exact d) | (show (Addr.add _ _).block ≠ _; rw [add_block]; exact d) | exact d) (.int .i64 ((rd_T57 t a).f0))).trans B
 replace c := (cell_far (p := ⟨b, 1, none⟩) (by first | (rw [add_block]; exact i) | (show (Addr.add _ _).block ≠ _; rw [add_block]; exact i) | exact i) (.int .i64 ((rd_T57 t a).f1))).trans c
 replace u := (cell_far (p := ⟨b, 1, none⟩) (by first | (rw [add_block]; exact i) | (show (Addr.add _ _).block ≠ _; rw [add_block]; exact i) | exact i) (.int .i64 ((rd_T57 t a).f1))).trans u
 replace v := (cell_far (p := ⟨b, 1, none⟩) (by first | (rw [add_block]; exact i) | (show (Addr.add _ _).block ≠ _; rw [add_block]; exact i) | exact i) (.int .i64 ((rd_T57 t a).f1))).trans v
 replace x := (cell_far (p := ⟨b, 1, none⟩) (by first | (rw [add_block]; exact i) | (show (Addr.add _ _).block ≠ _; rw [add_block]; exact i) | exact i) (.int .i64 ((rd_T57 t a).f1))).trans x
 replace y := (cell_far (p := ⟨b, 1, none⟩) (by first | (rw [add_block]; exact i) | (show (Addr.add _ _).block ≠ _; rw [add_block]; exact i) | exact i) (.int .i64 ((rd_T57 t a).f1))).trans y
 replace z := (cell_far (p := ⟨b, 1, none⟩) (by first | (rw [add_block]; exact i) | (show (Addr.add _ _).block ≠ _; rw [add_block]; exact i) | exact i) (.int .i64 ((rd_T57 t a).f1))).trans z
 replace A := (cell_far (p := ⟨b, 1, none⟩) (by first | (rw [add_block]; exact i) | (show (Addr.add _ _).block ≠ _; rw [add_block]; exact i) | exact i) (.int .i64 ((rd_T57 t a).f1))).trans A
 replace B := (cell_far (p := ⟨b, 1, none⟩) (by first | (rw [add_block]; exact i) | (show (Addr.add _ _).block ≠ _; rw [add_block]; exact i) | exact i) (.int .i64 ((rd_T57 t a).f1))).trans B
 replace c := (cell_far (p := ⟨b, 2, none⟩) (by first | (rw [add_block]; exact j) | (show (Addr.add _ _).block ≠ _; rw [add_block]; exact j) | exact j) (.bool ((rd_T57 t a).f2))).trans c
 replace u := (cell_far (p := ⟨b, 2, none⟩) (by first | (rw [add_block]; exact j) | (show (Addr.add _ _).block ≠ _; rw [add_block]; exact j) | exact j) (.bool ((rd_T57 t a).f2))).trans u
 replace v := (cell_far (p := ⟨b, 2, none⟩) (by first | (rw [add_block]; exact j) | (show (Addr.add _ _).block ≠ _; rw [add_block]; exact j) | exact j) (.bool ((rd_T57 t a).f2))).trans v
 replace x := (cell_far (p := ⟨b, 2, none⟩) (by first | (rw [add_block]; exact j) | (show (Addr.add _ _).block ≠ _; rw [add_block]; exact j) | exact j) (.bool ((rd_T57 t a).f2))).trans x
 replace y := (cell_far (p := ⟨b, 2, none⟩) (by first | (rw [add_block]; exact j) | (show (Addr.add _ _).block ≠ _; rw [add_block]; exact j) | exact j) (.bool ((rd_T57 t a).f2))).trans y
 replace z := (cell_far (p := ⟨b, 2, none⟩) (by first | (rw [add_block]; exact j) | (show (Addr.add _ _).block ≠ _; rw [add_block]; exact j) | exact j) (.bool ((rd_T57 t a).f2))).trans z
 replace A := (cell_far (p := ⟨b, 2, none⟩) (by first | (rw [add_block]; exact j) | (show (Addr.add _ _).block ≠ _; rw [add_block]; exact j) | exact j) (.bool ((rd_T57 t a).f2))).trans A
 replace B := (cell_far (p := ⟨b, 2, none⟩) (by first | (rw [add_block]; exact j) | (show (Addr.add _ _).block ≠ _; rw [add_block]; exact j) | exact j) (.bool ((rd_T57 t a).f2))).trans B
 replace c := (cell_far (p := ⟨b, 3, none⟩) (by first | (rw [add_block]; exact l) | (show (Addr.add _ _).block ≠ _; rw [add_block]; exact l) | exact l) (.bool ((rd_T57 t a).f3.f0.f0))).trans c
 replace u := (cell_far (p := ⟨b, 3, none⟩) (by first | (rw [add_block]; exact l) | (show (Addr.add _ _).block ≠ _; rw [add_block]; exact l) | exact l) (.bool ((rd_T57 t a).f3.f0.f0))).trans u
 replace v := (cell_far (p := ⟨b, 3, none⟩) (by first | (rw [add_block]; exact l) | (show (Addr.add _ _).block ≠ _; rw [add_block]; exact l) | exact l) (.bool ((rd_T57 t a).f3.f0.f0))).trans v
 replace x := (cell_far (p := ⟨b, 3, none⟩) (by first | (rw [add_block]; exact l) | (show (Addr.add _ _).block ≠ _; rw [add_block]; exact l) | exact l) (.bool ((rd_T57 t a).f3.f0.f0))).trans x
 replace y := (cell_far (p := ⟨b, 3, none⟩) (by first | (rw [add_block]; exact l) | (show (Addr.add _ _).block ≠ _; rw [add_block]; exact l) | exact l) (.bool ((rd_T57 t a).f3.f0.f0))).trans y
 replace z := (cell_far (p := ⟨b, 3, none⟩) (by first | (rw [add_block]; exact l) | (show (Addr.add _ _).block ≠ _; rw [add_block]; exact l) | exact l) (.bool ((rd_T57 t a).f3.f0.f0))).trans z
 replace A := (cell_far (p := ⟨b, 3, none⟩) (by first | (rw [add_block]; exact l) | (show (Addr.add _ _).block ≠ _; rw [add_block]; exact l) | exact l) (.bool ((rd_T57 t a).f3.f0.f0))).trans A
 replace B := (cell_far (p := ⟨b, 3, none⟩) (by first | (rw [add_block]; exact l) | (show (Addr.add _ _).block ≠ _; rw [add_block]; exact l) | exact l) (.bool ((rd_T57 t a).f3.f0.f0))).trans B
 replace c := (cell_far (p := ⟨b, 4, none⟩) (by first | (rw [add_block]; exact m) | (show (Addr.add _ _).block ≠ _; rw [add_block]; exact m) | exact m) (.int .i64 ((rd_T57 t a).f3.f0.f1))).trans c
 replace u := (cell_far (p := ⟨b, 4, none⟩) (by first | (rw [add_block]; exact m) | (show (Addr.add _ _).block ≠ _; rw [add_block]; exact m) | exact m) (.int .i64 ((rd_T57 t a).f3.f0.f1))).trans u
 replace v := (cell_far (p := ⟨b, 4, none⟩) (by first | (rw [add_block]; exact m) | (show (Addr.add _ _).block ≠ _; rw [add_block]; exact m) | exact m) (.int .i64 ((rd_T57 t a).f3.f0.f1))).trans v
 replace x := (cell_far (p := ⟨b, 4, none⟩) (by first | (rw [add_block]; exact m) | (show (Addr.add _ _).block ≠ _; rw [add_block]; exact m) | exact m) (.int .i64 ((rd_T57 t a).f3.f0.f1))).trans x
 replace y := (cell_far (p := ⟨b, 4, none⟩) (by first | (rw [add_block]; exact m) | (show (Addr.add _ _).block ≠ _; rw [add_block]; exact m) | exact m) (.int .i64 ((rd_T57 t a).f3.f0.f1))).trans y
 replace z := (cell_far (p := ⟨b, 4, none⟩) (by first | (rw [add_block]; exact m) | (show (Addr.add _ _).block ≠ _; rw [add_block]; exact m) | exact m) (.int .i64 ((rd_T57 t a).f3.f0.f1))).trans z
 replace A := (cell_far (p := ⟨b, 4, none⟩) (by first | (rw [add_block]; exact m) | (show (Addr.add _ _).block ≠ _; rw [add_block]; exact m) | exact m) (.int .i64 ((rd_T57 t a).f3.f0.f1))).trans A
 replace B := (cell_far (p := ⟨b, 4, none⟩) (by first | (rw [add_block]; exact m) | (show (Addr.add _ _).block ≠ _; rw [add_block]; exact m) | exact m) (.int .i64 ((rd_T57 t a).f3.f0.f1))).trans B
 replace c := (cell_far (p := ⟨b, 5, none⟩) (by first | (rw [add_block]; exact n) | (show (Addr.add _ _).block ≠ _; rw [add_block]; exact n) | exact n) (.slice D ((rd_T57 t a).f3.f0.f2).length F)).trans c
 replace u := (cell_far (p := ⟨b, 5, none⟩) (by first | (rw [add_block]; exact n) | (show (Addr.add _ _).block ≠ _; rw [add_block]; exact n) | exact n) (.slice D ((rd_T57 t a).f3.f0.f2).length F)).trans u
 replace v := (cell_far (p := ⟨b, 5, none⟩) (by first | (rw [add_block]; exact n) | (show (Addr.add _ _).block ≠ _; rw [add_block]; exact n) | exact n) (.slice D ((rd_T57 t a).f3.f0.f2).length F)).trans v
 replace x := (cell_far (p := ⟨b, 5, none⟩) (by first | (rw [add_block]; exact n) | (show (Addr.add _ _).block ≠ _; rw [add_block]; exact n) | exact n) (.slice D ((rd_T57 t a).f3.f0.f2).length F)).trans x
 replace y := (cell_far (p := ⟨b, 5, none⟩) (by first | (rw [add_block]; exact n) | (show (Addr.add _ _).block ≠ _; rw [add_block]; exact n) | exact n) (.slice D ((rd_T57 t a).f3.f0.f2).length F)).trans y
 replace z := (cell_far (p := ⟨b, 5, none⟩) (by first | (rw [add_block]; exact n) | (show (Addr.add _ _).block ≠ _; rw [add_block]; exact n) | exact n) (.slice D ((rd_T57 t a).f3.f0.f2).length F)).trans z
 replace A := (cell_far (p := ⟨b, 5, none⟩) (by first | (rw [add_block]; exact n) | (show (Addr.add _ _).block ≠ _; rw [add_block]; exact n) | exact n) (.slice D ((rd_T57 t a).f3.f0.f2).length F)).trans A
 replace B := (cell_far (p := ⟨b, 5, none⟩) (by first | (rw [add_block]; exact n) | (show (Addr.add _ _).block ≠ _; rw [add_block]; exact n) | exact n) (.slice D ((rd_T57 t a).f3.f0.f2).length F)).trans B
 replace c := (cell_far (p := ⟨b, 6, none⟩) (by first | (rw [add_block]; exact q) | (show (Addr.add _ _).block ≠ _; rw [add_block]; exact q) | exact q) (.int .i64 ((rd_T57 t a).f3.f1))).trans c
 replace u := (cell_far (p := ⟨b, 6, none⟩) (by first | (rw [add_block]; exact q) | (show (Addr.add _ _).block ≠ _; rw [add_block]; exact q) | exact q) (.int .i64 ((rd_T57 t a).f3.f1))).trans u
 replace v := (cell_far (p := ⟨b, 6, none⟩) (by first | (rw [add_block]; exact q) | (show (Addr.add _ _).block ≠ _; rw [add_block]; exact q) | exact q) (.int .i64 ((rd_T57 t a).f3.f1))).trans v
 replace x := (cell_far (p := ⟨b, 6, none⟩) (by first | (rw [add_block]; exact q) | (show (Addr.add _ _).block ≠ _; rw [add_block]; exact q) | exact q) (.int .i64 ((rd_T57 t a).f3.f1))).trans x
 replace y := (cell_far (p := ⟨b, 6, none⟩) (by first | (rw [add_block]; exact q) | (show (Addr.add _ _).block ≠ _; rw [add_block]; exact q) | exact q) (.int .i64 ((rd_T57 t a).f3.f1))).trans y
 replace z := (cell_far (p := ⟨b, 6, none⟩) (by first | (rw [add_block]; exact q) | (show (Addr.add _ _).block ≠ _; rw [add_block]; exact q) | exact q) (.int .i64 ((rd_T57 t a).f3.f1))).trans z
 replace A := (cell_far (p := ⟨b, 6, none⟩) (by first | (rw [add_block]; exact q) | (show (Addr.add _ _).block ≠ _; rw [add_block]; exact q) | exact q) (.int .i64 ((rd_T57 t a).f3.f1))).trans A
 replace B := (cell_far (p := ⟨b, 6, none⟩) (by first | (rw [add_block]; exact q) | (show (Addr.add _ _).block ≠ _; rw [add_block]; exact q) | exact q) (.int .i64 ((rd_T57 t a).f3.f1))).trans B
 replace c := (cell_far (p := ⟨b, 7, none⟩) (by first | (rw [add_block]; exact s) | (show (Addr.add _ _).block ≠ _; rw [add_block]; exact s) | exact s) (.slice E ((rd_T57 t a).f3.f2).length G)).trans c
 replace u := (cell_far (p := ⟨b, 7, none⟩) (by first | (rw [add_block]; exact s) | (show (Addr.add _ _).block ≠ _; rw [add_block]; exact s) | exact s) (.slice E ((rd_T57 t a).f3.f2).length G)).trans u
 replace v := (cell_far (p := ⟨b, 7, none⟩) (by first | (rw [add_block]; exact s) | (show (Addr.add _ _).block ≠ _; rw [add_block]; exact s) | exact s) (.slice E ((rd_T57 t a).f3.f2).length G)).trans v
 replace x := (cell_far (p := ⟨b, 7, none⟩) (by first | (rw [add_block]; exact s) | (show (Addr.add _ _).block ≠ _; rw [add_block]; exact s) | exact s) (.slice E ((rd_T57 t a).f3.f2).length G)).trans x
 replace y := (cell_far (p := ⟨b, 7, none⟩) (by first | (rw [add_block]; exact s) | (show (Addr.add _ _).block ≠ _; rw [add_block]; exact s) | exact s) (.slice E ((rd_T57 t a).f3.f2).length G)).trans y
 replace z := (cell_far (p := ⟨b, 7, none⟩) (by first | (rw [add_block]; exact s) | (show (Addr.add _ _).block ≠ _; rw [add_block]; exact s) | exact s) (.slice E ((rd_T57 t a).f3.f2).length G)).trans z
 replace A := (cell_far (p := ⟨b, 7, none⟩) (by first | (rw [add_block]; exact s) | (show (Addr.add _ _).block ≠ _; rw [add_block]; exact s) | exact s) (.slice E ((rd_T57 t a).f3.f2).length G)).trans A
 replace B := (cell_far (p := ⟨b, 7, none⟩) (by first | (rw [add_block]; exact s) | (show (Addr.add _ _).block ≠ _; rw [add_block]; exact s) | exact s) (.slice E ((rd_T57 t a).f3.f2).length G)).trans B
 clear d
 clear i
 clear j
 clear l
 clear m
 clear n
 clear q
 clear s
 replace al := eq_true al
 replace an := eq_true an
 go_upto_region 7 with (first | ((with_reducible refine gate_dst (N := 9) rfl ?_); refine bx_ 9 #[.int .i64 0, .int .i64 0, .bool false, .bool false, .int .i64 0, .slice none 0 0, .int .i64 0, .slice none 0 0] 57 ?_; intro aj hg a6 hbox hb; have _ := Q_ (blk_below (g := b) (o := .cells #[.int .i64 ((rd_T57 t a).f0), .int .i64 ((rd_T57 t a).f1), .bool ((rd_T57 t a).f2), .bool ((rd_T57 t a).f3.f0.f0), .int .i64 ((rd_T57 t a).f3.f0.f1), .slice D ((rd_T57 t a).f3.f0.f2).length F, .int .i64 ((rd_T57 t a).f3.f1), .slice E ((rd_T57 t a).f3.f2).length G] 57 (0, 0)) (pp_ I.1) hb); have _ := Q_ (below_step (pb1_ HB.1 J.1) hb); have Q := Q_ (hbox); have ax := Q_ (gw_ (w := w) hg (pb1_ HB.1 J.1)); have O := ax; have P := Q_ ((by rw [hg]; exact Nat.ne_of_lt (blk_lt (g := b) (o := .cells #[.int .i64 ((rd_T57 t a).f0), .int .i64 ((rd_T57 t a).f1), .bool ((rd_T57 t a).f2), .bool ((rd_T57 t a).f3.f0.f0), .int .i64 ((rd_T57 t a).f3.f0.f1), .slice D ((rd_T57 t a).f3.f0.f2).length F, .int .i64 ((rd_T57 t a).f3.f1), .slice E ((rd_T57 t a).f3.f2).length G] 57 (0, 0)) (pp_ I.1)) : b ≠ aj)); have R := Q_ P.1.symm; clear I HB; rename_i I HB; clear hb hbox hg; have aS := R.1; have aU := P.1; have aP := bc8_ Q.1))
 (try simp only [Act.put, s1_, s2_, s3_])
 have H := HS_.1
 clear HS_
 obtain ⟨aw, aL, H⟩ := bs_ H
 (try dsimp only at H)
 have HS_ := Q_ H
 clear H
 have aT := P.1
 have aV := R.1
 have aQ := bc8_ I.1
 have aR := bc8_ Q.1
 go_upto_if 30 with (first | (go_at_call 33; (with_reducible refine (impl_equalLogged.calls k1 ((rd_T57 t a).f0) ((rd_T57 t a).f1) ((rd_T57 t a).f2) ((rd_T57 t a).f3.f0.f0) ((rd_T57 t a).f3.f0.f1) _ _ ((rd_T57 t a).f3.f0.f2) ((rd_T57 t a).f3.f1) _ _ ((rd_T57 t a).f3.f2) ((rd_T57 M a).f0) ((rd_T57 M a).f1) ((rd_T57 M a).f2) ((rd_T57 M a).f3.f0.f0) ((rd_T57 M a).f3.f0.f1) _ _ ((rd_T57 M a).f3.f0.f2) ((rd_T57 M a).f3.f1) _ _ ((rd_T57 M a).f3.f2) aw _ ?side1 aa.1 ?side3 ab.1 ?side5 ac.1 ?side7 ad.1 aL.1).mono ?_); (case side1 => exact Kd.C_below ae.1 (pb2_ HB.1 J.1 O.1)); (case side3 => exact Kd.C_below af.1 (pb2_ HB.1 J.1 O.1)); (case side5 => exact Kd.C_below ag.1 (pb2_ HB.1 J.1 O.1)); (case side7 => exact Kd.C_below ah.1 (pb2_ HB.1 J.1 O.1)); rintro e a7 ⟨rfl, hb⟩; have _ := Q_ (blk_below (g := b) (o := .cells #[.int .i64 ((rd_T57 t a).f0), .int .i64 ((rd_T57 t a).f1), .bool ((rd_T57 t a).f2), .bool ((rd_T57 t a).f3.f0.f0), .int .i64 ((rd_T57 t a).f3.f0.f1), .slice D ((rd_T57 t a).f3.f0.f2).length F, .int .i64 ((rd_T57 t a).f3.f1), .slice E ((rd_T57 t a).f3.f2).length G] 57 (0, 0)) (pp_ I.1) hb); have _ := Q_ (blk_below (g := aj) (o := .cells #[.int .i64 ((rd_T57 M a).f0), .int .i64 ((rd_T57 M a).f1), .bool ((rd_T57 M a).f2), .bool ((rd_T57 M a).f3.f0.f0), .int .i64 ((rd_T57 M a).f3.f0.f1), .slice ao ((rd_T57 M a).f3.f0.f2).length ar, .int .i64 ((rd_T57 M a).f3.f1), .slice ap ((rd_T57 M a).f3.f2).length au] 57 (0, 0)) (pp_ Q.1) hb); have _ := Q_ (below_step (pb2_ HB.1 J.1 O.1) hb); clear I Q HB; rename_i I Q HB; (try clear hb)))
 (try simp only [Act.put, s1_, s2_, s3_])
 have H := HS_.1
 clear HS_
 by_cases aq : aw = true
 rotate_left
 ·replace aq := bf_ aq
  subst aq
  rw [if_neg ff_] at H
  obtain rfl := Option.some.inj H
  (try simp only [Bool.not_false, Bool.not_true])
  go_wp2
  go_ret
  exact ⟨er_, pb2_ HB.1 J.1 O.1⟩
 subst aq
 rw [if_pos rfl] at H
 have H' := Q_ H
 clear H
 (try simp only [Bool.not_false, Bool.not_true])
 go_wp2
 go_roundg k1
 case measure => have := az.1; omega
 case rel => exact ⟨(wrap64 (a + 1)), el_, H', ⟨by have := az.1; omega⟩, ⟨pb2_ HB.1 J.1 O.1⟩⟩

/-! ### impl_EqualWorlds: function 8 -/
def impl_EqualWorlds.f (k : Nat) (y : List Int) (z : List Int) (m : Int) (A : List (S50)) (n : Int) (B : List Int) (o : Int) (p : Bool) (q : Int) (r : Int) (h : List (S55)) (i : List (S57)) (a : Int) (b : Int) (c : Int) (C : List Int) (D : List Int) (s : Int) (E : List (S50)) (t : Int) (F : List Int) (u : Int) (v : Bool) (w : Int) (x : Int) (j : List (S55)) (l : List (S57)) (d : Int) (e : Int) (g : Int) : Option (Bool) := (slices_Equal_int_int.f k y C).bind fun G => (if G = true then ((slices_Equal_int_int.f k z D).bind fun H => (if H = true then (if m = s then ((slices_EqualFunc_impl_Endpoint_impl_Endpoint_impl_Endpoint_impl_Endpoint_with_impl_EqualEndpoints.f k A E).bind fun I => (if I = true then ((impl_EqualRollouts.f k n B o p t F u v).bind fun J => (if J = true then (if q = w then (if r = x then ((slices_EqualFunc_impl_Dialed_impl_Dialed_impl_Dialed_impl_Dialed_with_impl_EqualDialed.f k h j).bind fun K => (if K = true then ((slices_EqualFunc_impl_Logged_impl_Logged_impl_Logged_impl_Logged_with_impl_equalLogged.f k i l).bind fun L => (if L = true then (if a = d then (if b = e then (some (c == g)) else (some false)) else (some false)) else (some false))) else (some false))) else (some false)) else (some false)) else (some false))) else (some false))) else (some false)) else (some false))) else (some false))
theorem impl_EqualWorlds.mono : ∀ w x y z A B C D E F a b c d e g h i j l m n o p q r s t u v k, LeO (impl_EqualWorlds.f k w x y z A B C D E F a b c d e g h i j l m n o p q r s t u v) (impl_EqualWorlds.f (k + 1) w x y z A B C D E F a b c d e g h i j l m n o p q r s t u v) := by
 intro w x y z A B C D E F a b c d e g h i j l m n o p q r s t u v k
 unfold impl_EqualWorlds.f
 exact mo5_ impl_EqualRollouts.mono slices_EqualFunc_impl_Dialed_impl_Dialed_impl_Dialed_impl_Dialed_with_impl_EqualDialed.mono slices_EqualFunc_impl_Endpoint_impl_Endpoint_impl_Endpoint_impl_Endpoint_with_impl_EqualEndpoints.mono slices_EqualFunc_impl_Logged_impl_Logged_impl_Logged_impl_Logged_with_impl_equalLogged.mono slices_Equal_int_int.mono
theorem impl_EqualWorlds.calls (k : Nat) (y : Option Addr) (F : Nat) (j : List Int) (aU : Option Addr) (a1 : Nat) (m : List Int) (aj : Int) (aV : Option Addr) (a2 : Nat) (v : List (S50)) (V : Int) (aW : Option Addr) (a3 : Nat) (J : List Int) (W : Int) (X : Bool) (ak : Int) (al : Int) (aC : Option Addr) (aG : Nat) (t : List (S55)) (aD : Option Addr) (aH : Nat) (I : List (S57)) (R : Int) (S : Int) (az : Int) (z : Option Addr) (G : Nat) (l : List Int) (aX : Option Addr) (a4 : Nat) (n : List Int) (am : Int) (aY : Option Addr) (a5 : Nat) (x : List (S50)) (Y : Int) (aZ : Option Addr) (a6 : Nat) (L : List Int) (Z : Int) (aa : Bool) (an : Int) (ao : Int) (aE : Option Addr) (aJ : Nat) (u : List (S55)) (aF : Option Addr) (aK : Nat) (K : List (S57)) (T : Int) (U : Int) (aA : Int) (r : Bool) (w : World) (hr0_0 : Kd.C (Kd.int .i64) w y j.length j) (a7 : j.length ≤ F) (hr0_1 : Kd.C (Kd.int .i64) w aU m.length m) (a8 : m.length ≤ a1) (hr0_3 : Kd.C k50 w aV v.length v) (a9 : v.length ≤ a2) (hr0_5 : Kd.C (Kd.int .i64) w aW J.length J) (ba : J.length ≤ a3) (hr0_10 : Kd.C k55 w aC t.length t) (aP : t.length ≤ aG) (hr0_11 : Kd.C k57 w aD I.length I) (aQ : I.length ≤ aH) (hr1_0 : Kd.C (Kd.int .i64) w z l.length l) (bb : l.length ≤ G) (hr1_1 : Kd.C (Kd.int .i64) w aX n.length n) (bc : n.length ≤ a4) (hr1_3 : Kd.C k50 w aY x.length x) (bd : x.length ≤ a5) (hr1_5 : Kd.C (Kd.int .i64) w aZ L.length L) (be : L.length ≤ a6) (hr1_10 : Kd.C k55 w aE u.length u) (aR : u.length ≤ aJ) (hr1_11 : Kd.C k57 w aF K.length K) (aS : K.length ≤ aK) (h : impl_EqualWorlds.f k j m aj v V J W X ak al t I R S az l n am x Y L Z aa an ao u K T U aA = some r) :
  Calls Try.prog 8 #[.agg #[.slice y j.length F, .slice aU m.length a1, .int .i64 aj, .slice aV v.length a2, .int .i64 V, .slice aW J.length a3, .int .i64 W, .bool X, .int .i64 ak, .int .i64 al, .slice aC t.length aG, .slice aD I.length aH, .int .i64 R, .int .i64 S, .int .i64 az], .agg #[.slice z l.length G, .slice aX n.length a4, .int .i64 am, .slice aY x.length a5, .int .i64 Y, .slice aZ L.length a6, .int .i64 Z, .bool aa, .int .i64 an, .int .i64 ao, .slice aE u.length aJ, .slice aF K.length aK, .int .i64 T, .int .i64 U, .int .i64 aA]] w fun e w' => e = .returned (.bool r) ∧ Below w.heap.size w w' := by
 have hu37 := Try.underlying37
 have hu33 := Try.underlying33
 have q := Q_ hr0_0
 have o := Q_ a7
 clear hr0_0 a7
 have D := Q_ hr0_1
 have A := Q_ a8
 clear hr0_1 a8
 have P := Q_ hr0_3
 have M := Q_ a9
 clear hr0_3 a9
 have ad := Q_ hr0_5
 have ab := Q_ ba
 clear hr0_5 ba
 have ah := Q_ hr0_10
 have af := Q_ aP
 clear hr0_10 aP
 have ar := Q_ hr0_11
 have ap := Q_ aQ
 clear hr0_11 aQ
 have s := Q_ hr1_0
 have p := Q_ bb
 clear hr1_0 bb
 have E := Q_ hr1_1
 have B := Q_ bc
 clear hr1_1 bc
 have Q := Q_ hr1_3
 have O := Q_ bd
 clear hr1_3 bd
 have ae := Q_ hr1_5
 have ac := Q_ be
 clear hr1_5 be
 have ai := Q_ hr1_10
 have ag := Q_ aR
 clear hr1_10 aR
 have au := Q_ hr1_11
 have aq := Q_ aS
 clear hr1_11 aS
 have HB := Q_ (Below.refl w.heap.size w)
 have H : ((slices_Equal_int_int.f k j l).bind fun bf => (if bf = true then ((slices_Equal_int_int.f k m n).bind fun bg => (if bg = true then (if aj = am then ((slices_EqualFunc_impl_Endpoint_impl_Endpoint_impl_Endpoint_impl_Endpoint_with_impl_EqualEndpoints.f k v x).bind fun bh => (if bh = true then ((impl_EqualRollouts.f k V J W X Y L Z aa).bind fun bi => (if bi = true then (if ak = an then (if al = ao then ((slices_EqualFunc_impl_Dialed_impl_Dialed_impl_Dialed_impl_Dialed_with_impl_EqualDialed.f k t u).bind fun bj => (if bj = true then ((slices_EqualFunc_impl_Logged_impl_Logged_impl_Logged_impl_Logged_with_impl_equalLogged.f k I K).bind fun bk => (if bk = true then (if R = T then (if S = U then (some (az == aA)) else (some false)) else (some false)) else (some false))) else (some false))) else (some false)) else (some false)) else (some false))) else (some false))) else (some false)) else (some false))) else (some false))) = some r := h
 clear h
 have HS_ := Q_ H
 clear H
 go_enter Try.func8, Try.ntmps8
 try dsimp only [List.append]
 go_upto_region 1 with (first | ((with_reducible refine gate_dst (N := 2) rfl ?_); refine bx_ 2 #[.slice y j.length F, .slice aU m.length a1, .int .i64 aj, .slice aV v.length a2, .int .i64 V, .slice aW J.length a3, .int .i64 W, .bool X, .int .i64 ak, .int .i64 al, .slice aC t.length aG, .slice aD I.length aH, .int .i64 R, .int .i64 S, .int .i64 az] 37 ?_; intro bY hg w3 hbox hb; have _ := Q_ (below_step (pb_ HB.1) hb); have a := Q_ (hbox); have br := Q_ (gw_ (w := w) hg (pb_ HB.1)); have c := br; clear HB; rename_i HB; clear hb hbox hg) | ((with_reducible refine gate_dst (N := 3) rfl ?_); refine bx_ 3 #[.slice z l.length G, .slice aX n.length a4, .int .i64 am, .slice aY x.length a5, .int .i64 Y, .slice aZ L.length a6, .int .i64 Z, .bool aa, .int .i64 an, .int .i64 ao, .slice aE u.length aJ, .slice aF K.length aK, .int .i64 T, .int .i64 U, .int .i64 aA] 37 ?_; intro bZ hg w4 hbox hb; have _ := Q_ (bb_ a.1 hb); have _ := Q_ (below_step (pb1_ HB.1 c.1) hb); have b := Q_ (hbox); have bs := Q_ (gw_ (w := w) hg (pb1_ HB.1 c.1)); have d := bs; have g := Q_ (nb_ hg a); have i := Q_ g.1.symm; clear a HB; rename_i a HB; clear hb hbox hg))
 (try simp only [Act.put, s1_, s2_, s3_])
 have H := HS_.1
 clear HS_
 obtain ⟨bf, A5, H⟩ := bs_ H
 (try dsimp only at H)
 by_cases c6 : bf = true
 rotate_left
 ·replace c6 := bf_ c6
  subst c6
  rw [if_neg ff_] at H
  obtain rfl := Option.some.inj H
  have c8 := g.1
  have c9 := i.1
  have c5 := bc15_ a.1
  have c7 := bc15_ b.1
  go_wp2_with (first | ((with_reducible refine gate_callee (f := 26) rfl ?_); refine gl_ (some 9) Try.func26 #[.slice y j.length F, .slice z l.length G] ?_; (with_reducible refine (slices_Equal_int_int.calls k _ _ j _ _ l false _ (cb_ q HB) o.1 (cb_ s HB) p.1 A5.1).mono ?_); rintro e w' ⟨rfl, ⟨nd, rfl⟩⟩; refine ⟨_, rfl, ?_⟩))
  go_ret
  exact ⟨er_, pb2_ HB.1 c.1 d.1⟩
 subst c6
 rw [if_pos rfl] at H
 obtain ⟨bg, av, H⟩ := bs_ H
 (try dsimp only at H)
 by_cases bm : bg = true
 rotate_left
 ·replace bm := bf_ bm
  subst bm
  rw [if_neg ff_] at H
  obtain rfl := Option.some.inj H
  have cL := g.1
  have cV := i.1
  have b0 := bc15_ a.1
  have b1 := bc15_ b.1
  go_wp2_with (first | ((with_reducible refine gate_callee (f := 26) rfl ?_); refine gl_ (some 9) Try.func26 #[.slice y j.length F, .slice z l.length G] ?_; (with_reducible refine (slices_Equal_int_int.calls k _ _ j _ _ l true _ (cb_ q HB) o.1 (cb_ s HB) p.1 A5.1).mono ?_); rintro e w' ⟨rfl, ⟨nd, rfl⟩⟩; refine ⟨_, rfl, ?_⟩) | (go_at_call 26; (with_reducible refine (slices_Equal_int_int.calls k _ _ m _ _ n false _ ?side1 A.1 ?side3 B.1 av.1).mono ?_); (case side1 => exact pc_ (Kd.C_below D.1 (pb2_ HB.1 c.1 d.1))); (case side3 => exact pc_ (Kd.C_below E.1 (pb2_ HB.1 c.1 d.1))); rintro e w' ⟨rfl, ⟨nd, rfl⟩⟩))
  go_ret
  exact ⟨er_, pb2_ HB.1 c.1 d.1⟩
 subst bm
 rw [if_pos rfl] at H
 by_cases aI : aj = am
 rotate_left
 ·rw [if_neg aI] at H
  have aw : (aj == am) = false := beq_eq_false_iff_ne.mpr aI
  have ax : (aj != am) = true := bne_iff_ne.mpr aI
  (first | rw [aw] | (simp only [i64_w, i32_w]; rw [aw]) | rw [ax] | (have c_ := ax; rw [bne] at c_; rw [c_]; clear c_) | skip)
  obtain rfl := Option.some.inj H
  have cM := g.1
  have cW := i.1
  have b2 := bc15_ a.1
  have b3 := bc15_ b.1
  go_wp2_with (first | ((with_reducible refine gate_callee (f := 26) rfl ?_); refine gl_ (some 9) Try.func26 #[.slice y j.length F, .slice z l.length G] ?_; (with_reducible refine (slices_Equal_int_int.calls k _ _ j _ _ l true _ (cb_ q HB) o.1 (cb_ s HB) p.1 A5.1).mono ?_); rintro e w' ⟨rfl, ⟨nd, rfl⟩⟩; refine ⟨_, rfl, ?_⟩) | (go_at_call 26; (with_reducible refine (slices_Equal_int_int.calls k _ _ m _ _ n true _ ?side1 A.1 ?side3 B.1 av.1).mono ?_); (case side1 => exact pc_ (Kd.C_below D.1 (pb2_ HB.1 c.1 d.1))); (case side3 => exact pc_ (Kd.C_below E.1 (pb2_ HB.1 c.1 d.1))); rintro e w' ⟨rfl, ⟨nd, rfl⟩⟩))
  go_ret
  exact ⟨er_, pb2_ HB.1 c.1 d.1⟩
 rw [if_pos aI] at H
 have aw : (aj == am) = true := beq_iff_eq.mpr aI
 have ax : (aj != am) = false := bne_eq_false_iff_eq.mpr aI
 clear aI
 (first | rw [aw] | (simp only [i64_w, i32_w]; rw [aw]) | rw [ax] | (have c_ := ax; rw [bne] at c_; rw [c_]; clear c_) | skip)
 obtain ⟨bh, ay, H⟩ := bs_ H
 (try dsimp only at H)
 by_cases bn : bh = true
 rotate_left
 ·replace bn := bf_ bn
  subst bn
  rw [if_neg ff_] at H
  obtain rfl := Option.some.inj H
  have cN := g.1
  have cX := i.1
  have b4 := bc15_ a.1
  have b5 := bc15_ b.1
  go_wp2_with (first | ((with_reducible refine gate_callee (f := 26) rfl ?_); refine gl_ (some 9) Try.func26 #[.slice y j.length F, .slice z l.length G] ?_; (with_reducible refine (slices_Equal_int_int.calls k _ _ j _ _ l true _ (cb_ q HB) o.1 (cb_ s HB) p.1 A5.1).mono ?_); rintro e w' ⟨rfl, ⟨nd, rfl⟩⟩; refine ⟨_, rfl, ?_⟩) | (go_at_call 26; (with_reducible refine (slices_Equal_int_int.calls k _ _ m _ _ n true _ ?side1 A.1 ?side3 B.1 av.1).mono ?_); (case side1 => exact pc_ (Kd.C_below D.1 (pb2_ HB.1 c.1 d.1))); (case side3 => exact pc_ (Kd.C_below E.1 (pb2_ HB.1 c.1 d.1))); rintro e w' ⟨rfl, ⟨nd, rfl⟩⟩) | (go_at_call 27; (with_reducible refine (slices_EqualFunc_impl_Endpoint_impl_Endpoint_impl_Endpoint_impl_Endpoint_with_impl_EqualEndpoints.calls k _ _ v _ _ x false _ ?side1 M.1 ?side3 O.1 ay.1).mono ?_); (case side1 => exact pc_ (Kd.C_below P.1 (pb2_ HB.1 c.1 d.1))); (case side3 => exact pc_ (Kd.C_below Q.1 (pb2_ HB.1 c.1 d.1))); rintro e di ⟨rfl, hb⟩; have _ := Q_ (bb_ a.1 hb); have _ := Q_ (bb_ b.1 hb); have _ := Q_ (below_step (pb2_ HB.1 c.1 d.1) hb); clear a b HB; rename_i a b HB; (try clear hb)))
  go_ret
  exact ⟨er_, pb2_ HB.1 c.1 d.1⟩
 subst bn
 rw [if_pos rfl] at H
 obtain ⟨bi, aB, H⟩ := bs_ H
 (try dsimp only at H)
 by_cases bo : bi = true
 rotate_left
 ·replace bo := bf_ bo
  subst bo
  rw [if_neg ff_] at H
  obtain rfl := Option.some.inj H
  have cO := g.1
  have cY := i.1
  have b6 := bc15_ a.1
  have b7 := bc15_ b.1
  go_wp2_with (first | ((with_reducible refine gate_callee (f := 26) rfl ?_); refine gl_ (some 9) Try.func26 #[.slice y j.length F, .slice z l.length G] ?_; (with_reducible refine (slices_Equal_int_int.calls k _ _ j _ _ l true _ (cb_ q HB) o.1 (cb_ s HB) p.1 A5.1).mono ?_); rintro e w' ⟨rfl, ⟨nd, rfl⟩⟩; refine ⟨_, rfl, ?_⟩) | (go_at_call 26; (with_reducible refine (slices_Equal_int_int.calls k _ _ m _ _ n true _ ?side1 A.1 ?side3 B.1 av.1).mono ?_); (case side1 => exact pc_ (Kd.C_below D.1 (pb2_ HB.1 c.1 d.1))); (case side3 => exact pc_ (Kd.C_below E.1 (pb2_ HB.1 c.1 d.1))); rintro e w' ⟨rfl, ⟨nd, rfl⟩⟩) | (go_at_call 27; (with_reducible refine (slices_EqualFunc_impl_Endpoint_impl_Endpoint_impl_Endpoint_impl_Endpoint_with_impl_EqualEndpoints.calls k _ _ v _ _ x true _ ?side1 M.1 ?side3 O.1 ay.1).mono ?_); (case side1 => exact pc_ (Kd.C_below P.1 (pb2_ HB.1 c.1 d.1))); (case side3 => exact pc_ (Kd.C_below Q.1 (pb2_ HB.1 c.1 d.1))); rintro e dj ⟨rfl, hb⟩; have _ := Q_ (bb_ a.1 hb); have _ := Q_ (bb_ b.1 hb); have _ := Q_ (below_step (pb2_ HB.1 c.1 d.1) hb); clear a b HB; rename_i a b HB; (try clear hb); have b8 := bc15_ a.1; have b9 := bc15_ b.1) | (go_at_call 29; (with_reducible refine (impl_EqualRollouts.calls k V _ _ J W X Y _ _ L Z aa false _ (cb_ ad HB) ab.1 (cb_ ae HB) ac.1 aB.1).mono ?_); rintro e dk ⟨rfl, hb⟩; have _ := Q_ (bb_ a.1 hb); have _ := Q_ (bb_ b.1 hb); have _ := Q_ (below_step (pb2_ HB.1 c.1 d.1) hb); clear a b HB; rename_i a b HB; (try clear hb)))
  go_ret
  exact ⟨er_, pb2_ HB.1 c.1 d.1⟩
 subst bo
 rw [if_pos rfl] at H
 by_cases aL : ak = an
 rotate_left
 ·rw [if_neg aL] at H
  have bt : (ak == an) = false := beq_eq_false_iff_ne.mpr aL
  have bu : (ak != an) = true := bne_iff_ne.mpr aL
  obtain rfl := Option.some.inj H
  have cP := g.1
  have cZ := i.1
  have ca := bc15_ a.1
  have cb := bc15_ b.1
  go_wp2_with (first | ((with_reducible refine gate_callee (f := 26) rfl ?_); refine gl_ (some 9) Try.func26 #[.slice y j.length F, .slice z l.length G] ?_; (with_reducible refine (slices_Equal_int_int.calls k _ _ j _ _ l true _ (cb_ q HB) o.1 (cb_ s HB) p.1 A5.1).mono ?_); rintro e w' ⟨rfl, ⟨nd, rfl⟩⟩; refine ⟨_, rfl, ?_⟩) | (go_at_call 26; (with_reducible refine (slices_Equal_int_int.calls k _ _ m _ _ n true _ ?side1 A.1 ?side3 B.1 av.1).mono ?_); (case side1 => exact pc_ (Kd.C_below D.1 (pb2_ HB.1 c.1 d.1))); (case side3 => exact pc_ (Kd.C_below E.1 (pb2_ HB.1 c.1 d.1))); rintro e w' ⟨rfl, ⟨nd, rfl⟩⟩) | (go_at_call 27; (with_reducible refine (slices_EqualFunc_impl_Endpoint_impl_Endpoint_impl_Endpoint_impl_Endpoint_with_impl_EqualEndpoints.calls k _ _ v _ _ x true _ ?side1 M.1 ?side3 O.1 ay.1).mono ?_); (case side1 => exact pc_ (Kd.C_below P.1 (pb2_ HB.1 c.1 d.1))); (case side3 => exact pc_ (Kd.C_below Q.1 (pb2_ HB.1 c.1 d.1))); rintro e dl ⟨rfl, hb⟩; have _ := Q_ (bb_ a.1 hb); have _ := Q_ (bb_ b.1 hb); have _ := Q_ (below_step (pb2_ HB.1 c.1 d.1) hb); clear a b HB; rename_i a b HB; (try clear hb); have cc := bc15_ a.1; have cd := bc15_ b.1) | (go_at_call 29; (with_reducible refine (impl_EqualRollouts.calls k V _ _ J W X Y _ _ L Z aa true _ (cb_ ad HB) ab.1 (cb_ ae HB) ac.1 aB.1).mono ?_); rintro e dm ⟨rfl, hb⟩; have _ := Q_ (bb_ a.1 hb); have _ := Q_ (bb_ b.1 hb); have _ := Q_ (below_step (pb2_ HB.1 c.1 d.1) hb); clear a b HB; rename_i a b HB; (try clear hb); have ce := bc15_ a.1; have cf := bc15_ b.1))
  go_ret
  exact ⟨er_, pb2_ HB.1 c.1 d.1⟩
 rw [if_pos aL] at H
 have bt : (ak == an) = true := beq_iff_eq.mpr aL
 have bu : (ak != an) = false := bne_eq_false_iff_eq.mpr aL
 clear aL
 by_cases aM : al = ao
 rotate_left
 ·rw [if_neg aM] at H
  have bv : (al == ao) = false := beq_eq_false_iff_ne.mpr aM
  have bw : (al != ao) = true := bne_iff_ne.mpr aM
  obtain rfl := Option.some.inj H
  have cQ := g.1
  have c0 := i.1
  have cg := bc15_ a.1
  have ch := bc15_ b.1
  go_wp2_with (first | ((with_reducible refine gate_callee (f := 26) rfl ?_); refine gl_ (some 9) Try.func26 #[.slice y j.length F, .slice z l.length G] ?_; (with_reducible refine (slices_Equal_int_int.calls k _ _ j _ _ l true _ (cb_ q HB) o.1 (cb_ s HB) p.1 A5.1).mono ?_); rintro e w' ⟨rfl, ⟨nd, rfl⟩⟩; refine ⟨_, rfl, ?_⟩) | (go_at_call 26; (with_reducible refine (slices_Equal_int_int.calls k _ _ m _ _ n true _ ?side1 A.1 ?side3 B.1 av.1).mono ?_); (case side1 => exact pc_ (Kd.C_below D.1 (pb2_ HB.1 c.1 d.1))); (case side3 => exact pc_ (Kd.C_below E.1 (pb2_ HB.1 c.1 d.1))); rintro e w' ⟨rfl, ⟨nd, rfl⟩⟩) | (go_at_call 27; (with_reducible refine (slices_EqualFunc_impl_Endpoint_impl_Endpoint_impl_Endpoint_impl_Endpoint_with_impl_EqualEndpoints.calls k _ _ v _ _ x true _ ?side1 M.1 ?side3 O.1 ay.1).mono ?_); (case side1 => exact pc_ (Kd.C_below P.1 (pb2_ HB.1 c.1 d.1))); (case side3 => exact pc_ (Kd.C_below Q.1 (pb2_ HB.1 c.1 d.1))); rintro e dn ⟨rfl, hb⟩; have _ := Q_ (bb_ a.1 hb); have _ := Q_ (bb_ b.1 hb); have _ := Q_ (below_step (pb2_ HB.1 c.1 d.1) hb); clear a b HB; rename_i a b HB; (try clear hb); have ci := bc15_ a.1; have cj := bc15_ b.1) | (go_at_call 29; (with_reducible refine (impl_EqualRollouts.calls k V _ _ J W X Y _ _ L Z aa true _ (cb_ ad HB) ab.1 (cb_ ae HB) ac.1 aB.1).mono ?_); rintro e dp ⟨rfl, hb⟩; have _ := Q_ (bb_ a.1 hb); have _ := Q_ (bb_ b.1 hb); have _ := Q_ (below_step (pb2_ HB.1 c.1 d.1) hb); clear a b HB; rename_i a b HB; (try clear hb); have ck := bc15_ a.1; have cl := bc15_ b.1))
  go_ret
  exact ⟨er_, pb2_ HB.1 c.1 d.1⟩
 rw [if_pos aM] at H
 have bv : (al == ao) = true := beq_iff_eq.mpr aM
 have bw : (al != ao) = false := bne_eq_false_iff_eq.mpr aM
 clear aM
 obtain ⟨bj, a0, H⟩ := bs_ H
 (try dsimp only at H)
 by_cases bp : bj = true
 rotate_left
 ·replace bp := bf_ bp
  subst bp
  rw [if_neg ff_] at H
  obtain rfl := Option.some.inj H
  have cR := g.1
  have c1 := i.1
  have cm := bc15_ a.1
  have cn := bc15_ b.1
  go_wp2_with (first | ((with_reducible refine gate_callee (f := 26) rfl ?_); refine gl_ (some 9) Try.func26 #[.slice y j.length F, .slice z l.length G] ?_; (with_reducible refine (slices_Equal_int_int.calls k _ _ j _ _ l true _ (cb_ q HB) o.1 (cb_ s HB) p.1 A5.1).mono ?_); rintro e w' ⟨rfl, ⟨nd, rfl⟩⟩; refine ⟨_, rfl, ?_⟩) | (go_at_call 26; (with_reducible refine (slices_Equal_int_int.calls k _ _ m _ _ n true _ ?side1 A.1 ?side3 B.1 av.1).mono ?_); (case side1 => exact pc_ (Kd.C_below D.1 (pb2_ HB.1 c.1 d.1))); (case side3 => exact pc_ (Kd.C_below E.1 (pb2_ HB.1 c.1 d.1))); rintro e w' ⟨rfl, ⟨nd, rfl⟩⟩) | (go_at_call 27; (with_reducible refine (slices_EqualFunc_impl_Endpoint_impl_Endpoint_impl_Endpoint_impl_Endpoint_with_impl_EqualEndpoints.calls k _ _ v _ _ x true _ ?side1 M.1 ?side3 O.1 ay.1).mono ?_); (case side1 => exact pc_ (Kd.C_below P.1 (pb2_ HB.1 c.1 d.1))); (case side3 => exact pc_ (Kd.C_below Q.1 (pb2_ HB.1 c.1 d.1))); rintro e dq ⟨rfl, hb⟩; have _ := Q_ (bb_ a.1 hb); have _ := Q_ (bb_ b.1 hb); have _ := Q_ (below_step (pb2_ HB.1 c.1 d.1) hb); clear a b HB; rename_i a b HB; (try clear hb); have co := bc15_ a.1; have cp := bc15_ b.1) | (go_at_call 29; (with_reducible refine (impl_EqualRollouts.calls k V _ _ J W X Y _ _ L Z aa true _ (cb_ ad HB) ab.1 (cb_ ae HB) ac.1 aB.1).mono ?_); rintro e dr ⟨rfl, hb⟩; have _ := Q_ (bb_ a.1 hb); have _ := Q_ (bb_ b.1 hb); have _ := Q_ (below_step (pb2_ HB.1 c.1 d.1) hb); clear a b HB; rename_i a b HB; (try clear hb); have cq := bc15_ a.1; have cr := bc15_ b.1) | (go_at_call 30; (with_reducible refine (slices_EqualFunc_impl_Dialed_impl_Dialed_impl_Dialed_impl_Dialed_with_impl_EqualDialed.calls k _ _ t _ _ u false _ (cb_ ah HB) af.1 (cb_ ai HB) ag.1 a0.1).mono ?_); rintro e ds ⟨rfl, hb⟩; have _ := Q_ (bb_ a.1 hb); have _ := Q_ (bb_ b.1 hb); have _ := Q_ (below_step (pb2_ HB.1 c.1 d.1) hb); clear a b HB; rename_i a b HB; (try clear hb)))
  go_ret
  exact ⟨er_, pb2_ HB.1 c.1 d.1⟩
 subst bp
 rw [if_pos rfl] at H
 obtain ⟨bk, bl, H⟩ := bs_ H
 (try dsimp only at H)
 by_cases bq : bk = true
 rotate_left
 ·replace bq := bf_ bq
  subst bq
  rw [if_neg ff_] at H
  obtain rfl := Option.some.inj H
  have cS := g.1
  have c2 := i.1
  have cs := bc15_ a.1
  have ct := bc15_ b.1
  go_wp2_with (first | ((with_reducible refine gate_callee (f := 26) rfl ?_); refine gl_ (some 9) Try.func26 #[.slice y j.length F, .slice z l.length G] ?_; (with_reducible refine (slices_Equal_int_int.calls k _ _ j _ _ l true _ (cb_ q HB) o.1 (cb_ s HB) p.1 A5.1).mono ?_); rintro e w' ⟨rfl, ⟨nd, rfl⟩⟩; refine ⟨_, rfl, ?_⟩) | (go_at_call 26; (with_reducible refine (slices_Equal_int_int.calls k _ _ m _ _ n true _ ?side1 A.1 ?side3 B.1 av.1).mono ?_); (case side1 => exact pc_ (Kd.C_below D.1 (pb2_ HB.1 c.1 d.1))); (case side3 => exact pc_ (Kd.C_below E.1 (pb2_ HB.1 c.1 d.1))); rintro e w' ⟨rfl, ⟨nd, rfl⟩⟩) | (go_at_call 27; (with_reducible refine (slices_EqualFunc_impl_Endpoint_impl_Endpoint_impl_Endpoint_impl_Endpoint_with_impl_EqualEndpoints.calls k _ _ v _ _ x true _ ?side1 M.1 ?side3 O.1 ay.1).mono ?_); (case side1 => exact pc_ (Kd.C_below P.1 (pb2_ HB.1 c.1 d.1))); (case side3 => exact pc_ (Kd.C_below Q.1 (pb2_ HB.1 c.1 d.1))); rintro e dt ⟨rfl, hb⟩; have _ := Q_ (bb_ a.1 hb); have _ := Q_ (bb_ b.1 hb); have _ := Q_ (below_step (pb2_ HB.1 c.1 d.1) hb); clear a b HB; rename_i a b HB; (try clear hb); have cu := bc15_ a.1; have cv := bc15_ b.1) | (go_at_call 29; (with_reducible refine (impl_EqualRollouts.calls k V _ _ J W X Y _ _ L Z aa true _ (cb_ ad HB) ab.1 (cb_ ae HB) ac.1 aB.1).mono ?_); rintro e du ⟨rfl, hb⟩; have _ := Q_ (bb_ a.1 hb); have _ := Q_ (bb_ b.1 hb); have _ := Q_ (below_step (pb2_ HB.1 c.1 d.1) hb); clear a b HB; rename_i a b HB; (try clear hb); have cw := bc15_ a.1; have cx := bc15_ b.1) | (go_at_call 30; (with_reducible refine (slices_EqualFunc_impl_Dialed_impl_Dialed_impl_Dialed_impl_Dialed_with_impl_EqualDialed.calls k _ _ t _ _ u true _ (cb_ ah HB) af.1 (cb_ ai HB) ag.1 a0.1).mono ?_); rintro e dv ⟨rfl, hb⟩; have _ := Q_ (bb_ a.1 hb); have _ := Q_ (bb_ b.1 hb); have _ := Q_ (below_step (pb2_ HB.1 c.1 d.1) hb); clear a b HB; rename_i a b HB; (try clear hb); have cy := bc15_ a.1; have cz := bc15_ b.1) | (go_at_call 32; (with_reducible refine (slices_EqualFunc_impl_Logged_impl_Logged_impl_Logged_impl_Logged_with_impl_equalLogged.calls k _ _ I _ _ K false _ (cb_ ar HB) ap.1 (cb_ au HB) aq.1 bl.1).mono ?_); rintro e dw ⟨rfl, hb⟩; have _ := Q_ (bb_ a.1 hb); have _ := Q_ (bb_ b.1 hb); have _ := Q_ (below_step (pb2_ HB.1 c.1 d.1) hb); clear a b HB; rename_i a b HB; (try clear hb)))
  go_ret
  exact ⟨er_, pb2_ HB.1 c.1 d.1⟩
 subst bq
 rw [if_pos rfl] at H
 by_cases aN : R = T
 rotate_left
 ·rw [if_neg aN] at H
  have bx : (R == T) = false := beq_eq_false_iff_ne.mpr aN
  have bz : (R != T) = true := bne_iff_ne.mpr aN
  obtain rfl := Option.some.inj H
  have cT := g.1
  have c3 := i.1
  have cA := bc15_ a.1
  have cB := bc15_ b.1
  go_wp2_with (first | ((with_reducible refine gate_callee (f := 26) rfl ?_); refine gl_ (some 9) Try.func26 #[.slice y j.length F, .slice z l.length G] ?_; (with_reducible refine (slices_Equal_int_int.calls k _ _ j _ _ l true _ (cb_ q HB) o.1 (cb_ s HB) p.1 A5.1).mono ?_); rintro e w' ⟨rfl, ⟨nd, rfl⟩⟩; refine ⟨_, rfl, ?_⟩) | (go_at_call 26; (with_reducible refine (slices_Equal_int_int.calls k _ _ m _ _ n true _ ?side1 A.1 ?side3 B.1 av.1).mono ?_); (case side1 => exact pc_ (Kd.C_below D.1 (pb2_ HB.1 c.1 d.1))); (case side3 => exact pc_ (Kd.C_below E.1 (pb2_ HB.1 c.1 d.1))); rintro e w' ⟨rfl, ⟨nd, rfl⟩⟩) | (go_at_call 27; (with_reducible refine (slices_EqualFunc_impl_Endpoint_impl_Endpoint_impl_Endpoint_impl_Endpoint_with_impl_EqualEndpoints.calls k _ _ v _ _ x true _ ?side1 M.1 ?side3 O.1 ay.1).mono ?_); (case side1 => exact pc_ (Kd.C_below P.1 (pb2_ HB.1 c.1 d.1))); (case side3 => exact pc_ (Kd.C_below Q.1 (pb2_ HB.1 c.1 d.1))); rintro e dx ⟨rfl, hb⟩; have _ := Q_ (bb_ a.1 hb); have _ := Q_ (bb_ b.1 hb); have _ := Q_ (below_step (pb2_ HB.1 c.1 d.1) hb); clear a b HB; rename_i a b HB; (try clear hb); have cC := bc15_ a.1; have cD := bc15_ b.1) | (go_at_call 29; (with_reducible refine (impl_EqualRollouts.calls k V _ _ J W X Y _ _ L Z aa true _ (cb_ ad HB) ab.1 (cb_ ae HB) ac.1 aB.1).mono ?_); rintro e dy ⟨rfl, hb⟩; have _ := Q_ (bb_ a.1 hb); have _ := Q_ (bb_ b.1 hb); have _ := Q_ (below_step (pb2_ HB.1 c.1 d.1) hb); clear a b HB; rename_i a b HB; (try clear hb); have cE := bc15_ a.1; have cF := bc15_ b.1) | (go_at_call 30; (with_reducible refine (slices_EqualFunc_impl_Dialed_impl_Dialed_impl_Dialed_impl_Dialed_with_impl_EqualDialed.calls k _ _ t _ _ u true _ (cb_ ah HB) af.1 (cb_ ai HB) ag.1 a0.1).mono ?_); rintro e dz ⟨rfl, hb⟩; have _ := Q_ (bb_ a.1 hb); have _ := Q_ (bb_ b.1 hb); have _ := Q_ (below_step (pb2_ HB.1 c.1 d.1) hb); clear a b HB; rename_i a b HB; (try clear hb); have cG := bc15_ a.1; have cH := bc15_ b.1) | (go_at_call 32; (with_reducible refine (slices_EqualFunc_impl_Logged_impl_Logged_impl_Logged_impl_Logged_with_impl_equalLogged.calls k _ _ I _ _ K true _ (cb_ ar HB) ap.1 (cb_ au HB) aq.1 bl.1).mono ?_); rintro e dA ⟨rfl, hb⟩; have _ := Q_ (bb_ a.1 hb); have _ := Q_ (bb_ b.1 hb); have _ := Q_ (below_step (pb2_ HB.1 c.1 d.1) hb); clear a b HB; rename_i a b HB; (try clear hb); have cI := bc15_ a.1; have cJ := bc15_ b.1))
  go_ret
  exact ⟨er_, pb2_ HB.1 c.1 d.1⟩
 rw [if_pos aN] at H
 have bx : (R == T) = true := beq_iff_eq.mpr aN
 have bz : (R != T) = false := bne_eq_false_iff_eq.mpr aN
 clear aN
 by_cases aO : S = U
 rotate_left
 ·rw [if_neg aO] at H
  have bA : (S == U) = false := beq_eq_false_iff_ne.mpr aO
  have bB : (S != U) = true := bne_iff_ne.mpr aO
  obtain rfl := Option.some.inj H
  have cU := g.1
  have c4 := i.1
  have cK := bc15_ a.1
  have bD := bc15_ b.1
  go_wp2_with (first | ((with_reducible refine gate_callee (f := 26) rfl ?_); refine gl_ (some 9) Try.func26 #[.slice y j.length F, .slice z l.length G] ?_; (with_reducible refine (slices_Equal_int_int.calls k _ _ j _ _ l true _ (cb_ q HB) o.1 (cb_ s HB) p.1 A5.1).mono ?_); rintro e w' ⟨rfl, ⟨nd, rfl⟩⟩; refine ⟨_, rfl, ?_⟩) | (go_at_call 26; (with_reducible refine (slices_Equal_int_int.calls k _ _ m _ _ n true _ ?side1 A.1 ?side3 B.1 av.1).mono ?_); (case side1 => exact pc_ (Kd.C_below D.1 (pb2_ HB.1 c.1 d.1))); (case side3 => exact pc_ (Kd.C_below E.1 (pb2_ HB.1 c.1 d.1))); rintro e w' ⟨rfl, ⟨nd, rfl⟩⟩) | (go_at_call 27; (with_reducible refine (slices_EqualFunc_impl_Endpoint_impl_Endpoint_impl_Endpoint_impl_Endpoint_with_impl_EqualEndpoints.calls k _ _ v _ _ x true _ ?side1 M.1 ?side3 O.1 ay.1).mono ?_); (case side1 => exact pc_ (Kd.C_below P.1 (pb2_ HB.1 c.1 d.1))); (case side3 => exact pc_ (Kd.C_below Q.1 (pb2_ HB.1 c.1 d.1))); rintro e da ⟨rfl, hb⟩; have _ := Q_ (bb_ a.1 hb); have _ := Q_ (bb_ b.1 hb); have _ := Q_ (below_step (pb2_ HB.1 c.1 d.1) hb); clear a b HB; rename_i a b HB; (try clear hb); have bE := bc15_ a.1; have bF := bc15_ b.1) | (go_at_call 29; (with_reducible refine (impl_EqualRollouts.calls k V _ _ J W X Y _ _ L Z aa true _ (cb_ ad HB) ab.1 (cb_ ae HB) ac.1 aB.1).mono ?_); rintro e db ⟨rfl, hb⟩; have _ := Q_ (bb_ a.1 hb); have _ := Q_ (bb_ b.1 hb); have _ := Q_ (below_step (pb2_ HB.1 c.1 d.1) hb); clear a b HB; rename_i a b HB; (try clear hb); have bG := bc15_ a.1; have bH := bc15_ b.1) | (go_at_call 30; (with_reducible refine (slices_EqualFunc_impl_Dialed_impl_Dialed_impl_Dialed_impl_Dialed_with_impl_EqualDialed.calls k _ _ t _ _ u true _ (cb_ ah HB) af.1 (cb_ ai HB) ag.1 a0.1).mono ?_); rintro e dc ⟨rfl, hb⟩; have _ := Q_ (bb_ a.1 hb); have _ := Q_ (bb_ b.1 hb); have _ := Q_ (below_step (pb2_ HB.1 c.1 d.1) hb); clear a b HB; rename_i a b HB; (try clear hb); have bI := bc15_ a.1; have bJ := bc15_ b.1) | (go_at_call 32; (with_reducible refine (slices_EqualFunc_impl_Logged_impl_Logged_impl_Logged_impl_Logged_with_impl_equalLogged.calls k _ _ I _ _ K true _ (cb_ ar HB) ap.1 (cb_ au HB) aq.1 bl.1).mono ?_); rintro e dd ⟨rfl, hb⟩; have _ := Q_ (bb_ a.1 hb); have _ := Q_ (bb_ b.1 hb); have _ := Q_ (below_step (pb2_ HB.1 c.1 d.1) hb); clear a b HB; rename_i a b HB; (try clear hb); have bK := bc15_ a.1; have bL := bc15_ b.1))
  go_ret
  exact ⟨er_, pb2_ HB.1 c.1 d.1⟩
 rw [if_pos aO] at H
 have bA : (S == U) = true := beq_iff_eq.mpr aO
 have bB : (S != U) = false := bne_eq_false_iff_eq.mpr aO
 clear aO
 obtain rfl := Option.some.inj H
 have bW := g.1
 have bX := i.1
 have bM := bc15_ a.1
 have bN := bc15_ b.1
 go_wp2_with (first | ((with_reducible refine gate_callee (f := 26) rfl ?_); refine gl_ (some 9) Try.func26 #[.slice y j.length F, .slice z l.length G] ?_; (with_reducible refine (slices_Equal_int_int.calls k _ _ j _ _ l true _ (cb_ q HB) o.1 (cb_ s HB) p.1 A5.1).mono ?_); rintro e w' ⟨rfl, ⟨nd, rfl⟩⟩; refine ⟨_, rfl, ?_⟩) | (go_at_call 26; (with_reducible refine (slices_Equal_int_int.calls k _ _ m _ _ n true _ ?side1 A.1 ?side3 B.1 av.1).mono ?_); (case side1 => exact pc_ (Kd.C_below D.1 (pb2_ HB.1 c.1 d.1))); (case side3 => exact pc_ (Kd.C_below E.1 (pb2_ HB.1 c.1 d.1))); rintro e w' ⟨rfl, ⟨nd, rfl⟩⟩) | (go_at_call 27; (with_reducible refine (slices_EqualFunc_impl_Endpoint_impl_Endpoint_impl_Endpoint_impl_Endpoint_with_impl_EqualEndpoints.calls k _ _ v _ _ x true _ ?side1 M.1 ?side3 O.1 ay.1).mono ?_); (case side1 => exact pc_ (Kd.C_below P.1 (pb2_ HB.1 c.1 d.1))); (case side3 => exact pc_ (Kd.C_below Q.1 (pb2_ HB.1 c.1 d.1))); rintro e de ⟨rfl, hb⟩; have _ := Q_ (bb_ a.1 hb); have _ := Q_ (bb_ b.1 hb); have _ := Q_ (below_step (pb2_ HB.1 c.1 d.1) hb); clear a b HB; rename_i a b HB; (try clear hb); have bO := bc15_ a.1; have bP := bc15_ b.1) | (go_at_call 29; (with_reducible refine (impl_EqualRollouts.calls k V _ _ J W X Y _ _ L Z aa true _ (cb_ ad HB) ab.1 (cb_ ae HB) ac.1 aB.1).mono ?_); rintro e df ⟨rfl, hb⟩; have _ := Q_ (bb_ a.1 hb); have _ := Q_ (bb_ b.1 hb); have _ := Q_ (below_step (pb2_ HB.1 c.1 d.1) hb); clear a b HB; rename_i a b HB; (try clear hb); have bQ := bc15_ a.1; have bR := bc15_ b.1) | (go_at_call 30; (with_reducible refine (slices_EqualFunc_impl_Dialed_impl_Dialed_impl_Dialed_impl_Dialed_with_impl_EqualDialed.calls k _ _ t _ _ u true _ (cb_ ah HB) af.1 (cb_ ai HB) ag.1 a0.1).mono ?_); rintro e dg ⟨rfl, hb⟩; have _ := Q_ (bb_ a.1 hb); have _ := Q_ (bb_ b.1 hb); have _ := Q_ (below_step (pb2_ HB.1 c.1 d.1) hb); clear a b HB; rename_i a b HB; (try clear hb); have bS := bc15_ a.1; have bT := bc15_ b.1) | (go_at_call 32; (with_reducible refine (slices_EqualFunc_impl_Logged_impl_Logged_impl_Logged_impl_Logged_with_impl_equalLogged.calls k _ _ I _ _ K true _ (cb_ ar HB) ap.1 (cb_ au HB) aq.1 bl.1).mono ?_); rintro e dh ⟨rfl, hb⟩; have _ := Q_ (bb_ a.1 hb); have _ := Q_ (bb_ b.1 hb); have _ := Q_ (below_step (pb2_ HB.1 c.1 d.1) hb); clear a b HB; rename_i a b HB; (try clear hb); have bU := bc15_ a.1; have bV := bc15_ b.1))
 go_ret
 exact ⟨er_, pb2_ HB.1 c.1 d.1⟩

end Go.Proofs.Ytchnkakjjbfklaa.Print
