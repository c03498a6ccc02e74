-- Written by a program of this session (printx.py) out of the translation; Lean checks it.
import Derived.Test.YtldcchjbaglppaaPrint0
import Derived.Test.YtldcchjbaglppaaPrint1
import Derived.Test.YtldcchjbaglppaaPrint9
namespace Go.Proofs.Ytldcchjbaglppaa.Print
open Go.RowKit Go.Proofs.YtldcchjbaglppaaW.PrintWords Go.Proofs.YtldcchjbaglppaaW.PrintLast Go.Proofs.YtldcchjbaglppaaW.PrintMore Go.Proofs.Ytldcchjbaglppaa.Short
attribute [local go_sem] max2_int min2_int max_two min_two max_three min_three max_four min_four   -- for this text's walks alone
set_option linter.unusedVariables false
set_option maxHeartbeats 8000000
set_option maxRecDepth 100000
set_option linter.unusedSimpArgs false

/-! ### impl_FarFollows: function 25 -/
def impl_FarFollows.f (k : Nat) (a : List (S34)) (b : Int) (c : Int) : Option (Bool) := (impl_InRange.f b 0 c).bind fun d => (if d = true then (if c < (a.length : Int) then (if 0 ≤ c then (if 0 ≤ b then (if b < (a.length : Int) then ((impl_Follows.f k ((rd_T34 a c).f0) ((rd_T34 a c).f1) ((rd_T34 a c).f2) ((rd_T34 a b).f0) ((rd_T34 a b).f1) ((rd_T34 a b).f2)).bind fun e => (some e)) else (none)) else (none)) else (none)) else (some false)) else (some false))
theorem impl_FarFollows.mono : ∀ a b c k, LeO (impl_FarFollows.f k a b c) (impl_FarFollows.f (k + 1) a b c) := by
 intro a b c k
 unfold impl_FarFollows.f
 exact mo1_ impl_Follows.mono
def impl_FarFollows.T1 : Bool × List (List Nat × List Nat) := (true, [([], []), ([], []), ([0, 1], [0, 1]), ([2, 2], [2]), ([3], [3]), ([3], [3]), ([5, 3], [3, 5]), ([4, 6, 3], [3, 4, 6]), ([3, 7], [3, 7]), ([8, 3], [8]), ([9], [9]), ([9], [9]), ([10, 11, 9], [9, 10, 11]), ([12, 9], [9, 12]), ([9], [9]), ([9], [9]), ([14, 15, 9], [9, 14, 15]), ([16, 9], [9, 16]), ([13, 17, 9, 9], [9, 13, 17]), ([9, 18], [9, 18]), ([19, 18, 0, 1, 2, 3, 4, 5, 6, 7, 8, 9, 10, 11, 12, 13, 14, 15, 16, 17, 18, 19], [19])])
def impl_FarFollows.B1 : List Nat := [0, 0, 3, 7, 15, 15, 47, 127, 255, 511, 1023, 1023, 4095, 8191, 1023, 1023, 50175, 115711, 262143, 524287, 1048575]
theorem impl_FarFollows.tab1 : rtab .any (opsOf Try.f25 1) = impl_FarFollows.T1 := by kernel_rfl
theorem impl_FarFollows.bits1 : waitsOk impl_FarFollows.T1.2 impl_FarFollows.B1 = true := by kernel_rfl
theorem impl_FarFollows.calls (k : Nat) (A0 : Option Addr) (c0 : Nat) (b : List (S34)) (c : Int) (d : Int) (r : Bool) (w : World) (hr0 : Kd.C k34 w A0 b.length b) (af : b.length ≤ c0) (h : impl_FarFollows.f k b c d = some r) :
  Calls Try.prog 25 #[.slice A0 b.length c0, .int .i64 c, .int .i64 d] w fun e w' => e = .returned (.bool r) ∧ Below w.heap.size w w' := by
 have hu34 := Try.underlying34
 have ab := Q_ hr0
 have ap := Q_ af
 clear hr0 af
 have HB := Q_ (Below.refl w.heap.size w)
 have H : ((impl_InRange.f c 0 d).bind fun W => (if W = true then (if d < (b.length : Int) then (if 0 ≤ d then (if 0 ≤ c then (if c < (b.length : Int) then ((impl_Follows.f k ((rd_T34 b d).f0) ((rd_T34 b d).f1) ((rd_T34 b d).f2) ((rd_T34 b c).f0) ((rd_T34 b c).f1) ((rd_T34 b c).f2)).bind fun M => (some M)) else (none)) else (none)) else (none)) else (some false)) else (some false))) = some r := h
 clear h
 obtain ⟨W, A4, H⟩ := bs_ H
 (try dsimp only at H)
 by_cases c5 : W = true
 rotate_left
 ·replace c5 := bf_ c5
  subst c5
  rw [if_neg ff_] at H
  obtain rfl := Option.some.inj H
  go_enter Try.func25, Try.ntmps25
  try go_wp2
  have _ := Q_ (below_drew1 HB.1)
  clear HB
  rename_i HB
  refine start_ (n := 21) (S := fun w' => True) (ds := []) (tf_ 0 21) (by kernel_rfl) rfl rfl trivial (fun hHeld => ?_); refine with_tabW impl_FarFollows.tab1 impl_FarFollows.bits1 (fun HT_ HW_ => ?_)
  generalize w.drew = w6 at HB hHeld ⊢
  refine pu1_ 0 7 21 1 ?_
  refine pu1_ 1 8 21 3 ?_
  refine on_ 2 (some 9) (tf_ 3 21) HT_ (fun K hK => ?_)
  refine goes_ Try.func47 (by kernel_rfl) rfl #[.int .i64 c, .int .i64 0, .int .i64 d] (by rfl) rfl rfl mp_ ?_
  with_reducible refine (impl_InRange.calls c 0 d false _ A4.1).mono ?_
  rintro e w' ⟨rfl, ⟨nd, rfl⟩⟩
  refine ⟨_, rfl, ?_⟩
  refine hK.out _ _ trivial (fun hHeld => ?_)
  clear hK K
  refine no_ (some 9) ?_
  refine pu1_ 3 10 21 15 ?_
  refine pn1_ 4 11 21 31 ?_
  refine pn1_ 5 12 21 63 ?_
  refine pn1_ 6 13 21 127 ?_
  refine pn1_ 7 14 21 255 ?_
  refine pu1_ 8 15 21 511 ?_
  refine pu1_ 9 16 21 1023 ?_
  refine pn1_ 10 17 21 2047 ?_
  refine pn1_ 11 18 21 4095 ?_
  refine pn1_ 12 19 21 8191 ?_
  refine pn1_ 13 20 21 16383 ?_
  refine pn1_ 14 21 21 32767 ?_
  refine pn1_ 15 22 21 65535 ?_
  refine pn1_ 16 23 21 131071 ?_
  refine pn1_ 17 24 21 262143 ?_
  refine pn1_ 18 25 21 524287 ?_
  refine pu1_ 19 26 21 1048575 ?_
  refine pu1_ 20 6 21 2097151 ?_
  refine done_ (done_of HT_.1 (by kernel_rfl)) ?_
  try go_wp2
  go_ret
  exact ⟨er_, pb_ HB.1⟩
 subst c5
 rw [if_pos rfl] at H
 by_cases c7 : d < (b.length : Int)
 rotate_left
 ·rw [if_neg c7] at H
  have ac := decide_eq_false c7
  clear c7
  obtain rfl := Option.some.inj H
  go_enter Try.func25, Try.ntmps25
  try go_wp2
  have _ := Q_ (below_drew1 HB.1)
  clear HB
  rename_i HB
  refine start_ (n := 21) (S := fun w' => True) (ds := []) (tf_ 0 21) (by kernel_rfl) rfl rfl trivial (fun hHeld => ?_); refine with_tabW impl_FarFollows.tab1 impl_FarFollows.bits1 (fun HT_ HW_ => ?_)
  generalize w.drew = w8 at HB hHeld ⊢
  refine pu1_ 0 7 21 1 ?_
  refine pu1_ 1 8 21 3 ?_
  refine on_ 2 (some 9) (tf_ 3 21) HT_ (fun K hK => ?_)
  refine goes_ Try.func47 (by kernel_rfl) rfl #[.int .i64 c, .int .i64 0, .int .i64 d] (by rfl) rfl rfl mp_ ?_
  with_reducible refine (impl_InRange.calls c 0 d true _ A4.1).mono ?_
  rintro e w' ⟨rfl, ⟨nd, rfl⟩⟩
  refine ⟨_, rfl, ?_⟩
  refine hK.out _ _ trivial (fun hHeld => ?_)
  clear hK K
  refine no_ (some 9) ?_
  refine pu1_ 3 10 21 15 ?_
  refine pu1_ 4 11 21 31 ?_
  refine pu1_ 5 12 21 63 ?_
  refine pu1_ 6 13 21 127 ?_
  refine pu1_ 7 14 21 255 ?_
  refine pu1_ 8 15 21 511 ?_
  refine pu1_ 9 16 21 1023 ?_
  refine pn1_ 10 17 21 2047 ?_
  refine pn1_ 11 18 21 4095 ?_
  refine pn1_ 12 19 21 8191 ?_
  refine pn1_ 13 20 21 16383 ?_
  refine pn1_ 14 21 21 32767 ?_
  refine pn1_ 15 22 21 65535 ?_
  refine pn1_ 16 23 21 131071 ?_
  refine pn1_ 17 24 21 262143 ?_
  refine pn1_ 18 25 21 524287 ?_
  refine pu1_ 19 26 21 1048575 ?_
  refine pu1_ 20 6 21 2097151 ?_
  refine done_ (done_of HT_.1 (by kernel_rfl)) ?_
  try go_wp2
  go_ret
  exact ⟨er_, pb_ HB.1⟩
 rw [if_pos c7] at H
 have ac := decide_eq_true c7
 clear c7
 by_cases c9 : 0 ≤ d
 rotate_left
 ·rw [if_neg c9] at H
  exact nn_ H
 rw [if_pos c9] at H
 have ao := decide_eq_true c9
 clear c9
 by_cases X : 0 ≤ c
 rotate_left
 ·rw [if_neg X] at H
  exact nn_ H
 rw [if_pos X] at H
 have ak := decide_eq_true X
 clear X
 by_cases Y : c < (b.length : Int)
 rotate_left
 ·rw [if_neg Y] at H
  exact nn_ H
 rw [if_pos Y] at H
 have al := decide_eq_true Y
 clear Y
 obtain ⟨M, ai, H⟩ := bs_ H
 replace H : (some M) = some r := H
 obtain rfl := Option.some.inj H
 go_enter Try.func25, Try.ntmps25
 try go_wp2
 have _ := Q_ (below_drew1 HB.1)
 clear HB
 rename_i HB
 have R : 0 ≤ (d : Int) := dt_
 have U : d < (b.length : Int) := dt_
 obtain ⟨a, B, G, D, I, ad, g, i, j, N, x, O, y⟩ := at_U34 ab.1 d R U
 have s := j
 have q := i
 have p := g
 cases ad
 replace g := bt_ HB g
 replace i := bt_ HB i
 replace j := bt_ HB j
 replace R := eq_true R
 replace U := eq_true U
 have T : 0 ≤ (c : Int) := dt_
 have V : c < (b.length : Int) := dt_
 obtain ⟨Z, E, J, F, L, ae, l, m, o, P, z, Q, A⟩ := at_U34 ab.1 c T V
 have v := o
 have u := m
 have t := l
 obtain rfl : a = Z := (by injection ae)
 replace l := bt_ HB l
 replace m := bt_ HB m
 replace o := bt_ HB o
 replace T := eq_true T
 replace V := eq_true V
 refine start_ (n := 21) (S := fun w' => w'.cell? (a.add ((d).toNat * 3)) = some (.int .i64 ((rd_T34 b d).f0)) ∧ w'.cell? ⟨(a.add ((d).toNat * 3)).block, (a.add ((d).toNat * 3)).off + 1, none⟩ = some (.slice B ((rd_T34 b d).f1).length G) ∧ w'.cell? ⟨(a.add ((d).toNat * 3)).block, (a.add ((d).toNat * 3)).off + 2, none⟩ = some (.slice D ((rd_T34 b d).f2).length I) ∧ w'.cell? (a.add ((c).toNat * 3)) = some (.int .i64 ((rd_T34 b c).f0)) ∧ w'.cell? ⟨(a.add ((c).toNat * 3)).block, (a.add ((c).toNat * 3)).off + 1, none⟩ = some (.slice E ((rd_T34 b c).f1).length J) ∧ w'.cell? ⟨(a.add ((c).toNat * 3)).block, (a.add ((c).toNat * 3)).off + 2, none⟩ = some (.slice F ((rd_T34 b c).f2).length L)) (ds := []) (tf_ 0 21) (by kernel_rfl) rfl rfl ⟨(bt_ HB p), (bt_ HB q), (bt_ HB s), (bt_ HB t), (bt_ HB u), (bt_ HB v)⟩ (fun hHeld => ?_); refine with_tabW impl_FarFollows.tab1 impl_FarFollows.bits1 (fun HT_ HW_ => ?_)
 generalize w.drew = aq at HB x y z A g i j l m o hHeld ⊢
 refine pu1_ 0 7 21 1 ?_
 refine pu1_ 1 8 21 3 ?_
 refine on_ 2 (some 9) (tf_ 3 21) HT_ (fun K hK => ?_)
 refine goes_ Try.func47 (by kernel_rfl) rfl #[.int .i64 c, .int .i64 0, .int .i64 d] (by rfl) rfl rfl mp_ ?_
 with_reducible refine (impl_InRange.calls c 0 d true _ A4.1).mono ?_
 rintro e w' ⟨rfl, ⟨nd, rfl⟩⟩
 refine ⟨_, rfl, ?_⟩
 refine hK.out _ _ ⟨(bt_ HB p), (bt_ HB q), (bt_ HB s), (bt_ HB t), (bt_ HB u), (bt_ HB v)⟩ (fun hHeld => ?_)
 clear hK K
 refine no_ (some 9) ?_
 refine pu1_ 3 10 21 15 ?_
 refine pu1_ 4 11 21 31 ?_
 refine pu1_ 5 12 21 63 ?_
 refine pu1_ 6 13 21 127 ?_
 refine pu1_ 7 14 21 255 ?_
 refine pu1_ 8 15 21 511 ?_
 refine pu1_ 9 16 21 1023 ?_
 refine pu1_ 10 17 21 2047 ?_
 refine pu1_ 11 18 21 4095 ?_
 refine pu1_ 12 19 21 8191 ?_
 refine pu1_ 14 21 21 24575 ?_
 refine pu1_ 15 22 21 57343 ?_
 refine pu1_ 16 23 21 122879 ?_
 refine ta1_ 13 20 21 131071 hHeld ?_
 refine ta1_ 17 24 21 262143 hHeld ?_
 refine on_ 18 (some 25) (tf_ 19 21) HT_ (fun K hK => ?_)
 refine goes_ Try.func48 (by kernel_rfl) rfl #[.agg #[.int .i64 ((rd_T34 b d).f0), .slice B ((rd_T34 b d).f1).length G, .slice D ((rd_T34 b d).f2).length I], .agg #[.int .i64 ((rd_T34 b c).f0), .slice E ((rd_T34 b c).f1).length J, .slice F ((rd_T34 b c).f2).length L]] (by rfl) rfl rfl mp_ ?_
 with_reducible refine (impl_Follows.calls k ((rd_T34 b d).f0) _ _ ((rd_T34 b d).f1) _ _ ((rd_T34 b d).f2) ((rd_T34 b c).f0) _ _ ((rd_T34 b c).f1) _ _ ((rd_T34 b c).f2) M _ ?side1 N.1 ?side3 O.1 ?side5 P.1 ?side7 Q.1 ai.1).mono ?_
 (case side1 => exact pc_ (Kd.C_below x.1 (pb_ HB.1)))
 (case side3 => exact pc_ (Kd.C_below y.1 (pb_ HB.1)))
 (case side5 => exact pc_ (Kd.C_below z.1 (pb_ HB.1)))
 (case side7 => exact pc_ (Kd.C_below A.1 (pb_ HB.1)))
 rintro e ar ⟨rfl, hb⟩
 refine ⟨_, rfl, ?_⟩
 have _ := Q_ (below_step (pb_ HB.1) hb)
 clear HB
 rename_i HB
 (try clear hb)
 refine hK.out _ _ ⟨(bt_ HB p), (bt_ HB q), (bt_ HB s), (bt_ HB t), (bt_ HB u), (bt_ HB v)⟩ (fun hHeld => ?_)
 clear hK K
 refine no_ (some 25) ?_
 refine pu1_ 19 26 21 1048575 ?_
 refine pu1_ 20 6 21 2097151 ?_
 refine done_ (done_of HT_.1 (by kernel_rfl)) ?_
 try go_wp2
 go_ret
 exact ⟨er_, pb_ HB.1⟩

/-! ### laws_big: function 26 -/
def laws_big.f (a : List Int) : Option (Bool) := some (decide ((a.length : Int) > 1048576))
theorem laws_big.calls (c : Option Addr) (d : Nat) (a : List Int) (r : Bool) (w : World) (hr0 : Kd.C (Kd.int .u8) w c a.length a) (b : a.length ≤ d) (h : laws_big.f a = some r) :
  Calls Try.prog 26 #[.slice c a.length d] w fun e w' => e = .returned (.bool r) ∧ Drawn0 w w' := by
 have j := Q_ hr0
 have i := Q_ b
 clear hr0 b
 have H : (some (decide ((a.length : Int) > 1048576))) = some r := h
 clear h
 obtain rfl := Option.some.inj H
 go_enter Try.func26, Try.ntmps26
 go_wp2
 go_ret
 exact ⟨by first | rfl | (simp; done) | (simp [*]; done), by repeat (first | exact Drawn0.refl _ | apply Drawn0.step)⟩

/-- A state of type 87 at block g of W; what its slices lead to came in by w0. -/
def IsS87 (w0 W : World) (g : Nat) (f0 : List Int) (f1 : Int) (f2 : Int) : Prop := ∃ a b, W.heap[g]? = some (.cells #[.slice a f0.length b, .int .i64 f1, .int .i64 f2] 87 (0, 0)) ∧ w0.heap.size ≤ g ∧ Kd.C (Kd.int .u8) w0 a f0.length f0
theorem IsS87.grown {w0 W : World} {g : Nat} {f0 : List Int} {f1 : Int} {f2 : Int} {W1 : World} {row : Option Nat} (h : IsS87 w0 W g f0 f1 f2) (hw : W.grownBy W1 row) (hne : some g ≠ row) : IsS87 w0 W1 g f0 f1 f2 := by
 obtain ⟨a, b, hb, hg, hr0⟩ := h
 exact ⟨a, b, blk_grown hb hw hne, hg, hr0⟩
theorem IsS87.own_neN {w0 W : World} {g : Nat} {f0 : List Int} {f1 : Int} {f2 : Int} {α : Type} {d : Kd α} {e : Nat} {base : Nat} {ok : Nat → Prop} {v : Value} {xs : List α} (h : IsS87 w0 W g f0 f1 f2) (ho : Kd.N d e W base ok v xs) (ht : e ≠ 87) : some g ≠ v.ownBlock := by
 obtain ⟨a, b, hb, hg, hr0⟩ := h
 exact Kd.N_ne ho hb ht
theorem IsS87.fresh {w0 W : World} {g : Nat} {f0 : List Int} {f1 : Int} {f2 : Int} (h : IsS87 w0 W g f0 f1 f2) : ∀ k, W.heap.size ≤ k → k ≠ g := by
 obtain ⟨a, b, hb, hg, hr0⟩ := h
 exact Kd.freshB hb
theorem IsS87.kept {w0 W : World} {g : Nat} {f0 : List Int} {f1 : Int} {f2 : Int} {W1 : World} {S : Nat → Prop} (h : IsS87 w0 W g f0 f1 f2) (hk : Kept W W1 S) (hne : ¬ S g) : IsS87 w0 W1 g f0 f1 f2 := by
 obtain ⟨a, b, hb, hg, hr0⟩ := h
 exact ⟨a, b, blk_kept hb hk hne, hg, hr0⟩
theorem IsS87.below {w0 W : World} {g : Nat} {f0 : List Int} {f1 : Int} {f2 : Int} {W1 : World} (h : IsS87 w0 W g f0 f1 f2) (hw : Below W.heap.size W W1) : IsS87 w0 W1 g f0 f1 f2 := h.grown (grown_of_below hw none) (by simp)
theorem IsS87.alloc {w0 W : World} {g : Nat} {f0 : List Int} {f1 : Int} {f2 : Int} (h : IsS87 w0 W g f0 f1 f2) (o : Obj) : IsS87 w0 (W.alloc o) g f0 f1 f2 := h.below (below_alloc (Below.refl _ _) o)
theorem IsS87.drewN {w0 W : World} {g : Nat} {f0 : List Int} {f1 : Int} {f2 : Int} (h : IsS87 w0 W g f0 f1 f2) (m : Nat) : IsS87 w0 (W.drewN m) g f0 f1 f2 := h
theorem IsS87.drew {w0 W : World} {g : Nat} {f0 : List Int} {f1 : Int} {f2 : Int} (h : IsS87 w0 W g f0 f1 f2) : IsS87 w0 W.drew g f0 f1 f2 := h
theorem IsS87.at_ {w0 W : World} {g : Nat} {f0 : List Int} {f1 : Int} {f2 : Int} {w' : World} {m : Nat} (hq : W.drewN m = w') (h : IsS87 w0 W g f0 f1 f2) : IsS87 w0 w' g f0 f1 f2 := by subst hq; exact IsS87.drewN h m
theorem IsS87.apart {w0 W : World} {g : Nat} {f0 : List Int} {f1 : Int} {f2 : Int} {α : Type} {d : Kd α} {e : Nat} {base : Nat} {ok : Nat → Prop} {v : Value} {xs : List α} (h : IsS87 w0 W g f0 f1 f2) (ho : d.R e W base ok v xs) (ht : ∀ q, q ∈ e :: d.E → q ≠ 87) : d.R e W base (fun k => ok k ∧ k ≠ g) v xs := by
 obtain ⟨a, b, hb, hg, hr0⟩ := h
 exact Kd.R_types ho hb ht
theorem IsS87.own_ne {w0 W : World} {g : Nat} {f0 : List Int} {f1 : Int} {f2 : Int} {α : Type} {d : Kd α} {e : Nat} {base : Nat} {ok : Nat → Prop} {v : Value} {xs : List α} (h : IsS87 w0 W g f0 f1 f2) (ho : d.R e W base ok v xs) (ht : e ≠ 87) : some g ≠ v.ownBlock := by
 obtain ⟨a, b, hb, hg, hr0⟩ := h
 exact Kd.R_ne ho hb ht
theorem IsS87.apartQ {w0 W : World} {g : Nat} {f0 : List Int} {f1 : Int} {f2 : Int} {α : Type} {d : Kd α} {e : Nat} {base : Nat} {ok : Nat → Prop} {v : Value} {xs : List α} (h : IsS87 w0 W g f0 f1 f2) (ho : d.Q e W base ok v xs) (ht : ∀ q, q ∈ e :: d.E → q ≠ 87) : d.Q e W base (fun k => ok k ∧ k ≠ g) v xs := by
 obtain ⟨a, b, hb, hg, hr0⟩ := h
 exact Kd.Q_types ho hb ht
theorem IsS87.own_neQ {w0 W : World} {g : Nat} {f0 : List Int} {f1 : Int} {f2 : Int} {α : Type} {d : Kd α} {e : Nat} {base : Nat} {ok : Nat → Prop} {v : Value} {xs : List α} (h : IsS87 w0 W g f0 f1 f2) (ho : d.Q e W base ok v xs) (ht : e ≠ 87) : some g ≠ v.ownBlock := by
 obtain ⟨a, b, hb, hg, hr0⟩ := h
 exact Kd.Q_ne ho hb ht
theorem IsS87.apartS {w0 W : World} {g : Nat} {f0 : List Int} {f1 : Int} {f2 : Int} {α : Type} {d : Kd α} {e : Nat} {base : Nat} {ok : Nat → Prop} {v : Value} {xs : List α} (h : IsS87 w0 W g f0 f1 f2) (ho : d.S e W base ok v xs) (ht : ∀ q, q ∈ e :: d.E → q ≠ 87) : d.S e W base (fun k => ok k ∧ k ≠ g) v xs := by
 obtain ⟨a, b, hb, hg, hr0⟩ := h
 exact Kd.S_types ho hb ht
theorem IsS87.own_neS {w0 W : World} {g : Nat} {f0 : List Int} {f1 : Int} {f2 : Int} {α : Type} {d : Kd α} {e : Nat} {base : Nat} {ok : Nat → Prop} {v : Value} {xs : List α} (h : IsS87 w0 W g f0 f1 f2) (ho : d.S e W base ok v xs) (ht : e ≠ 87) : some g ≠ v.ownBlock := by
 obtain ⟨a, b, hb, hg, hr0⟩ := h
 exact Kd.S_ne ho hb ht
theorem IsS87.lt {w0 W : World} {g : Nat} {f0 : List Int} {f1 : Int} {f2 : Int} (h : IsS87 w0 W g f0 f1 f2) : g < W.heap.size := by
 obtain ⟨a, b, hb, hg, hr0⟩ := h
 exact blk_lt hb
theorem IsS87.ge {w0 W : World} {g : Nat} {f0 : List Int} {f1 : Int} {f2 : Int} (h : IsS87 w0 W g f0 f1 f2) : w0.heap.size ≤ g := by
 obtain ⟨a, b, hb, hg, hr0⟩ := h
 exact hg
theorem IsS87.ne_blk {w0 W : World} {g : Nat} {f0 : List Int} {f1 : Int} {f2 : Int} {a : Nat} {cs : Array Value} {t : TypeId} {fr : Nat × Nat} (h : IsS87 w0 W g f0 f1 f2) (hb2 : W.heap[a]? = some (.cells cs t fr)) (ht : t ≠ 87) : g ≠ a := by
 obtain ⟨b, c, hb, hg, hr0⟩ := h
 rintro rfl
 rw [hb] at hb2
 injection hb2 with hb2
 injection hb2 with _ ht2
 exact ht ht2.symm
theorem IsS87.far {w0 W : World} {g : Nat} {f0 : List Int} {f1 : Int} {f2 : Int} {p : Addr} (h : IsS87 w0 W g f0 f1 f2) (hne : g ≠ p.block) (u : Value) : IsS87 w0 (W.setCell p u) g f0 f1 f2 := by
 obtain ⟨a, b, hb, hg, hr0⟩ := h
 exact ⟨a, b, blk_far hb hne u, hg, hr0⟩
theorem cellS87_0 {W : World} {g : Nat} {a : Option Addr} {b : Nat} {f0 : List Int} {f1 : Int} {f2 : Int} (h : W.heap[g]? = some (.cells #[.slice a f0.length b, .int .i64 f1, .int .i64 f2] 87 (0, 0))) : W.cell? ⟨g, 0, none⟩ = some (.slice a f0.length b) := (blk_cell h 0).trans rfl
theorem cellS87_1 {W : World} {g : Nat} {a : Option Addr} {b : Nat} {f0 : List Int} {f1 : Int} {f2 : Int} (h : W.heap[g]? = some (.cells #[.slice a f0.length b, .int .i64 f1, .int .i64 f2] 87 (0, 0))) : W.cell? ⟨g, 1, none⟩ = some (.int .i64 f1) := (blk_cell h 1).trans rfl
theorem IsS87.set_1 {w0 W : World} {g : Nat} {f0 : List Int} {f1 : Int} {f2 : Int} (h : IsS87 w0 W g f0 f1 f2) (x : Int) : IsS87 w0 (W.setCell ⟨g, 1, none⟩ (.int .i64 x)) g f0 x f2 := by
 obtain ⟨a, b, hb, hg, hr0⟩ := h
 exact ⟨a, b, by simpa using blk_set hb 1 (.int .i64 x), hg, hr0⟩
theorem cellS87_2 {W : World} {g : Nat} {a : Option Addr} {b : Nat} {f0 : List Int} {f1 : Int} {f2 : Int} (h : W.heap[g]? = some (.cells #[.slice a f0.length b, .int .i64 f1, .int .i64 f2] 87 (0, 0))) : W.cell? ⟨g, 2, none⟩ = some (.int .i64 f2) := (blk_cell h 2).trans rfl
theorem IsS87.set_2 {w0 W : World} {g : Nat} {f0 : List Int} {f1 : Int} {f2 : Int} (h : IsS87 w0 W g f0 f1 f2) (x : Int) : IsS87 w0 (W.setCell ⟨g, 2, none⟩ (.int .i64 x)) g f0 f1 x := by
 obtain ⟨a, b, hb, hg, hr0⟩ := h
 exact ⟨a, b, by simpa using blk_set hb 2 (.int .i64 x), hg, hr0⟩
theorem IsS87.new (w0 W : World) (a : Option Addr) (b : Nat) (f0 : List Int) (f1 : Int) (f2 : Int) (hB : Below w0.heap.size w0 W) (hr0 : Kd.C (Kd.int .u8) w0 a f0.length f0) : IsS87 w0 (W.alloc (.cells #[.slice a f0.length b, .int .i64 f1, .int .i64 f2] 87)) W.heap.size f0 f1 f2 := ⟨a, b, by simpa using heap_alloc_new W _, hB.size, hr0⟩

/-! ### spec_l1New: function 49 -/
def spec_l1New.l0 : Nat → List Int → Int → Int → Option (List Int × Int × Int)
 | 0, _, _, _ => none
 | k + 1, a, c, b => if b < (a.length : Int) then (if b < 4000 then (if 0 ≤ b then (spec_l1New.l0 k a (Go.bits .and .i64 (wrap64 ((wrap64 ((wrap64 (c * 137)) + (wrap64 (rd a b)))) + 11)) 1073741823) (wrap64 (b + 1))) else (none)) else (some (a, 0, c))) else (some (a, 0, c))
def spec_l1New.f (k : Nat) (a : List Int) : Option (List Int × Int × Int) := spec_l1New.l0 k a (wrap64 (193017 + (a.length : Int))) 0
theorem spec_l1New.mono_l : ∀ k, (∀ a b c, LeO (spec_l1New.l0 k a b c) (spec_l1New.l0 (k + 1) a b c))
 | 0 => fun _ _ _ r h => by simp [spec_l1New.l0] at h
 | k + 1 => by
  have ih0 := spec_l1New.mono_l k
  ·intro a b c
   unfold spec_l1New.l0
   exact mo1_ ih0
theorem spec_l1New.mono : ∀ a k, LeO (spec_l1New.f k a) (spec_l1New.f (k + 1) a) := by
 intro a k
 have ih0 := spec_l1New.mono_l k
 unfold spec_l1New.f
 exact mo1_ ih0
theorem spec_l1New.calls (k : Nat) (B : Option Addr) (D : Nat) (d : List Int) (F : List Int) (G : Int) (I : Int) (w0 w : World) (hB : Below w0.heap.size w0 w) (hr0 : Kd.C (Kd.int .u8) w0 B d.length d) (A : d.length ≤ D) (h : spec_l1New.f k d = some (F, G, I)) :
  Calls Try.prog 49 #[.slice B d.length D] w fun e w' => ∃ g_ : Nat, e = .returned (.pointer (some ⟨g_, 0, none⟩)) ∧ IsS87 w0 w' g_ F G I ∧ Below w0.heap.size w0 w' ∧ Below w.heap.size w w' := by
 have hu87 := Try.underlying87
 have q := Q_ hr0
 have L := Q_ A
 clear hr0 A
 have HBW := Q_ (Below.refl w.heap.size w)
 have HW0 := Q_ hB.size
 have HB := Q_ hB
 clear hB
 have H : (spec_l1New.l0 k d (wrap64 (193017 + (d.length : Int))) 0) = some (F, G, I) := h
 clear h
 have H' := Q_ H
 clear H
 go_enter Try.func49, Try.ntmps49
 go_wp2
 go_loopg [3, 4] k (fun kq M O w' => ∃ (b : Int) (a : Int), M = .int .i64 b ∧ O = .int .i64 a ∧ Aside0 (spec_l1New.l0 kq d b a = some (F, G, I)) ∧ Aside0 (kq ≤ k) ∧ Aside0 (Below w0.heap.size w0 w') ∧ Aside0 (Below w.heap.size w w'))
 case atStart => exact ⟨(wrap64 (193017 + (d.length : Int))), (0), el_, el_, H', ⟨Nat.le_refl _⟩, ⟨pb_ HB.1⟩, ⟨pb_ HBW.1⟩⟩
 clear H'
 obtain ⟨b, a, rfl, rfl, HA, v, HB, HBW⟩ := hrel
 rcases gk with _ | k1
 ·exact absurd HA.1 (by simp [spec_l1New.l0])
 have H := HA.1
 clear HA
 simp only [spec_l1New.l0] at H
 by_cases t : a < (d.length : Int)
 rotate_left
 ·rw [if_neg t] at H
  have x := decide_eq_false t
  clear t
  simp only [Option.some.injEq, Prod.mk.injEq] at H
  obtain ⟨rfl, rfl, rfl⟩ := H
  go_wp2_with (first | ((with_reducible refine gate_dst (N := 31) rfl ?_); refine bx_ 31 #[.slice B d.length D, .int .i64 0, .int .i64 b] 87 ?_; intro s hg P hbox hb; have _ := Q_ (below_step HBW.1 hb); have _ := Q_ (below_step (pb_ HB.1) hb); have n := Q_ (hbox); have p := Q_ (gw_ (w := w) hg (pb_ HBW.1)); have i := Q_ (Nat.le_trans HW0.1 p.1); clear HBW HB; rename_i HBW HB; clear hb hbox hg))
  go_ret
  exact ⟨_, rfl, (show IsS87 w0 _ s d 0 b from ⟨_, _, pk_ n.1, i.1, q.1⟩), pb1_ HB.1 i.1, pb_ HBW.1⟩
 rw [if_pos t] at H
 have x := decide_eq_true t
 clear t
 by_cases u : a < 4000
 rotate_left
 ·rw [if_neg u] at H
  have y := decide_eq_false u
  clear u
  simp only [Option.some.injEq, Prod.mk.injEq] at H
  obtain ⟨rfl, rfl, rfl⟩ := H
  go_wp2_with (first | ((with_reducible refine gate_dst (N := 31) rfl ?_); refine bx_ 31 #[.slice B d.length D, .int .i64 0, .int .i64 b] 87 ?_; intro r hg Q hbox hb; have _ := Q_ (below_step HBW.1 hb); have _ := Q_ (below_step (pb_ HB.1) hb); have m := Q_ (hbox); have o := Q_ (gw_ (w := w) hg (pb_ HBW.1)); have g := Q_ (Nat.le_trans HW0.1 o.1); clear HBW HB; rename_i HBW HB; clear hb hbox hg))
  go_ret
  exact ⟨_, rfl, (show IsS87 w0 _ r d 0 b from ⟨_, _, pk_ m.1, g.1, q.1⟩), pb1_ HB.1 g.1, pb_ HBW.1⟩
 rw [if_pos u] at H
 have y := decide_eq_true u
 clear u
 by_cases E : 0 ≤ a
 rotate_left
 ·rw [if_neg E] at H
  exact nn_ H
 rw [if_pos E] at H
 have K := decide_eq_true E
 clear E
 have H' := Q_ H
 clear H
 have j : 0 ≤ (a : Int) := dt_
 have l : a < (d.length : Int) := dt_
 obtain ⟨J, z, c⟩ := Kd.at_int q.1 a j l
 cases z
 replace c := pw_cell_below HB.1 c
 replace j := eq_true j
 replace l := eq_true l
 go_wp2
 go_roundg k1
 case measure => have := v.1; omega
 case rel => exact ⟨(Go.bits .and .i64 (wrap64 ((wrap64 ((wrap64 (b * 137)) + (wrap64 (rd d a)))) + 11)) 1073741823), (wrap64 (a + 1)), el_, el_, H', ⟨by have := v.1; omega⟩, ⟨pb_ HB.1⟩, ⟨pb_ HBW.1⟩⟩

/-! ### spec_l1Byte: function 69 -/
def spec_l1Byte.f (c : List Int) (b : Int) (a : Int) : Option (Int × Int × Int) := if b < (c.length : Int) then (if 0 ≤ b then (some (Go.bits .and .i64 (wrap64 ((Go.bits .and .i64 (Go.bits .xor .i64 ((wrap64 ((wrap64 (a * 6364136223846793005)) + 1442695040888963407)) / 8589934592) ((wrap64 ((wrap64 (a * 6364136223846793005)) + 1442695040888963407)) / 140737488355328)) 255) + (wrap64 (rd c b)))) 255, wrap64 (b + 1), wrap64 ((wrap64 (a * 6364136223846793005)) + 1442695040888963407))) else (none)) else (some (Go.bits .and .i64 (Go.bits .xor .i64 ((wrap64 ((wrap64 (a * 6364136223846793005)) + 1442695040888963407)) / 8589934592) ((wrap64 ((wrap64 (a * 6364136223846793005)) + 1442695040888963407)) / 140737488355328)) 255, b, wrap64 ((wrap64 (a * 6364136223846793005)) + 1442695040888963407)))
theorem spec_l1Byte.calls (g : Nat) (i : List Int) (b : Int) (c : Int) (D : Int) (E : Int) (F : Int) (w0 w : World) (hI : IsS87 w0 w g i b c) (hB : Below w0.heap.size w0 w) (h : spec_l1Byte.f i b c = some (D, E, F)) :
  Calls Try.prog 69 #[.pointer (some ⟨g, 0, none⟩)] w fun e w' => e = .returned (.int .i64 D) ∧ IsS87 w0 w' g i E F ∧ Below w0.heap.size w0 w' ∧ KeepBut w w' g none := by
 have j := Q_ hI
 have HK := Q_ (KeepBut.refl w g none)
 have HL := Q_ hB.size
 clear hI
 have HW0 := Q_ hB.size
 have HB := Q_ hB
 clear hB
 have H : (if b < (i.length : Int) then (if 0 ≤ b then (some (Go.bits .and .i64 (wrap64 ((Go.bits .and .i64 (Go.bits .xor .i64 ((wrap64 ((wrap64 (c * 6364136223846793005)) + 1442695040888963407)) / 8589934592) ((wrap64 ((wrap64 (c * 6364136223846793005)) + 1442695040888963407)) / 140737488355328)) 255) + (wrap64 (rd i b)))) 255, wrap64 (b + 1), wrap64 ((wrap64 (c * 6364136223846793005)) + 1442695040888963407))) else (none)) else (some (Go.bits .and .i64 (Go.bits .xor .i64 ((wrap64 ((wrap64 (c * 6364136223846793005)) + 1442695040888963407)) / 8589934592) ((wrap64 ((wrap64 (c * 6364136223846793005)) + 1442695040888963407)) / 140737488355328)) 255, b, wrap64 ((wrap64 (c * 6364136223846793005)) + 1442695040888963407)))) = some (D, E, F) := h
 clear h
 by_cases n : b < (i.length : Int)
 rotate_left
 ·rw [if_neg n] at H
  have o := decide_eq_false n
  clear n
  simp only [Option.some.injEq, Prod.mk.injEq] at H
  obtain ⟨rfl, rfl, rfl⟩ := H
  obtain ⟨ASz3_0, cSz3_0, HGz3, hgz3, HSz3_0⟩ := j.1
  have s := cellS87_0 HGz3
  have t := cellS87_1 HGz3
  have u := cellS87_2 HGz3
  have z := blk_frozen HGz3 1
  have A := blk_frozen HGz3 2
  clear HGz3 hgz3
  go_enter Try.func69, Try.ntmps69
  go_wp2
  repeat (go_quiet (fail); try go_wp2)
  go_ret
  exact ⟨er_, qs87_0_ j.1, qb1_ HB.1 (IsS87.ge j.1), qk0_ HK.1⟩
 rw [if_pos n] at H
 have o := decide_eq_true n
 clear n
 by_cases r : 0 ≤ b
 rotate_left
 ·rw [if_neg r] at H
  exact nn_ H
 rw [if_pos r] at H
 have G := decide_eq_true r
 clear r
 simp only [Option.some.injEq, Prod.mk.injEq] at H
 obtain ⟨rfl, rfl, rfl⟩ := H
 obtain ⟨ASz5_0, cSz5_0, HGz5, hgz5, HSz5_0⟩ := j.1
 have v := cellS87_0 HGz5
 have x := cellS87_1 HGz5
 have y := cellS87_2 HGz5
 have B := blk_frozen HGz5 1
 have C := blk_frozen HGz5 2
 clear HGz5 hgz5
 have k : 0 ≤ (b : Int) := dt_
 have l : b < (i.length : Int) := dt_
 obtain ⟨m, q, a⟩ := Kd.at_int HSz5_0 b k l
 cases q
 have d : m.block ≠ g := Nat.ne_of_lt (Nat.lt_of_lt_of_le (by have := World.block_lt_of_cell? _ _ a; first | rwa [add_block] at this | exact this) (IsS87.ge j.1))
 replace a := pw_cell_below HB.1 a
 replace a := (cell_far (p := ⟨g, 2, none⟩) (by first | (rw [add_block]; exact d) | (show (Addr.add _ _).block ≠ _; rw [add_block]; exact d) | exact d) (.int .i64 (wrap64 ((wrap64 (c * 6364136223846793005)) + 1442695040888963407)))).trans a
 (try have hy326_0 := fun (n_ : Nat) => (show (((w.drewN n_).setCell ⟨g, 2, none⟩ (.int .i64 (wrap64 ((wrap64 (c * 6364136223846793005)) + 1442695040888963407))))).cell? _ = some _ from a))
 clear d
 replace k := eq_true k
 replace l := eq_true l
 go_enter Try.func69, Try.ntmps69
 go_wp2
 repeat (go_quiet (fail); try go_wp2)
 go_ret
 exact ⟨er_, qs87_0_ j.1, qb1_ HB.1 (IsS87.ge j.1), qk0_ HK.1⟩

/-! ### spec_l1Below: function 54 -/
def spec_l1Below.f (e : List Int) (g : Int) (h : Int) (i : Int) : Option (Int × Int × Int) := if i ≤ 0 then (some (0, g, h)) else (if i ≤ 256 then ((spec_l1Byte.f e g h).bind fun a => (if i = 0 then (none) else (some (Int.tmod a.1 i, a.2.1, a.2.2)))) else ((spec_l1Byte.f e g h).bind fun b => ((spec_l1Byte.f e b.2.1 b.2.2).bind fun c => ((spec_l1Byte.f e c.2.1 c.2.2).bind fun d => (if i = 0 then (none) else (some (Int.tmod (wrap64 ((wrap64 ((wrap64 (b.1 * 65536)) + (wrap64 (c.1 * 256)))) + d.1)) i, d.2.1, d.2.2)))))))
theorem spec_l1Below.calls (g : Nat) (b : List Int) (c : Int) (d : Int) (i : Int) (K : Int) (L : Int) (M : Int) (w0 w : World) (hI : IsS87 w0 w g b c d) (hB : Below w0.heap.size w0 w) (h : spec_l1Below.f b c d i = some (K, L, M)) :
  Calls Try.prog 54 #[.pointer (some ⟨g, 0, none⟩), .int .i64 i] w fun e w' => e = .returned (.int .i64 K) ∧ IsS87 w0 w' g b L M ∧ Below w0.heap.size w0 w' ∧ KeepBut w w' g none := by
 have a := Q_ hI
 have HK := Q_ (KeepBut.refl w g none)
 have HL := Q_ hB.size
 clear hI
 have HW0 := Q_ hB.size
 have HB := Q_ hB
 clear hB
 have H : (if i ≤ 0 then (some (0, c, d)) else (if i ≤ 256 then ((spec_l1Byte.f b c d).bind fun j => (if i = 0 then (none) else (some (Int.tmod j.1 i, j.2.1, j.2.2)))) else ((spec_l1Byte.f b c d).bind fun k => ((spec_l1Byte.f b k.2.1 k.2.2).bind fun l => ((spec_l1Byte.f b l.2.1 l.2.2).bind fun m => (if i = 0 then (none) else (some (Int.tmod (wrap64 ((wrap64 ((wrap64 (k.1 * 65536)) + (wrap64 (l.1 * 256)))) + m.1)) i, m.2.1, m.2.2)))))))) = some (K, L, M) := h
 clear h
 by_cases s : i ≤ 0
 ·rw [if_pos s] at H
  have u := decide_eq_true s
  clear s
  simp only [Option.some.injEq, Prod.mk.injEq] at H
  obtain ⟨rfl, rfl, rfl⟩ := H
  go_enter Try.func54, Try.ntmps54
  go_wp2
  go_ret
  exact ⟨er_, qs87_0_ a.1, qb1_ HB.1 (IsS87.ge a.1), qk0_ HK.1⟩
 rw [if_neg s] at H
 have u := decide_eq_false s
 clear s
 by_cases t : i ≤ 256
 ·rw [if_pos t] at H
  have v := decide_eq_true t
  clear t
  obtain ⟨⟨x, y, z⟩, P, H⟩ := bs_ H
  (try dsimp only at H)
  by_cases F : i = 0
  rotate_left
  ·rw [if_neg F] at H
   have N : (i == 0) = false := beq_eq_false_iff_ne.mpr F
   have O : (i != 0) = true := bne_iff_ne.mpr F
   simp only [Option.some.injEq, Prod.mk.injEq] at H
   obtain ⟨rfl, rfl, rfl⟩ := H
   go_enter Try.func54, Try.ntmps54
   go_wp2_with (first | ((with_reducible refine gate_callee (f := 69) rfl ?_); refine gl_ (some 13) Try.func69 #[.pointer (some ⟨g, 0, none⟩)] ?_; (with_reducible refine (spec_l1Byte.calls g b c d x y z w0 _ ?side1 ?side2 P.1).mono ?_); (case side1 => exact qs87_0_ a.1); (case side2 => exact qb1_ HB.1 (IsS87.ge a.1)); rintro e V ⟨rfl, hi, hb, hk⟩; refine ⟨_, rfl, ?_⟩; have _ := Q_ (KeepBut.trans (qk0_ HK.1) hk (.inl rfl)); have _ := Q_ (hb); have _ := Q_ (hi); clear HK HB a; rename_i HK HB a; (try clear hb hk hi)))
   go_ret
   exact ⟨er_, qs87_0_ a.1, qb1_ HB.1 (IsS87.ge a.1), qk0_ HK.1⟩
  rw [if_pos F] at H
  exact nn_ H
 rw [if_neg t] at H
 have v := decide_eq_false t
 clear t
 obtain ⟨⟨A, o, p⟩, Q, H⟩ := bs_ H
 (try dsimp only at H)
 obtain ⟨⟨B, q, r⟩, R, H⟩ := bs_ H
 (try dsimp only at H)
 obtain ⟨⟨C, D, E⟩, G, H⟩ := bs_ H
 (try dsimp only at H)
 by_cases n : i = 0
 rotate_left
 ·rw [if_neg n] at H
  have I : (i == 0) = false := beq_eq_false_iff_ne.mpr n
  have J : (i != 0) = true := bne_iff_ne.mpr n
  simp only [Option.some.injEq, Prod.mk.injEq] at H
  obtain ⟨rfl, rfl, rfl⟩ := H
  go_enter Try.func54, Try.ntmps54
  go_wp2_with (first | ((with_reducible refine gate_callee (f := 69) rfl ?_); refine gl_ (some 17) Try.func69 #[.pointer (some ⟨g, 0, none⟩)] ?_; (with_reducible refine (spec_l1Byte.calls g b c d A o p w0 _ ?side1 ?side2 Q.1).mono ?_); (case side1 => exact qs87_0_ a.1); (case side2 => exact qb1_ HB.1 (IsS87.ge a.1)); rintro e S ⟨rfl, hi, hb, hk⟩; refine ⟨_, rfl, ?_⟩; have _ := Q_ (KeepBut.trans (qk0_ HK.1) hk (.inl rfl)); have _ := Q_ (hb); have _ := Q_ (hi); clear HK HB a; rename_i HK HB a; (try clear hb hk hi)) | ((with_reducible refine gate_callee (f := 69) rfl ?_); refine gl_ (some 19) Try.func69 #[.pointer (some ⟨g, 0, none⟩)] ?_; (with_reducible refine (spec_l1Byte.calls g b o p B q r w0 _ ?side1 ?side2 R.1).mono ?_); (case side1 => exact qs87_0_ a.1); (case side2 => exact qb1_ HB.1 (IsS87.ge a.1)); rintro e T ⟨rfl, hi, hb, hk⟩; refine ⟨_, rfl, ?_⟩; have _ := Q_ (KeepBut.trans (qk0_ HK.1) hk (.inl rfl)); have _ := Q_ (hb); have _ := Q_ (hi); clear HK HB a; rename_i HK HB a; (try clear hb hk hi)) | ((with_reducible refine gate_callee (f := 69) rfl ?_); refine gl_ (some 21) Try.func69 #[.pointer (some ⟨g, 0, none⟩)] ?_; (with_reducible refine (spec_l1Byte.calls g b q r C D E w0 _ ?side1 ?side2 G.1).mono ?_); (case side1 => exact qs87_0_ a.1); (case side2 => exact qb1_ HB.1 (IsS87.ge a.1)); rintro e U ⟨rfl, hi, hb, hk⟩; refine ⟨_, rfl, ?_⟩; have _ := Q_ (KeepBut.trans (qk0_ HK.1) hk (.inl rfl)); have _ := Q_ (hb); have _ := Q_ (hi); clear HK HB a; rename_i HK HB a; (try clear hb hk hi)))
  go_ret
  exact ⟨er_, qs87_0_ a.1, qb1_ HB.1 (IsS87.ge a.1), qk0_ HK.1⟩
 rw [if_pos n] at H
 exact nn_ H

/-! ### spec_l1Once: function 51 -/
def spec_l1Once.f (b : List Int) (c : Int) (d : Int) (e : Int) : Option (Bool × Int × Int) := (spec_l1Below.f b c d e).bind fun a => (some ((a.1 == 0), a.2.1, a.2.2))
theorem spec_l1Once.calls (g : Nat) (a : List Int) (c : Int) (d : Int) (m : Int) (n : Bool) (o : Int) (p : Int) (w0 w : World) (hI : IsS87 w0 w g a c d) (hB : Below w0.heap.size w0 w) (h : spec_l1Once.f a c d m = some (n, o, p)) :
  Calls Try.prog 51 #[.pointer (some ⟨g, 0, none⟩), .int .i64 m] w fun e w' => e = .returned (.bool n) ∧ IsS87 w0 w' g a o p ∧ Below w0.heap.size w0 w' ∧ KeepBut w w' g none := by
 have i := Q_ hI
 have HK := Q_ (KeepBut.refl w g none)
 have HL := Q_ hB.size
 clear hI
 have HW0 := Q_ hB.size
 have HB := Q_ hB
 clear hB
 have H : ((spec_l1Below.f a c d m).bind fun b => (some ((b.1 == 0), b.2.1, b.2.2))) = some (n, o, p) := h
 clear h
 obtain ⟨⟨j, k, l⟩, q, H⟩ := bs_ H
 replace H : (some ((j == 0), k, l)) = some (n, o, p) := H
 simp only [Option.some.injEq, Prod.mk.injEq] at H
 obtain ⟨rfl, rfl, rfl⟩ := H
 go_enter Try.func51, Try.ntmps51
 go_wp2_with (first | ((with_reducible refine gate_callee (f := 54) rfl ?_); refine gl_ (some 7) Try.func54 #[.pointer (some ⟨g, 0, none⟩), .int .i64 m] ?_; (with_reducible refine (spec_l1Below.calls g a c d m j k l w0 _ ?side1 ?side2 q.1).mono ?_); (case side1 => exact qs87_0_ i.1); (case side2 => exact qb1_ HB.1 (IsS87.ge i.1)); rintro e r ⟨rfl, hi, hb, hk⟩; refine ⟨_, rfl, ?_⟩; have _ := Q_ (KeepBut.trans (qk0_ HK.1) hk (.inl rfl)); have _ := Q_ (hb); have _ := Q_ (hi); clear HK HB i; rename_i HK HB i; (try clear hb hk hi)))
 go_ret
 exact ⟨er_, qs87_0_ i.1, qb1_ HB.1 (IsS87.ge i.1), qk0_ HK.1⟩

/-! ### spec_MoveOf: function 68 -/
def spec_MoveOf.l0 : Nat → Int → Bool → Int → Int → Int → List Bool → List (S78) → Option (Int)
 | 0, _, _, _, _, _, _, _ => none
 | k + 1, e, f, g, d, b, c, a => if d < (a.length : Int) then (if 0 ≤ d then (if ((rd_T78 a d).f0) = e then (if (((rd_T78 a d).f1) == f) = true then (if ((rd_T78 a d).f2) = g then (some d) else (spec_MoveOf.l0 k e f g (wrap64 (d + 1)) b c a)) else (spec_MoveOf.l0 k e f g (wrap64 (d + 1)) b c a)) else (spec_MoveOf.l0 k e f g (wrap64 (d + 1)) b c a)) else (none)) else (some (-1))
def spec_MoveOf.f (k : Nat) (a : Int) (b : List Bool) (c : List (S78)) (d : Int) (e : Bool) (g : Int) : Option (Int) := spec_MoveOf.l0 k d e g 0 a b c
theorem spec_MoveOf.mono_l : ∀ k, (∀ a b c d e f g, LeO (spec_MoveOf.l0 k a b c d e f g) (spec_MoveOf.l0 (k + 1) a b c d e f g))
 | 0 => fun _ _ _ _ _ _ _ r h => by simp [spec_MoveOf.l0] at h
 | k + 1 => by
  have ih0 := spec_MoveOf.mono_l k
  ·intro a b c d e f g
   unfold spec_MoveOf.l0
   exact mo1_ ih0
theorem spec_MoveOf.mono : ∀ a b c d e g k, LeO (spec_MoveOf.f k a b c d e g) (spec_MoveOf.f (k + 1) a b c d e g) := by
 intro a b c d e g k
 have ih0 := spec_MoveOf.mono_l k
 unfold spec_MoveOf.f
 exact mo1_ ih0
theorem spec_MoveOf.calls (k : Nat) (p : Int) (z : Option Addr) (B : Nat) (j : List Bool) (A : Option Addr) (D : Nat) (a : List (S78)) (L : Int) (F : Bool) (M : Int) (r : Int) (w : World) (hr0_1 : Kd.C Kd.bool w z j.length j) (G : j.length ≤ B) (hr0_2 : Kd.C k78 w A a.length a) (I : a.length ≤ D) (h : spec_MoveOf.f k p j a L F M = some r) :
  Calls Try.prog 68 #[.agg #[.int .i64 p, .slice z j.length B, .slice A a.length D], .int .i64 L, .bool F, .int .i64 M] w fun e w' => e = .returned (.int .i64 r) ∧ Below w.heap.size w w' := by
 have hu34 := Try.underlying34
 have hu78 := Try.underlying78
 have ad := Q_ hr0_1
 have ab := Q_ G
 clear hr0_1 G
 have Q := Q_ hr0_2
 have ac := Q_ I
 clear hr0_2 I
 have HB := Q_ (Below.refl w.heap.size w)
 have H : (spec_MoveOf.l0 k L F M 0 p j a) = some r := h
 clear h
 have H' := Q_ H
 clear H
 go_enter Try.func68, Try.ntmps68
 go_wp2_with (first | ((with_reducible refine gate_dst (N := 4) rfl ?_); refine bx_ 4 #[.int .i64 p, .slice z j.length B, .slice A a.length D] 34 ?_; intro W hg w5 hbox hb; have _ := Q_ (below_step (pb_ HB.1) hb); have d := Q_ (hbox); have O := Q_ (gw_ (w := w) hg (pb_ HB.1)); have i := O; clear HB; rename_i HB; clear hb hbox hg))
 (try simp only [Act.put, s1_, s2_, s3_])
 go_loopg [9] k (fun kq v9 w' => ∃ (b : Int), v9 = .int .i64 b ∧ Aside0 (spec_MoveOf.l0 kq L F M b p j a = some r) ∧ Aside0 (kq ≤ k) ∧ Aside0 (w'.heap[W]? = some (.cells #[.int .i64 p, (.slice z j.length B), (.slice A a.length D)] 34 (0, 0))) ∧ Aside0 (Below w.heap.size w w'))
 case atStart => exact ⟨(0), el_, H', ⟨Nat.le_refl _⟩, ⟨pk_ d.1⟩, ⟨pb1_ HB.1 i.1⟩⟩
 clear H'
 obtain ⟨b, rfl, HA, E, d, HB⟩ := hrel
 rcases gk with _ | k1
 ·exact absurd HA.1 (by simp [spec_MoveOf.l0])
 have H := HA.1
 clear HA
 simp only [spec_MoveOf.l0] at H
 by_cases X : b < (a.length : Int)
 rotate_left
 ·rw [if_neg X] at H
  have Y := decide_eq_false X
  clear X
  obtain rfl := Option.some.inj H
  have az := bc3_ d.1
  go_wp2
  go_ret
  exact ⟨er_, pb1_ HB.1 i.1⟩
 rw [if_pos X] at H
 have Y := decide_eq_true X
 clear X
 by_cases c8 : 0 ≤ b
 rotate_left
 ·rw [if_neg c8] at H
  exact nn_ H
 rw [if_pos c8] at H
 have ay := decide_eq_true c8
 clear c8
 have HS_ := Q_ H
 clear H
 have aA := bc3_ d.1
 have J : 0 ≤ (b : Int) := dt_
 have K : b < (a.length : Int) := dt_
 obtain ⟨ae, Z, s, t, u, v⟩ := at_T78 Q.1 b J K
 cases Z
 replace s := bt_ HB s
 replace t := bt_ HB t
 replace u := bt_ HB u
 replace v := bt_ HB v
 replace J := eq_true J
 replace K := eq_true K
 go_upto_region 5 with (first | ((with_reducible refine gate_dst (N := 10) rfl ?_); refine bx_ 10 #[.int .i64 0, .bool false, .int .i64 0, .int .i64 0] 78 ?_; intro ag hg aC hbox hb; have _ := Q_ (bb_ d.1 hb); have _ := Q_ (below_step (pb1_ HB.1 i.1) hb); have l := Q_ (hbox); have P := Q_ (gw_ (w := w) hg (pb1_ HB.1 i.1)); have q := P; have c := Q_ (nb_ hg d); have g := Q_ c.1.symm; clear d HB; rename_i d HB; clear hb hbox hg; have am := g.1; have ar := c.1; have ah := bc4_ l.1))
 (try simp only [Act.put, s1_, s2_, s3_])
 have H := HS_.1
 clear HS_
 by_cases x : ((rd_T78 a b).f0) = L
 rotate_left
 ·rw [if_neg x] at H
  have m : (((rd_T78 a b).f0) == L) = false := beq_eq_false_iff_ne.mpr x
  have n : (((rd_T78 a b).f0) != L) = true := bne_iff_ne.mpr x
  (first | rw [m] | (simp only [i64_w, i32_w]; rw [m]) | rw [n] | (have c_ := n; rw [bne] at c_; rw [c_]; clear c_) | skip)
  have H' := Q_ H
  clear H
  have an := g.1
  have au := c.1
  have ai := bc4_ l.1
  go_wp2
  go_roundg k1
  case measure => have := E.1; omega
  case rel => exact ⟨(wrap64 (b + 1)), el_, H', ⟨by have := E.1; omega⟩, ⟨pp_ d.1⟩, ⟨pb2_ HB.1 i.1 q.1⟩⟩
 rw [if_pos x] at H
 have m : (((rd_T78 a b).f0) == L) = true := beq_iff_eq.mpr x
 have n : (((rd_T78 a b).f0) != L) = false := bne_eq_false_iff_eq.mpr x
 clear x
 (first | rw [m] | (simp only [i64_w, i32_w]; rw [m]) | rw [n] | (have c_ := n; rw [bne] at c_; rw [c_]; clear c_) | skip)
 by_cases o : (((rd_T78 a b).f1) == F) = true
 rotate_left
 ·rw [if_neg o] at H
  have R : (((rd_T78 a b).f1) == F) = false := by simpa using o
  (try (have S : decide (((rd_T78 a b).f1) = F) = false := by simpa using o))
  (try (have T : (((rd_T78 a b).f1) == F) = false := by simpa using o))
  (try (have af : ¬ (((rd_T78 a b).f1) = F) := by simpa using o))
  clear o
  have H' := Q_ H
  clear H
  have ao := g.1
  have av := c.1
  have aj := bc4_ l.1
  go_wp2
  go_roundg k1
  case measure => have := E.1; omega
  case rel => exact ⟨(wrap64 (b + 1)), el_, H', ⟨by have := E.1; omega⟩, ⟨pp_ d.1⟩, ⟨pb2_ HB.1 i.1 q.1⟩⟩
 rw [if_pos o] at H
 have R : (((rd_T78 a b).f1) == F) = true := o
 (try (have S : decide (((rd_T78 a b).f1) = F) = true := by simpa using o))
 (try (have T : (((rd_T78 a b).f1) == F) = true := by simpa using o))
 clear o
 by_cases y : ((rd_T78 a b).f2) = M
 rotate_left
 ·rw [if_neg y] at H
  have U : (((rd_T78 a b).f2) == M) = false := beq_eq_false_iff_ne.mpr y
  have V : (((rd_T78 a b).f2) != M) = true := bne_iff_ne.mpr y
  have H' := Q_ H
  clear H
  have ap := g.1
  have aw := c.1
  have ak := bc4_ l.1
  go_wp2
  go_roundg k1
  case measure => have := E.1; omega
  case rel => exact ⟨(wrap64 (b + 1)), el_, H', ⟨by have := E.1; omega⟩, ⟨pp_ d.1⟩, ⟨pb2_ HB.1 i.1 q.1⟩⟩
 rw [if_pos y] at H
 have U : (((rd_T78 a b).f2) == M) = true := beq_iff_eq.mpr y
 have V : (((rd_T78 a b).f2) != M) = false := bne_eq_false_iff_eq.mpr y
 clear y
 obtain rfl := Option.some.inj H
 have aq := g.1
 have ax := c.1
 have al := bc4_ l.1
 go_wp2
 go_ret
 exact ⟨er_, pb2_ HB.1 i.1 q.1⟩

end Go.Proofs.Ytldcchjbaglppaa.Print
