-- Written by a program of this session (printx.py) out of the translation; Lean checks it.
import Derived.Test.YtldcchjbaglppaaPrint0
import Derived.Test.YtldcchjbaglppaaPrint5
import Derived.Test.YtldcchjbaglppaaPrint6
import Derived.Test.YtldcchjbaglppaaPrint7
namespace Go.Proofs.Ytldcchjbaglppaa.Print
open Go.RowKit Go.Proofs.YtldcchjbaglppaaW.PrintWords Go.Proofs.YtldcchjbaglppaaW.PrintLast Go.Proofs.YtldcchjbaglppaaW.PrintMore Go.Proofs.Ytldcchjbaglppaa.Short
attribute [local go_sem] max2_int min2_int max_two min_two max_three min_three max_four min_four   -- for this text's walks alone
set_option linter.unusedVariables false
set_option linter.unusedSimpArgs false

/-! ### spec_TroubleAt: function 72 -/
def spec_TroubleAt.j0 : Nat → Int → Int → Bool → Int → List Bool → List (S78) → Int → List Bool → List (S78) → Option (Int)
  | 0, _, _, _, _, _, _, _, _, _ => none
  | k + 1, x2, x3, x9, x300000, x300001, x300002, x301000, x301001, x301002 => if x9 = true then (some 1) else ((spec_NextPairs.f k x300000 x300001 x300002 x301000 x301001 x301002 x2 x3).bind fun t303 => (if (t303.length : Int) = 0 then ((spec_l14End.f x300000 x300001 x300002 x2).bind fun t306 => (if t306 = true then ((spec_l14End.f x301000 x301001 x301002 x3).bind fun t307 => (if t307 = true then (some 0) else (some 2))) else (some 2))) else (some 0)))
def spec_TroubleAt.f (k : Nat) (a0_0 : Int) (l0_1 : List Bool) (l0_2 : List (S78)) (a1_0 : Int) (l1_1 : List Bool) (l1_2 : List (S78)) (a2 : Int) (a3 : Int) : Option (Int) := (spec_l14Unread.f k a0_0 l0_1 l0_2 a1_0 l1_1 l1_2 a2 a3).bind fun t301 => (if t301 = true then (spec_TroubleAt.j0 k a2 a3 true a0_0 l0_1 l0_2 a1_0 l1_1 l1_2) else ((spec_l14Unread.f k a1_0 l1_1 l1_2 a0_0 l0_1 l0_2 a3 a2).bind fun t302 => (spec_TroubleAt.j0 k a2 a3 t302 a0_0 l0_1 l0_2 a1_0 l1_1 l1_2)))
theorem spec_TroubleAt.mono_l : ∀ k, (∀ y0 y1 y2 y3 y4 y5 y6 y7 y8, LeO (spec_TroubleAt.j0 k y0 y1 y2 y3 y4 y5 y6 y7 y8) (spec_TroubleAt.j0 (k + 1) y0 y1 y2 y3 y4 y5 y6 y7 y8))
  | 0 => fun _ _ _ _ _ _ _ _ _ r h => by simp [spec_TroubleAt.j0] at h
  | k + 1 => by
    have ih0 := spec_TroubleAt.mono_l k
    · intro y0 y1 y2 y3 y4 y5 y6 y7 y8
      unfold spec_TroubleAt.j0
      exact mo3_ ih0 spec_NextPairs.mono spec_l14Unread.mono
theorem spec_TroubleAt.mono : ∀ a0 a1 a2 a3 a4 a5 a6 a7 k, LeO (spec_TroubleAt.f k a0 a1 a2 a3 a4 a5 a6 a7) (spec_TroubleAt.f (k + 1) a0 a1 a2 a3 a4 a5 a6 a7) := by
  intro a0 a1 a2 a3 a4 a5 a6 a7 k
  have ih0 := spec_TroubleAt.mono_l k
  unfold spec_TroubleAt.f
  exact mo3_ ih0 spec_NextPairs.mono spec_l14Unread.mono
set_option maxHeartbeats 8000000 in
set_option maxRecDepth 100000 in
theorem spec_TroubleAt.calls (k : Nat) (a0_0 : Int) (A0_1 : Option Addr) (c0_1 : Nat) (l0_1 : List Bool) (A0_2 : Option Addr) (c0_2 : Nat) (l0_2 : List (S78)) (a1_0 : Int) (A1_1 : Option Addr) (c1_1 : Nat) (l1_1 : List Bool) (A1_2 : Option Addr) (c1_2 : Nat) (l1_2 : List (S78)) (a2 : Int) (a3 : Int) (r : Int) (w : World) (hr0_1 : Kd.C Kd.bool w A0_1 l0_1.length l0_1) (hc0_1 : l0_1.length ≤ c0_1) (hr0_2 : Kd.C k78 w A0_2 l0_2.length l0_2) (hc0_2 : l0_2.length ≤ c0_2) (hr1_1 : Kd.C Kd.bool w A1_1 l1_1.length l1_1) (hc1_1 : l1_1.length ≤ c1_1) (hr1_2 : Kd.C k78 w A1_2 l1_2.length l1_2) (hc1_2 : l1_2.length ≤ c1_2) (h : spec_TroubleAt.f k a0_0 l0_1 l0_2 a1_0 l1_1 l1_2 a2 a3 = some r) :
    Calls Try.prog 72 #[.agg #[.int .i64 a0_0, .slice A0_1 l0_1.length c0_1, .slice A0_2 l0_2.length c0_2], .agg #[.int .i64 a1_0, .slice A1_1 l1_1.length c1_1, .slice A1_2 l1_2.length c1_2], .int .i64 a2, .int .i64 a3] w fun e w' => e = .returned (.int .i64 r) ∧ Below w.heap.size w w' := by
  have hu34 := Try.underlying34
  have HR0_1 := Q_ hr0_1
  have HC0_1 := Q_ hc0_1
  clear hr0_1 hc0_1
  have HR0_2 := Q_ hr0_2
  have HC0_2 := Q_ hc0_2
  clear hr0_2 hc0_2
  have HR1_1 := Q_ hr1_1
  have HC1_1 := Q_ hc1_1
  clear hr1_1 hc1_1
  have HR1_2 := Q_ hr1_2
  have HC1_2 := Q_ hc1_2
  clear hr1_2 hc1_2
  have HB := Q_ (Below.refl w.heap.size w)
  have H : ((spec_l14Unread.f k a0_0 l0_1 l0_2 a1_0 l1_1 l1_2 a2 a3).bind fun t301 => (if t301 = true then (spec_TroubleAt.j0 k a2 a3 true a0_0 l0_1 l0_2 a1_0 l1_1 l1_2) else ((spec_l14Unread.f k a1_0 l1_1 l1_2 a0_0 l0_1 l0_2 a3 a2).bind fun t302 => (spec_TroubleAt.j0 k a2 a3 t302 a0_0 l0_1 l0_2 a1_0 l1_1 l1_2)))) = some r := h
  clear h
  have HC5 := Q_ H
  clear H
  go_enter Try.func72, Try.ntmps72
  go_upto_region 1 with (first | ((with_reducible refine gate_dst (N := 4) rfl ?_); refine box_event ?hg (N := 4) ?hd (cs := #[.int .i64 a0_0, .slice A0_1 l0_1.length c0_1, .slice A0_2 l0_2.length c0_2]) (t := 34) ?hr ?_; (case hd => rfl); (case hg => rfl); (case hr => first | (go_simp; done) | (go_simp; rfl)); intro gb299 hg w6 hbox hb; have n0_ := Q_ (below_step (pb_ HB.out) hb); have n1_ := Q_ (hbox); have n2_ := Q_ ((by rw [hg]; exact (below_size (pb_ HB.out)) : w.heap.size ≤ gb299)); have n3_ := n2_; clear HB; have HB := n0_; have BK299 := n1_; have GW299 := n2_; have GE299 := n3_; clear n0_ n1_ n2_ n3_; clear hb hbox hg) | ((with_reducible refine gate_dst (N := 5) rfl ?_); refine box_event ?hg (N := 5) ?hd (cs := #[.int .i64 a1_0, .slice A1_1 l1_1.length c1_1, .slice A1_2 l1_2.length c1_2]) (t := 34) ?hr ?_; (case hd => rfl); (case hg => rfl); (case hr => first | (go_simp; done) | (go_simp; rfl)); intro gb300 hg w7 hbox hb; have n0_ := Q_ (bb_ BK299.out hb); have n1_ := Q_ (below_step (pb1_ HB.out GE299.out) hb); have n2_ := Q_ (hbox); have n3_ := Q_ ((by rw [hg]; exact (below_size (pb1_ HB.out GE299.out)) : w.heap.size ≤ gb300)); have n4_ := n3_; have n5_ := Q_ ((by rw [hg]; exact Nat.ne_of_lt (blk_lt (pk_ BK299.out)) : gb299 ≠ gb300)); have n6_ := Q_ ((by rw [hg]; exact Nat.ne_of_gt (blk_lt (pk_ BK299.out)) : gb300 ≠ gb299)); clear BK299; clear HB; have BK299 := n0_; have HB := n1_; have BK300 := n2_; have GW300 := n3_; have GE300 := n4_; have NB299_300 := n5_; have NB300_299 := n6_; clear n0_ n1_ n2_ n3_ n4_ n5_ n6_; clear hb hbox hg))
  (try simp only [Act.put, List.setIfInBounds_toArray, List.set_cons_zero, List.set_cons_succ])
  go_cut [9] (fun v9 wc => ∃ (kq : Nat) (x9_4 : Bool), v9 = .bool x9_4 ∧ Aside0 (spec_TroubleAt.j0 kq a2 a3 x9_4 a0_0 l0_1 l0_2 a1_0 l1_1 l1_2 = some r) ∧ Aside0 (kq ≤ k) ∧ Aside0 (wc.heap[gb299]? = some (.cells #[.int .i64 a0_0, (.slice A0_1 l0_1.length c0_1), (.slice A0_2 l0_2.length c0_2)] 34 (0, 0))) ∧ Aside0 (wc.heap[gb300]? = some (.cells #[.int .i64 a1_0, (.slice A1_1 l1_1.length c1_1), (.slice A1_2 l1_2.length c1_2)] 34 (0, 0))) ∧ Aside0 (Below w.heap.size w wc))
  case first =>
    have H := HC5.out
    clear HC5
    replace H := Option.bind_eq_some_iff.mp H
    obtain ⟨t301, A80, H⟩ := H
    (try dsimp only at H)
    have A8 := Q_ A80
    clear A80
    by_cases c9 : t301 = true
    · subst c9
      rw [if_pos rfl] at H
      have H' := Q_ H
      clear H
      have hnb10 := NB299_300.out
      have hnc10 := NB300_299.out
      have hcz11 := bc3_ BK299.out
      have hcz12 := bc3_ BK300.out
      go_wp2_with (first | ((with_reducible refine gate_callee (f := 86) rfl ?_); refine gl_ (some 14) Try.func86 #[.agg #[.int .i64 a0_0, .slice A0_1 l0_1.length c0_1, .slice A0_2 l0_2.length c0_2], .agg #[.int .i64 a1_0, .slice A1_1 l1_1.length c1_1, .slice A1_2 l1_2.length c1_2], .int .i64 a2, .int .i64 a3] ?_; (with_reducible refine (spec_l14Unread.calls k a0_0 _ _ l0_1 _ _ l0_2 a1_0 _ _ l1_1 _ _ l1_2 a2 a3 true _ ?side1 ?side2 ?side3 ?side4 ?side5 ?side6 ?side7 ?side8 A8.out).mono ?_); (case side1 => exact cb_ HR0_1 HB); (case side2 => exact HC0_1.out); (case side3 => exact cb_ HR0_2 HB); (case side4 => exact HC0_2.out); (case side5 => exact cb_ HR1_1 HB); (case side6 => exact HC1_1.out); (case side7 => exact cb_ HR1_2 HB); (case side8 => exact HC1_2.out); rintro e w13 ⟨rfl, hb⟩; refine ⟨_, rfl, ?_⟩; have _ := Q_ (bb_ BK299.out hb); have _ := Q_ (bb_ BK300.out hb); have _ := Q_ (below_step (pb2_ HB.out GE299.out GE300.out) hb); clear BK299 BK300 HB; rename_i BK299 BK300 HB; (try clear hb); (try clear hb2); (try clear hk); (try clear hi)))
      go_meet
      case rel => exact ⟨_, (true), el_, H', ⟨by first | omega | exact Nat.le_refl _⟩, ⟨pk_ BK299.out⟩, ⟨pk_ BK300.out⟩, ⟨pb2_ HB.out GE299.out GE300.out⟩⟩
    replace c9 := Bool.eq_false_iff.mpr c9
    subst c9
    rw [if_neg (show ¬ (false = true) by decide)] at H
    replace H := Option.bind_eq_some_iff.mp H
    obtain ⟨t302, A140, H⟩ := H
    replace H : (spec_TroubleAt.j0 k a2 a3 t302 a0_0 l0_1 l0_2 a1_0 l1_1 l1_2) = some r := H
    have A14 := Q_ A140
    clear A140
    have H' := Q_ H
    clear H
    have hnb15 := NB299_300.out
    have hnc15 := NB300_299.out
    have hcz16 := bc3_ BK299.out
    have hcz17 := bc3_ BK300.out
    go_wp2_with (first | ((with_reducible refine gate_callee (f := 86) rfl ?_); refine gl_ (some 14) Try.func86 #[.agg #[.int .i64 a0_0, .slice A0_1 l0_1.length c0_1, .slice A0_2 l0_2.length c0_2], .agg #[.int .i64 a1_0, .slice A1_1 l1_1.length c1_1, .slice A1_2 l1_2.length c1_2], .int .i64 a2, .int .i64 a3] ?_; (with_reducible refine (spec_l14Unread.calls k a0_0 _ _ l0_1 _ _ l0_2 a1_0 _ _ l1_1 _ _ l1_2 a2 a3 false _ ?side1 ?side2 ?side3 ?side4 ?side5 ?side6 ?side7 ?side8 A8.out).mono ?_); (case side1 => exact cb_ HR0_1 HB); (case side2 => exact HC0_1.out); (case side3 => exact cb_ HR0_2 HB); (case side4 => exact HC0_2.out); (case side5 => exact cb_ HR1_1 HB); (case side6 => exact HC1_1.out); (case side7 => exact cb_ HR1_2 HB); (case side8 => exact HC1_2.out); rintro e w18 ⟨rfl, hb⟩; refine ⟨_, rfl, ?_⟩; have _ := Q_ (bb_ BK299.out hb); have _ := Q_ (bb_ BK300.out hb); have _ := Q_ (below_step (pb2_ HB.out GE299.out GE300.out) hb); clear BK299 BK300 HB; rename_i BK299 BK300 HB; (try clear hb); (try clear hb2); (try clear hk); (try clear hi); have hcz19 := bc3_ BK300.out; have hcz20 := bc3_ BK299.out) | (go_at_call 86; (with_reducible refine (spec_l14Unread.calls k a1_0 _ _ l1_1 _ _ l1_2 a0_0 _ _ l0_1 _ _ l0_2 a3 a2 t302 _ ?side1 ?side2 ?side3 ?side4 ?side5 ?side6 ?side7 ?side8 A14.out).mono ?_); (case side1 => exact cb_ HR1_1 HB); (case side2 => exact HC1_1.out); (case side3 => exact cb_ HR1_2 HB); (case side4 => exact HC1_2.out); (case side5 => exact cb_ HR0_1 HB); (case side6 => exact HC0_1.out); (case side7 => exact cb_ HR0_2 HB); (case side8 => exact HC0_2.out); rintro e w21 ⟨rfl, hb⟩; have _ := Q_ (bb_ BK299.out hb); have _ := Q_ (bb_ BK300.out hb); have _ := Q_ (below_step (pb2_ HB.out GE299.out GE300.out) hb); clear BK299 BK300 HB; rename_i BK299 BK300 HB; (try clear hb); (try clear hb2); (try clear hk); (try clear hi)))
    go_meet
    case rel => exact ⟨_, (t302), el_, H', ⟨by first | omega | exact Nat.le_refl _⟩, ⟨pk_ BK299.out⟩, ⟨pk_ BK300.out⟩, ⟨pb2_ HB.out GE299.out GE300.out⟩⟩
  clear HC5
  try clear c1
  try clear p2
  try clear c7
  try clear c8
  try clear c9
  try clear c10
  try clear c15
  try clear hcz11
  try clear hcz12
  try clear hcz16
  try clear hcz17
  try clear hcz19
  try clear hcz20
  obtain ⟨kq, x9_4, rfl, HA, HJ4, BK299, BK300, HB⟩ := hcut
  rcases kq with _ | kj4
  · exact absurd HA.out (by simp [spec_TroubleAt.j0])
  have H := HA.out
  clear HA
  simp only [spec_TroubleAt.j0] at H
  by_cases c22 : x9_4 = true
  · subst c22
    rw [if_pos rfl] at H
    obtain rfl := Option.some.inj H
    go_wp2
    go_ret
    exact ⟨er_, pb2_ HB.out GE299.out GE300.out⟩
  replace c22 := Bool.eq_false_iff.mpr c22
  subst c22
  rw [if_neg (show ¬ (false = true) by decide)] at H
  replace H := Option.bind_eq_some_iff.mp H
  obtain ⟨t303, A230, H⟩ := H
  (try dsimp only at H)
  have A23 := Q_ A230
  clear A230
  by_cases c24 : (t303.length : Int) = 0
  rotate_left
  · rw [if_neg c24] at H
    have c24b0 : ((t303.length : Int) == 0) = false := beq_eq_false_iff_ne.mpr c24
    have c24b1 : ((t303.length : Int) != 0) = true := bne_iff_ne.mpr c24
    have c24b2 : ¬ (t303 = []) := fun h_ => c24 (by rw [h_]; rfl)
    obtain rfl := Option.some.inj H
    have hnb25 := NB299_300.out
    have hnc25 := NB300_299.out
    have hcz26 := bc3_ BK299.out
    have hcz27 := bc3_ BK300.out
    go_wp2_with (first | ((with_reducible refine gate_callee (f := 85) rfl ?_); refine gl_ (some 27) Try.func85 #[.agg #[.int .i64 a0_0, .slice A0_1 l0_1.length c0_1, .slice A0_2 l0_2.length c0_2], .agg #[.int .i64 a1_0, .slice A1_1 l1_1.length c1_1, .slice A1_2 l1_2.length c1_2], .int .i64 a2, .int .i64 a3] ?_; (with_reducible refine (spec_NextPairs.calls kj4 a0_0 _ _ l0_1 _ _ l0_2 a1_0 _ _ l1_1 _ _ l1_2 a2 a3 t303 _ ?side1 ?side2 ?side3 ?side4 ?side5 ?side6 ?side7 ?side8 A23.out).mono ?_); (case side1 => exact cb_ HR0_1 HB); (case side2 => exact HC0_1.out); (case side3 => exact cb_ HR0_2 HB); (case side4 => exact HC0_2.out); (case side5 => exact cb_ HR1_1 HB); (case side6 => exact HC1_1.out); (case side7 => exact cb_ HR1_2 HB); (case side8 => exact HC1_2.out); rintro e w28 ⟨v304, rfl, ho0, hb⟩; refine ⟨_, rfl, ?_⟩; have _ := Q_ (Kd.S_lower ho0 (below_size (pb2_ HB.out GE299.out GE300.out))); have _ := Q_ (bb_ BK299.out hb); have _ := Q_ (bb_ BK300.out hb); have _ := Q_ (below_step (pb2_ HB.out GE299.out GE300.out) hb); clear BK299 BK300 HB; rename_i HO305 BK299 BK300 HB; (try clear hb); (try clear hb2); (try clear hk); (try clear hi); (try clear ho0); obtain ⟨Ao29, co29, eo29⟩ := Kd.S_slice HO305.out; subst eo29))
    go_ret
    exact ⟨er_, pb2_ HB.out GE299.out GE300.out⟩
  rw [if_pos c24] at H
  have c24b0 : ((t303.length : Int) == 0) = true := beq_iff_eq.mpr c24
  have c24b1 : ((t303.length : Int) != 0) = false := bne_eq_false_iff_eq.mpr c24
  clear c24
  replace H := Option.bind_eq_some_iff.mp H
  obtain ⟨t306, A300, H⟩ := H
  (try dsimp only at H)
  have A30 := Q_ A300
  clear A300
  by_cases c31 : t306 = true
  rotate_left
  · replace c31 := Bool.eq_false_iff.mpr c31
    subst c31
    rw [if_neg (show ¬ (false = true) by decide)] at H
    obtain rfl := Option.some.inj H
    have hnb32 := NB299_300.out
    have hnc32 := NB300_299.out
    have hcz33 := bc3_ BK299.out
    have hcz34 := bc3_ BK300.out
    go_wp2_with (first | ((with_reducible refine gate_callee (f := 85) rfl ?_); refine gl_ (some 27) Try.func85 #[.agg #[.int .i64 a0_0, .slice A0_1 l0_1.length c0_1, .slice A0_2 l0_2.length c0_2], .agg #[.int .i64 a1_0, .slice A1_1 l1_1.length c1_1, .slice A1_2 l1_2.length c1_2], .int .i64 a2, .int .i64 a3] ?_; (with_reducible refine (spec_NextPairs.calls kj4 a0_0 _ _ l0_1 _ _ l0_2 a1_0 _ _ l1_1 _ _ l1_2 a2 a3 t303 _ ?side1 ?side2 ?side3 ?side4 ?side5 ?side6 ?side7 ?side8 A23.out).mono ?_); (case side1 => exact cb_ HR0_1 HB); (case side2 => exact HC0_1.out); (case side3 => exact cb_ HR0_2 HB); (case side4 => exact HC0_2.out); (case side5 => exact cb_ HR1_1 HB); (case side6 => exact HC1_1.out); (case side7 => exact cb_ HR1_2 HB); (case side8 => exact HC1_2.out); rintro e w35 ⟨v304, rfl, ho0, hb⟩; refine ⟨_, rfl, ?_⟩; have _ := Q_ (Kd.S_lower ho0 (below_size (pb2_ HB.out GE299.out GE300.out))); have _ := Q_ (bb_ BK299.out hb); have _ := Q_ (bb_ BK300.out hb); have _ := Q_ (below_step (pb2_ HB.out GE299.out GE300.out) hb); clear BK299 BK300 HB; rename_i HO305 BK299 BK300 HB; (try clear hb); (try clear hb2); (try clear hk); (try clear hi); (try clear ho0); obtain ⟨Ao36, co36, eo36⟩ := Kd.S_slice HO305.out; subst eo36; have hcz37 := bc3_ BK299.out) | (go_at_call 77; (with_reducible refine (spec_l14End.calls a0_0 _ _ l0_1 _ _ l0_2 a2 false _ ?side1 ?side2 ?side3 ?side4 A30.out).mono ?_); (case side1 => exact cb_ HR0_1 HB); (case side2 => exact HC0_1.out); (case side3 => exact cb_ HR0_2 HB); (case side4 => exact HC0_2.out); rintro e w38 ⟨rfl, hb⟩; have _ := Q_ (Kd.S_below (ps_ HO305.out) hb); have _ := Q_ (bb_ BK299.out hb); have _ := Q_ (bb_ BK300.out hb); have _ := Q_ (below_step (pb2_ HB.out GE299.out GE300.out) hb); clear HO305 BK299 BK300 HB; rename_i HO305 BK299 BK300 HB; (try clear hb); (try clear hb2); (try clear hk); (try clear hi)))
    go_ret
    exact ⟨er_, pb2_ HB.out GE299.out GE300.out⟩
  subst c31
  rw [if_pos rfl] at H
  replace H := Option.bind_eq_some_iff.mp H
  obtain ⟨t307, A390, H⟩ := H
  replace H : (if t307 = true then (some 0) else (some 2)) = some r := H
  have A39 := Q_ A390
  clear A390
  have HS_ := Q_ H
  clear H
  have hnb40 := NB299_300.out
  have hnc40 := NB300_299.out
  have hcz41 := bc3_ BK299.out
  have hcz42 := bc3_ BK300.out
  go_upto_if 22 with (first | ((with_reducible refine gate_callee (f := 85) rfl ?_); refine gl_ (some 27) Try.func85 #[.agg #[.int .i64 a0_0, .slice A0_1 l0_1.length c0_1, .slice A0_2 l0_2.length c0_2], .agg #[.int .i64 a1_0, .slice A1_1 l1_1.length c1_1, .slice A1_2 l1_2.length c1_2], .int .i64 a2, .int .i64 a3] ?_; (with_reducible refine (spec_NextPairs.calls kj4 a0_0 _ _ l0_1 _ _ l0_2 a1_0 _ _ l1_1 _ _ l1_2 a2 a3 t303 _ ?side1 ?side2 ?side3 ?side4 ?side5 ?side6 ?side7 ?side8 A23.out).mono ?_); (case side1 => exact cb_ HR0_1 HB); (case side2 => exact HC0_1.out); (case side3 => exact cb_ HR0_2 HB); (case side4 => exact HC0_2.out); (case side5 => exact cb_ HR1_1 HB); (case side6 => exact HC1_1.out); (case side7 => exact cb_ HR1_2 HB); (case side8 => exact HC1_2.out); rintro e w43 ⟨v304, rfl, ho0, hb⟩; refine ⟨_, rfl, ?_⟩; have _ := Q_ (Kd.S_lower ho0 (below_size (pb2_ HB.out GE299.out GE300.out))); have _ := Q_ (bb_ BK299.out hb); have _ := Q_ (bb_ BK300.out hb); have _ := Q_ (below_step (pb2_ HB.out GE299.out GE300.out) hb); clear BK299 BK300 HB; rename_i HO305 BK299 BK300 HB; (try clear hb); (try clear hb2); (try clear hk); (try clear hi); (try clear ho0); obtain ⟨Ao44, co44, eo44⟩ := Kd.S_slice HO305.out; subst eo44; have hcz45 := bc3_ BK299.out) | (go_at_call 77; (with_reducible refine (spec_l14End.calls a0_0 _ _ l0_1 _ _ l0_2 a2 true _ ?side1 ?side2 ?side3 ?side4 A30.out).mono ?_); (case side1 => exact cb_ HR0_1 HB); (case side2 => exact HC0_1.out); (case side3 => exact cb_ HR0_2 HB); (case side4 => exact HC0_2.out); rintro e w46 ⟨rfl, hb⟩; have _ := Q_ (Kd.S_below (ps_ HO305.out) hb); have _ := Q_ (bb_ BK299.out hb); have _ := Q_ (bb_ BK300.out hb); have _ := Q_ (below_step (pb2_ HB.out GE299.out GE300.out) hb); clear HO305 BK299 BK300 HB; rename_i HO305 BK299 BK300 HB; (try clear hb); (try clear hb2); (try clear hk); (try clear hi); have hcz47 := bc3_ BK300.out) | (go_at_call 77; (with_reducible refine (spec_l14End.calls a1_0 _ _ l1_1 _ _ l1_2 a3 t307 _ ?side1 ?side2 ?side3 ?side4 A39.out).mono ?_); (case side1 => exact cb_ HR1_1 HB); (case side2 => exact HC1_1.out); (case side3 => exact cb_ HR1_2 HB); (case side4 => exact HC1_2.out); rintro e w48 ⟨rfl, hb⟩; have _ := Q_ (Kd.S_below (ps_ HO305.out) hb); have _ := Q_ (bb_ BK299.out hb); have _ := Q_ (bb_ BK300.out hb); have _ := Q_ (below_step (pb2_ HB.out GE299.out GE300.out) hb); clear HO305 BK299 BK300 HB; rename_i HO305 BK299 BK300 HB; (try clear hb); (try clear hb2); (try clear hk); (try clear hi)))
  (try simp only [Act.put, List.setIfInBounds_toArray, List.set_cons_zero, List.set_cons_succ])
  have H := HS_.out
  clear HS_
  by_cases c49 : t307 = true
  rotate_left
  · replace c49 := Bool.eq_false_iff.mpr c49
    subst c49
    rw [if_neg (show ¬ (false = true) by decide)] at H
    obtain rfl := Option.some.inj H
    go_wp2
    go_ret
    exact ⟨er_, pb2_ HB.out GE299.out GE300.out⟩
  subst c49
  rw [if_pos rfl] at H
  obtain rfl := Option.some.inj H
  go_wp2
  go_ret
  exact ⟨er_, pb2_ HB.out GE299.out GE300.out⟩

/-! ### spec_FirstTrouble: function 60 -/
def spec_FirstTrouble.l0 : Nat → List (List Int) → Int → Int → List Bool → List (S78) → Int → List Bool → List (S78) → Option (List Int)
  | 0, _, _, _, _, _, _, _, _ => none
  | k + 1, x5, x6, x309000, x309001, x309002, x310000, x310001, x310002 => if x6 < (x5.length : Int) then (if 0 ≤ x6 then (if 0 < ((rd_L9 x5 x6).length : Int) then (if 1 < ((rd_L9 x5 x6).length : Int) then ((spec_TroubleAt.f k x309000 x309001 x309002 x310000 x310001 x310002 (rd (rd_L9 x5 x6) 0) (rd (rd_L9 x5 x6) 1)).bind fun t317 => (if t317 = 0 then (spec_FirstTrouble.l0 k x5 (wrap64 (x6 + 1)) x309000 x309001 x309002 x310000 x310001 x310002) else ((some (([] : List Int) : List Int)).bind fun y318 => (if y318.length + (rd_L9 x5 x6).length < 17592186044416 then (some (y318 ++ (rd_L9 x5 x6))) else (none))))) else (none)) else (none)) else (none)) else (some (([] : List Int)))
def spec_FirstTrouble.f (k : Nat) (a0_0 : Int) (l0_1 : List Bool) (l0_2 : List (S78)) (a1_0 : Int) (l1_1 : List Bool) (l1_2 : List (S78)) : Option (List Int) := (spec_PairsOf.f k a0_0 l0_1 l0_2 a1_0 l1_1 l1_2).bind fun t310 => (spec_FirstTrouble.l0 k t310 0 a0_0 l0_1 l0_2 a1_0 l1_1 l1_2)
theorem spec_FirstTrouble.mono_l : ∀ k, (∀ y0 y1 y2 y3 y4 y5 y6 y7, LeO (spec_FirstTrouble.l0 k y0 y1 y2 y3 y4 y5 y6 y7) (spec_FirstTrouble.l0 (k + 1) y0 y1 y2 y3 y4 y5 y6 y7))
  | 0 => fun _ _ _ _ _ _ _ _ r h => by simp [spec_FirstTrouble.l0] at h
  | k + 1 => by
    have ih0 := spec_FirstTrouble.mono_l k
    · intro y0 y1 y2 y3 y4 y5 y6 y7
      unfold spec_FirstTrouble.l0
      exact mo3_ ih0 spec_PairsOf.mono spec_TroubleAt.mono
theorem spec_FirstTrouble.mono : ∀ a0 a1 a2 a3 a4 a5 k, LeO (spec_FirstTrouble.f k a0 a1 a2 a3 a4 a5) (spec_FirstTrouble.f (k + 1) a0 a1 a2 a3 a4 a5) := by
  intro a0 a1 a2 a3 a4 a5 k
  have ih0 := spec_FirstTrouble.mono_l k
  unfold spec_FirstTrouble.f
  exact mo3_ ih0 spec_PairsOf.mono spec_TroubleAt.mono
def spec_FirstTrouble.T5 : Bool × List (List Nat × List Nat) := (true, [([], []), ([], []), ([], []), ([], []), ([2, 3], [2, 3]), ([4], [4]), ([5], [5]), ([6], [6]), ([], []), ([], []), ([8, 9], [8, 9]), ([10], [10]), ([11], [11]), ([12], [12]), ([0, 1, 7, 13], [0, 1, 7, 13]), ([14], [14])])
def spec_FirstTrouble.B5 : List Nat := [0, 0, 0, 0, 12, 28, 60, 124, 0, 0, 768, 1792, 3840, 7936, 16383, 32767]
theorem spec_FirstTrouble.tab5 : rtab .any (opsOf Try.f60 5) = spec_FirstTrouble.T5 := by kernel_rfl
theorem spec_FirstTrouble.bits5 : waitsOk spec_FirstTrouble.T5.2 spec_FirstTrouble.B5 = true := by kernel_rfl
set_option maxHeartbeats 8000000 in
set_option maxRecDepth 100000 in
theorem spec_FirstTrouble.calls (k : Nat) (a0_0 : Int) (A0_1 : Option Addr) (c0_1 : Nat) (l0_1 : List Bool) (A0_2 : Option Addr) (c0_2 : Nat) (l0_2 : List (S78)) (a1_0 : Int) (A1_1 : Option Addr) (c1_1 : Nat) (l1_1 : List Bool) (A1_2 : Option Addr) (c1_2 : Nat) (l1_2 : List (S78)) (r : List Int) (w : World) (hr0_1 : Kd.C Kd.bool w A0_1 l0_1.length l0_1) (hc0_1 : l0_1.length ≤ c0_1) (hr0_2 : Kd.C k78 w A0_2 l0_2.length l0_2) (hc0_2 : l0_2.length ≤ c0_2) (hr1_1 : Kd.C Kd.bool w A1_1 l1_1.length l1_1) (hc1_1 : l1_1.length ≤ c1_1) (hr1_2 : Kd.C k78 w A1_2 l1_2.length l1_2) (hc1_2 : l1_2.length ≤ c1_2) (h : spec_FirstTrouble.f k a0_0 l0_1 l0_2 a1_0 l1_1 l1_2 = some r) :
    Calls Try.prog 60 #[.agg #[.int .i64 a0_0, .slice A0_1 l0_1.length c0_1, .slice A0_2 l0_2.length c0_2], .agg #[.int .i64 a1_0, .slice A1_1 l1_1.length c1_1, .slice A1_2 l1_2.length c1_2]] w fun e w' => ∃ v0_ : Value, e = .returned (v0_) ∧ Kd.R (Kd.int .i64) 3 w' w.heap.size (fun _ => True) v0_ r ∧ Below w.heap.size w w' := by
  have hu34 := Try.underlying34
  have HR0_1 := Q_ hr0_1
  have HC0_1 := Q_ hc0_1
  clear hr0_1 hc0_1
  have HR0_2 := Q_ hr0_2
  have HC0_2 := Q_ hc0_2
  clear hr0_2 hc0_2
  have HR1_1 := Q_ hr1_1
  have HC1_1 := Q_ hc1_1
  clear hr1_1 hc1_1
  have HR1_2 := Q_ hr1_2
  have HC1_2 := Q_ hc1_2
  clear hr1_2 hc1_2
  have HB := Q_ (Below.refl w.heap.size w)
  have H : ((spec_PairsOf.f k a0_0 l0_1 l0_2 a1_0 l1_1 l1_2).bind fun t310 => (spec_FirstTrouble.l0 k t310 0 a0_0 l0_1 l0_2 a1_0 l1_1 l1_2)) = some r := h
  clear h
  replace H := Option.bind_eq_some_iff.mp H
  obtain ⟨t310, A30, H⟩ := H
  replace H : (spec_FirstTrouble.l0 k t310 0 a0_0 l0_1 l0_2 a1_0 l1_1 l1_2) = some r := H
  have A3 := Q_ A30
  clear A30
  have H' := Q_ H
  clear H
  go_enter Try.func60, Try.ntmps60
  go_wp2_with (first | ((with_reducible refine gate_dst (N := 2) rfl ?_); refine box_event ?hg (N := 2) ?hd (cs := #[.int .i64 a0_0, .slice A0_1 l0_1.length c0_1, .slice A0_2 l0_2.length c0_2]) (t := 34) ?hr ?_; (case hd => rfl); (case hg => rfl); (case hr => first | (go_simp; done) | (go_simp; rfl)); intro gb308 hg w4 hbox hb; have n0_ := Q_ (below_step (pb_ HB.out) hb); have n1_ := Q_ (hbox); have n2_ := Q_ ((by rw [hg]; exact (below_size (pb_ HB.out)) : w.heap.size ≤ gb308)); have n3_ := n2_; clear HB; have HB := n0_; have BK308 := n1_; have GW308 := n2_; have GE308 := n3_; clear n0_ n1_ n2_ n3_; clear hb hbox hg) | ((with_reducible refine gate_dst (N := 3) rfl ?_); refine box_event ?hg (N := 3) ?hd (cs := #[.int .i64 a1_0, .slice A1_1 l1_1.length c1_1, .slice A1_2 l1_2.length c1_2]) (t := 34) ?hr ?_; (case hd => rfl); (case hg => rfl); (case hr => first | (go_simp; done) | (go_simp; rfl)); intro gb309 hg w5 hbox hb; have n0_ := Q_ (bb_ BK308.out hb); have n1_ := Q_ (below_step (pb1_ HB.out GE308.out) hb); have n2_ := Q_ (hbox); have n3_ := Q_ ((by rw [hg]; exact (below_size (pb1_ HB.out GE308.out)) : w.heap.size ≤ gb309)); have n4_ := n3_; have n5_ := Q_ ((by rw [hg]; exact Nat.ne_of_lt (blk_lt (pk_ BK308.out)) : gb308 ≠ gb309)); have n6_ := Q_ ((by rw [hg]; exact Nat.ne_of_gt (blk_lt (pk_ BK308.out)) : gb309 ≠ gb308)); clear BK308; clear HB; have BK308 := n0_; have HB := n1_; have BK309 := n2_; have GW309 := n3_; have GE309 := n4_; have NB308_309 := n5_; have NB309_308 := n6_; clear n0_ n1_ n2_ n3_ n4_ n5_ n6_; clear hb hbox hg; have hnb6 := NB308_309.out; have hnc6 := NB309_308.out; have hcz7 := bc3_ BK308.out; have hcz8 := bc3_ BK309.out) | ((with_reducible refine gate_callee (f := 71) rfl ?_); refine gl_ (some 9) Try.func71 #[.agg #[.int .i64 a0_0, .slice A0_1 l0_1.length c0_1, .slice A0_2 l0_2.length c0_2], .agg #[.int .i64 a1_0, .slice A1_1 l1_1.length c1_1, .slice A1_2 l1_2.length c1_2]] ?_; (with_reducible refine (spec_PairsOf.calls k a0_0 _ _ l0_1 _ _ l0_2 a1_0 _ _ l1_1 _ _ l1_2 t310 _ ?side1 ?side2 ?side3 ?side4 ?side5 ?side6 ?side7 ?side8 A3.out).mono ?_); (case side1 => exact cb_ HR0_1 HB); (case side2 => exact HC0_1.out); (case side3 => exact cb_ HR0_2 HB); (case side4 => exact HC0_2.out); (case side5 => exact cb_ HR1_1 HB); (case side6 => exact HC1_1.out); (case side7 => exact cb_ HR1_2 HB); (case side8 => exact HC1_2.out); rintro e w9 ⟨v311, rfl, ho0, hb⟩; refine ⟨_, rfl, ?_⟩; have _ := Q_ (Kd.N_lower (Kd.N_mono (ok' := fun k_ => k_ ≠ gb308 ∧ k_ ≠ gb309) ho0 (fun k_ hk_ => ⟨(Kd.freshB (g := gb308) (o := .cells #[.int .i64 a0_0, .slice A0_1 l0_1.length c0_1, .slice A0_2 l0_2.length c0_2] 34 (0, 0)) (pk_ BK308.out) k_ hk_), (Kd.freshB (g := gb309) (o := .cells #[.int .i64 a1_0, .slice A1_1 l1_1.length c1_1, .slice A1_2 l1_2.length c1_2] 34 (0, 0)) (pk_ BK309.out) k_ hk_)⟩)) (below_size (pb2_ HB.out GE308.out GE309.out))); have _ := Q_ (bb_ BK308.out hb); have _ := Q_ (bb_ BK309.out hb); have _ := Q_ (below_step (pb2_ HB.out GE308.out GE309.out) hb); clear BK308 BK309 HB; rename_i HO312 BK308 BK309 HB; (try clear hb); (try clear hb2); (try clear hk); (try clear hi); (try clear ho0)))
  (try simp only [Act.put, List.setIfInBounds_toArray, List.set_cons_zero, List.set_cons_succ])
  go_loopg [6] k (fun kq v6 w' => ∃ (x6_1 : Int), v6 = .int .i64 x6_1 ∧ Aside0 (spec_FirstTrouble.l0 kq t310 x6_1 a0_0 l0_1 l0_2 a1_0 l1_1 l1_2 = some r) ∧ Aside0 (kq ≤ k) ∧ Aside0 (Kd.N (Kd.slice 3 (Kd.int .i64)) 39 w' w.heap.size (fun k_ => k_ ≠ gb308 ∧ k_ ≠ gb309) v311 t310) ∧ Aside0 (w'.heap[gb308]? = some (.cells #[.int .i64 a0_0, (.slice A0_1 l0_1.length c0_1), (.slice A0_2 l0_2.length c0_2)] 34 (0, 0))) ∧ Aside0 (w'.heap[gb309]? = some (.cells #[.int .i64 a1_0, (.slice A1_1 l1_1.length c1_1), (.slice A1_2 l1_2.length c1_2)] 34 (0, 0))) ∧ Aside0 (Below w.heap.size w w'))
  case atStart => exact ⟨(0), el_, H', ⟨Nat.le_refl _⟩, ⟨by (with_reducible repeat (first | apply Kd.N_alloc | apply Kd.N_drewN | apply Kd.N_drew)); exact HO312.out⟩, ⟨pk_ BK308.out⟩, ⟨pk_ BK309.out⟩, ⟨pb2_ HB.out GE308.out GE309.out⟩⟩
  clear H'
  try clear c1
  try clear p2
  try clear c6
  try clear c7
  try clear hcz7
  try clear hcz8
  obtain ⟨x6_1, rfl, HA, HK1, HO_5, BK308, BK309, HB⟩ := hrel
  rcases gk with _ | k1
  · exact absurd HA.out (by simp [spec_FirstTrouble.l0])
  have H := HA.out
  clear HA
  simp only [spec_FirstTrouble.l0] at H
  by_cases c10 : x6_1 < (t310.length : Int)
  rotate_left
  · rw [if_neg c10] at H
    have c10b0 : decide (x6_1 < (t310.length : Int)) = false := decide_eq_false c10
    clear c10
    obtain ⟨y325, hy325⟩ : ∃ y_ : List Int, y_ = (([] : List Int)) := ⟨_, rfl⟩
    replace H : (some y325) = some r := by first | (rw [hy325]; with_reducible exact H) | (have H2_ := (Option.bind_some _ _).symm.trans H; rw [hy325]; with_reducible exact H2_) | (have H2_ := (Option.bind_some _ _).symm.trans H; with_reducible exact H2_) | with_reducible exact H | (rw [hy325]; exact H) | exact H
    have Ny325 := Q_ hy325
    clear hy325
    obtain rfl := Option.some.inj H
    obtain ⟨Ao11, co11, eo11⟩ := Kd.N_slice HO_5.out
    subst eo11
    go_wp2_with (first | ((with_reducible refine gate_dst (N := 38) rfl ?_); refine Kd.R_lit (Kd.int .i64) _ 3 ?hg (N := 38) ?hd (xs := ([] : List Int)) (inner := []) (ok := fun _ => True) (okp := fun _ => True) ?hr ?hp (fun _ hk => hk) trivial (Below.refl _ _) (Nat.le_refl _) (by simp) ?_; (case hd => rfl); (case hg => rfl); (case hr => first | (go_simp; done) | (go_simp; rfl)); (case hp => exact (Reps.none _ _)); intro v326 w12 ho13 hb hg_ hnew_; clear hg_ hnew_; (first | rw [← Ny325.out] at ho13 | (simp only [Int.reduceToNat] at ho13; rw [← Ny325.out] at ho13)); have n0_ := Q_ (Kd.N_elder' (by (with_reducible repeat (first | apply Kd.N_alloc | apply Kd.N_drewN | apply Kd.N_drew)); exact HO_5.out) (Kd.R_base ho13) hb); have n1_ := Q_ (Kd.R_lower ho13 (below_size (pb2_ HB.out GE308.out GE309.out))); have n2_ := Q_ (bb_ BK308.out hb); have n3_ := Q_ (bb_ BK309.out hb); have n4_ := Q_ (below_step (pb2_ HB.out GE308.out GE309.out) hb); clear HO_5; clear BK308; clear BK309; clear HB; have HO_5 := n0_; have HO327 := n1_; have BK308 := n2_; have BK309 := n3_; have HB := n4_; clear n0_ n1_ n2_ n3_ n4_; clear hb ho13))
    go_ret
    exact ⟨_, er_, pr_ HO327.out, pb2_ HB.out GE308.out GE309.out⟩
  rw [if_pos c10] at H
  have c10b0 : decide (x6_1 < (t310.length : Int)) = true := decide_eq_true c10
  clear c10
  by_cases c14 : 0 ≤ x6_1
  rotate_left
  · rw [if_neg c14] at H
    exact absurd H (by simp)
  rw [if_pos c14] at H
  have c14b0 : decide (0 ≤ x6_1) = true := decide_eq_true c14
  clear c14
  by_cases c15 : 0 < ((rd_L9 t310 x6_1).length : Int)
  rotate_left
  · rw [if_neg c15] at H
    exact absurd H (by simp)
  rw [if_pos c15] at H
  have c15b0 : decide (0 < ((rd_L9 t310 x6_1).length : Int)) = true := decide_eq_true c15
  have c15b1 : decide (0 < (rd_L9 t310 x6_1).length) = true := decide_eq_true (by omega)
  clear c15
  by_cases c16 : 1 < ((rd_L9 t310 x6_1).length : Int)
  rotate_left
  · rw [if_neg c16] at H
    exact absurd H (by simp)
  rw [if_pos c16] at H
  have c16b0 : decide (1 < ((rd_L9 t310 x6_1).length : Int)) = true := decide_eq_true c16
  have c16b1 : decide (1 < (rd_L9 t310 x6_1).length) = true := decide_eq_true (by omega)
  clear c16
  replace H := Option.bind_eq_some_iff.mp H
  obtain ⟨t317, A170, H⟩ := H
  (try dsimp only at H)
  have A17 := Q_ A170
  clear A170
  have HS_ := Q_ H
  clear H
  obtain ⟨Ao18, co18, eo18⟩ := Kd.N_slice HO_5.out
  subst eo18
  try go_wp2
  have _ := Q_ (Kd.N_drew HO_5.out)
  have _ := Q_ (blk_drew BK308.out)
  have _ := Q_ (blk_drew BK309.out)
  have _ := Q_ (below_drew1 HB.out)
  clear HO_5 BK308 BK309 HB
  rename_i HO_5 BK308 BK309 HB
  have p313 : 0 ≤ (x6_1 : Int) := dt_
  have q313 : x6_1 < (t310.length : Int) := dt_
  obtain ⟨ad313, A313_0, c313_0, e313, hx313_0, hl313_0, hi313_0⟩ := at_L9 (Kd.N_reads' HO_5.out).2.2 x6_1 p313 q313
  cases e313
  obtain ⟨ce313, hce313, hMe313, hcc313⟩ := Kd.N_get HO_5.out [] x6_1 p313 (by first | exact q313 | exact dt_ | (have e_ := (Kd.N_reads' HO_5.out).1; omega))
  obtain ⟨ua313_0, uc313_0, rfl, ul313_0, ge313_0⟩ := Kd.FK_slice_open hMe313
  have hv313_0 := hcc313 0 _ rfl
  rw [Nat.add_zero, show ((Kd.slice 3 (Kd.int .i64))).sz = 1 from rfl, Nat.mul_one] at hv313_0
  replace hv313_0 := Option.some.inj (hv313_0.symm.trans hx313_0)
  injection hv313_0 with hva_ hvn_ hvc_
  rw [hva_] at ge313_0
  rw [hvc_] at ul313_0
  have HL313_0 := Q_ (show Kd.V (Kd.int .i64) 3 _ w.heap.size _ _ (rd_L9 t310 x6_1) from Kd.V_mk ul313_0 ge313_0)
  clear hva_ hvn_ hvc_ ge313_0 ul313_0
  clear hcc313 hce313
  have HR313_0 := Q_ hi313_0
  have HC313_0 := Q_ hl313_0
  clear hi313_0 hl313_0
  replace p313 := eq_true p313
  replace q313 := eq_true q313
  have p314 : 0 ≤ (0 : Int) := (by omega)
  have q314 : 0 < ((rd_L9 t310 x6_1).length : Int) := dt_
  obtain ⟨ad314, e314, hx314_0⟩ := Kd.at_int (by repeat (first | (with_reducible exact HR313_0.out) | (with_reducible refine Kd.C_alloc ?_ _) | (with_reducible refine Kd.C_drewN ?_ _) | (with_reducible refine Kd.C_drew ?_) | exact HR313_0.out)) 0 p314 q314
  cases e314
  have qi314 : (0 < (rd_L9 t310 x6_1).length) = True := eq_true (by omega)
  (try rw [show ((0 : Int)).toNat = 0 from rfl] at hx314_0)
  (try rw [Addr.add_zero'] at hx314_0)
  replace p314 := eq_true p314
  replace q314 := eq_true q314
  have p315 : 0 ≤ (x6_1 : Int) := dt_
  have q315 : x6_1 < (t310.length : Int) := dt_
  obtain ⟨ad315, A315_0, c315_0, e315, hx315_0, hl315_0, hi315_0⟩ := at_L9 (Kd.N_reads' HO_5.out).2.2 x6_1 p315 q315
  obtain rfl : ad313 = ad315 := (by injection e315)
  obtain ⟨ce315, hce315, hMe315, hcc315⟩ := Kd.N_get HO_5.out [] x6_1 p315 (by first | exact q315 | exact dt_ | (have e_ := (Kd.N_reads' HO_5.out).1; omega))
  obtain ⟨ua315_0, uc315_0, rfl, ul315_0, ge315_0⟩ := Kd.FK_slice_open hMe315
  have hv315_0 := hcc315 0 _ rfl
  rw [Nat.add_zero, show ((Kd.slice 3 (Kd.int .i64))).sz = 1 from rfl, Nat.mul_one] at hv315_0
  replace hv315_0 := Option.some.inj (hv315_0.symm.trans hx315_0)
  injection hv315_0 with hva_ hvn_ hvc_
  rw [hva_] at ge315_0
  rw [hvc_] at ul315_0
  have HL315_0 := Q_ (show Kd.V (Kd.int .i64) 3 _ w.heap.size _ _ (rd_L9 t310 x6_1) from Kd.V_mk ul315_0 ge315_0)
  clear hva_ hvn_ hvc_ ge315_0 ul315_0
  clear hcc315 hce315
  have HR315_0 := Q_ hi315_0
  have HC315_0 := Q_ hl315_0
  clear hi315_0 hl315_0
  replace p315 := eq_true p315
  replace q315 := eq_true q315
  have ea_ := Option.some.inj (hx313_0.symm.trans hx315_0)
  injection ea_ with ea_ en_ ec_
  subst ea_
  subst ec_
  clear en_
  have p316 : 0 ≤ (1 : Int) := (by omega)
  have q316 : 1 < ((rd_L9 t310 x6_1).length : Int) := dt_
  obtain ⟨ad316, e316, hx316_0⟩ := Kd.at_int (by repeat (first | (with_reducible exact HR315_0.out) | (with_reducible refine Kd.C_alloc ?_ _) | (with_reducible refine Kd.C_drewN ?_ _) | (with_reducible refine Kd.C_drew ?_) | exact HR315_0.out)) 1 p316 q316
  cases e316
  (try simp only [show (1 : Int).toNat = 1 from rfl, Nat.reduceMul, Nat.reduceEqDiff, Go.Addr.add, ↓reduceIte] at hx316_0)
  have qi316 : (1 < (rd_L9 t310 x6_1).length) = True := eq_true (by omega)
  (try rw [show ((1 : Int)).toNat = 1 from rfl] at hx316_0)
  replace p316 := eq_true p316
  replace q316 := eq_true q316
  refine start_ (n := 16) (S := fun w' => w'.cell? ⟨gb308, 0, none⟩ = some (.int .i64 a0_0) ∧ w'.cell? ⟨gb308, 1, none⟩ = some (.slice A0_1 l0_1.length c0_1) ∧ w'.cell? ⟨gb308, 2, none⟩ = some (.slice A0_2 l0_2.length c0_2) ∧ w'.cell? ⟨gb309, 0, none⟩ = some (.int .i64 a1_0) ∧ w'.cell? ⟨gb309, 1, none⟩ = some (.slice A1_1 l1_1.length c1_1) ∧ w'.cell? ⟨gb309, 2, none⟩ = some (.slice A1_2 l1_2.length c1_2) ∧ w'.cell? (ad313.add (x6_1).toNat) = some (.slice (some ad314) (rd_L9 t310 x6_1).length c313_0) ∧ w'.cell? ad314 = some (.int .i64 (rd (rd_L9 t310 x6_1) 0)) ∧ w'.cell? (ad313.add (x6_1).toNat) = some (.slice (some ad314) (rd_L9 t310 x6_1).length c313_0) ∧ w'.cell? ⟨ad314.block, ad314.off + 1, none⟩ = some (.int .i64 (rd (rd_L9 t310 x6_1) 1))) (ds := []) (tf_ 0 16) (by kernel_rfl) rfl rfl ⟨(blk_cell BK308.out 0).trans rfl, (blk_cell BK308.out 1).trans rfl, (blk_cell BK308.out 2).trans rfl, (blk_cell BK309.out 0).trans rfl, (blk_cell BK309.out 1).trans rfl, (blk_cell BK309.out 2).trans rfl, hx313_0, hx314_0, hx315_0, hx316_0⟩ (fun hHeld => ?_); refine with_tabW spec_FirstTrouble.tab5 spec_FirstTrouble.bits5 (fun HT_ HW_ => ?_)
  generalize wr.drew = w19 at HO_5 BK308 BK309 HB HL313_0 HL315_0 HR313_0 HR315_0 hx313_0 hx314_0 hx315_0 hx316_0 hHeld ⊢
  refine pu_ 2 (some 18) (tm_ 16 4) HT_ ?_
  refine pu_ 3 (some 19) (tm_ 16 12) HT_ ?_
  refine pu_ 4 (some 20) (tm_ 16 28) HT_ ?_
  refine pu_ 8 (some 24) (tm_ 16 284) HT_ ?_
  refine pu_ 9 (some 25) (tm_ 16 796) HT_ ?_
  refine pu_ 10 (some 26) (tm_ 16 1820) HT_ ?_
  refine ta_ 0 (some 16) (tm_ 16 1821) HT_ HW_ hHeld ?_
  refine ta_ 1 (some 17) (tm_ 16 1823) HT_ HW_ hHeld ?_
  refine ta_ 5 (some 21) (tm_ 16 1855) HT_ HW_ hHeld ?_
  refine pu_ 6 (some 22) (tm_ 16 1919) HT_ ?_
  refine ta_ 7 (some 23) (tf_ 11 16) HT_ HW_ hHeld ?_
  refine ta_ 11 (some 27) (tf_ 12 16) HT_ HW_ hHeld ?_
  refine pu_ 12 (some 28) (tf_ 13 16) HT_ ?_
  refine ta_ 13 (some 29) (tf_ 14 16) HT_ HW_ hHeld ?_
  refine on_ 14 (some 30) (tf_ 15 16) HT_ (fun K hK => ?_)
  refine goes_ Try.func72 (by kernel_rfl) rfl #[.agg #[.int .i64 a0_0, .slice A0_1 l0_1.length c0_1, .slice A0_2 l0_2.length c0_2], .agg #[.int .i64 a1_0, .slice A1_1 l1_1.length c1_1, .slice A1_2 l1_2.length c1_2], .int .i64 (rd (rd_L9 t310 x6_1) 0), .int .i64 (rd (rd_L9 t310 x6_1) 1)] (by rfl) rfl rfl mp_ ?_
  with_reducible refine (spec_TroubleAt.calls k1 a0_0 _ _ l0_1 _ _ l0_2 a1_0 _ _ l1_1 _ _ l1_2 (rd (rd_L9 t310 x6_1) 0) (rd (rd_L9 t310 x6_1) 1) t317 _ ?side1 ?side2 ?side3 ?side4 ?side5 ?side6 ?side7 ?side8 A17.out).mono ?_
  (case side1 => exact cb_ HR0_1 HB)
  (case side2 => exact HC0_1.out)
  (case side3 => exact cb_ HR0_2 HB)
  (case side4 => exact HC0_2.out)
  (case side5 => exact cb_ HR1_1 HB)
  (case side6 => exact HC1_1.out)
  (case side7 => exact cb_ HR1_2 HB)
  (case side8 => exact HC1_2.out)
  rintro e w20 ⟨rfl, hb⟩
  have HS6_ := (hb.cell (World.block_lt_of_cell? _ _ (hHeld.2.2.2.2.2.2.1))).trans (hHeld.2.2.2.2.2.2.1)
  have HS7_ := (hb.cell (World.block_lt_of_cell? _ _ (hHeld.2.2.2.2.2.2.2.1))).trans (hHeld.2.2.2.2.2.2.2.1)
  have HS8_ := (hb.cell (World.block_lt_of_cell? _ _ (hHeld.2.2.2.2.2.2.2.2.1))).trans (hHeld.2.2.2.2.2.2.2.2.1)
  have HS9_ := (hb.cell (World.block_lt_of_cell? _ _ (hHeld.2.2.2.2.2.2.2.2.2))).trans (hHeld.2.2.2.2.2.2.2.2.2)
  refine ⟨_, rfl, ?_⟩
  have _ := Q_ (Kd.N_below (by (with_reducible repeat (first | apply Kd.N_alloc | apply Kd.N_drewN | apply Kd.N_drew)); exact HO_5.out) hb)
  have _ := Q_ (Kd.V_below (by (with_reducible repeat (first | apply Kd.V_alloc | apply Kd.V_drewN | apply Kd.V_drew)); exact HL313_0.out) hb)
  have _ := Q_ (Kd.V_below (by (with_reducible repeat (first | apply Kd.V_alloc | apply Kd.V_drewN | apply Kd.V_drew)); exact HL315_0.out) hb)
  have _ := Q_ (bb_ BK308.out hb)
  have _ := Q_ (bb_ BK309.out hb)
  have _ := Q_ (Kd.C_below (by repeat (first | (with_reducible exact HR313_0.out) | (with_reducible refine Kd.C_alloc ?_ _) | (with_reducible refine Kd.C_drewN ?_ _) | (with_reducible refine Kd.C_drew ?_) | exact HR313_0.out)) hb)
  have _ := Q_ (Kd.C_below (by repeat (first | (with_reducible exact HR315_0.out) | (with_reducible refine Kd.C_alloc ?_ _) | (with_reducible refine Kd.C_drewN ?_ _) | (with_reducible refine Kd.C_drew ?_) | exact HR315_0.out)) hb)
  have _ := Q_ (below_step (pb2_ HB.out GE308.out GE309.out) hb)
  clear HO_5 HL313_0 HL315_0 BK308 BK309 HR313_0 HR315_0 HB
  rename_i HO_5 HL313_0 HL315_0 BK308 BK309 HR313_0 HR315_0 HB
  (try clear hb)
  (try clear hb2)
  (try clear hk)
  (try clear hi)
  refine hK.out _ _ ⟨(blk_cell BK308.out 0).trans rfl, (blk_cell BK308.out 1).trans rfl, (blk_cell BK308.out 2).trans rfl, (blk_cell BK309.out 0).trans rfl, (blk_cell BK309.out 1).trans rfl, (blk_cell BK309.out 2).trans rfl, HS6_, HS7_, HS8_, HS9_⟩ (fun hHeld => ?_)
  clear hK K
  refine no_ (some 30) ?_
  refine pu_ 15 (some 31) (tf_ 16 16) HT_ ?_
  refine done_ (done_of HT_.out (by kernel_rfl)) ?_
  go_upto_if 31 with (fail)
  have H := HS_.out
  clear HS_
  by_cases c21 : t317 = 0
  · rw [if_pos c21] at H
    have c21b0 : (t317 == 0) = true := beq_iff_eq.mpr c21
    have c21b1 : (t317 != 0) = false := bne_eq_false_iff_eq.mpr c21
    clear c21
    (first | rw [c21b0] | (simp only [i64_w, i32_w]; rw [c21b0]) | rw [c21b1] | (have c_ := c21b1; rw [bne] at c_; rw [c_]; clear c_) | skip)
    have H' := Q_ H
    clear H
    go_wp2
    go_roundg k1
    case measure => have := HK1.out; omega
    case rel => exact ⟨(wrap64 (x6_1 + 1)), el_, H', ⟨by have := HK1.out; omega⟩, ⟨by (with_reducible repeat (first | apply Kd.N_alloc | apply Kd.N_drewN | apply Kd.N_drew)); exact HO_5.out⟩, ⟨pk_ BK308.out⟩, ⟨pk_ BK309.out⟩, ⟨pb2_ HB.out GE308.out GE309.out⟩⟩
  rw [if_neg c21] at H
  have c21b0 : (t317 == 0) = false := beq_eq_false_iff_ne.mpr c21
  have c21b1 : (t317 != 0) = true := bne_iff_ne.mpr c21
  (first | rw [c21b0] | (simp only [i64_w, i32_w]; rw [c21b0]) | rw [c21b1] | (have c_ := c21b1; rw [bne] at c_; rw [c_]; clear c_) | skip)
  obtain ⟨y318, hy318⟩ : ∃ y_ : List Int, y_ = (([] : List Int)) := ⟨_, rfl⟩
  replace H : (if y318.length + (rd_L9 t310 x6_1).length < 17592186044416 then (some (y318 ++ (rd_L9 t310 x6_1))) else (none)) = some r := by first | (rw [hy318]; with_reducible exact H) | (have H2_ := (Option.bind_some _ _).symm.trans H; rw [hy318]; with_reducible exact H2_) | (have H2_ := (Option.bind_some _ _).symm.trans H; with_reducible exact H2_) | with_reducible exact H | (rw [hy318]; exact H) | exact H
  have Ny318 := Q_ hy318
  clear hy318
  by_cases c22 : y318.length + (rd_L9 t310 x6_1).length < 17592186044416
  rotate_left
  · rw [if_neg c22] at H
    exact absurd H (by simp)
  rw [if_pos c22] at H
  have LMc22 := Q_ c22
  clear c22
  obtain ⟨y322, hy322⟩ : ∃ y_ : List Int, y_ = (y318 ++ (rd_L9 t310 x6_1)) := ⟨_, rfl⟩
  replace H : (some y322) = some r := by first | (rw [hy322]; with_reducible exact H) | (have H2_ := (Option.bind_some _ _).symm.trans H; rw [hy322]; with_reducible exact H2_) | (have H2_ := (Option.bind_some _ _).symm.trans H; with_reducible exact H2_) | with_reducible exact H | (rw [hy322]; exact H) | exact H
  have Ny322 := Q_ hy322
  clear hy322
  obtain rfl := Option.some.inj H
  go_wp2_with (first | ((with_reducible refine gate_dst (N := 32) rfl ?_); refine Kd.R_lit (Kd.int .i64) _ 3 ?hg (N := 32) ?hd (xs := ([] : List Int)) (inner := []) (ok := fun _ => True) (okp := fun _ => True) ?hr ?hp (fun _ hk => hk) trivial (Below.refl _ _) (Nat.le_refl _) (by simp) ?_; (case hd => rfl); (case hg => rfl); (case hr => first | (go_simp; done) | (go_simp; rfl)); (case hp => exact (Reps.none _ _)); intro v319 w23 ho24 hb hg_ hnew_; clear hg_ hnew_; (first | rw [← Ny318.out] at ho24 | (simp only [Int.reduceToNat] at ho24; rw [← Ny318.out] at ho24)); have n0_ := Q_ (Kd.N_elder' (by (with_reducible repeat (first | apply Kd.N_alloc | apply Kd.N_drewN | apply Kd.N_drew)); exact HO_5.out) (Kd.R_base ho24) hb); have n1_ := Q_ (Kd.V_elder' (by (with_reducible repeat (first | apply Kd.V_alloc | apply Kd.V_drewN | apply Kd.V_drew)); exact HL313_0.out) (Kd.R_base ho24) hb); have n2_ := Q_ (Kd.V_elder' (by (with_reducible repeat (first | apply Kd.V_alloc | apply Kd.V_drewN | apply Kd.V_drew)); exact HL315_0.out) (Kd.R_base ho24) hb); have n3_ := Q_ (Kd.R_lower ho24 (below_size (pb2_ HB.out GE308.out GE309.out))); have n4_ := Q_ (bb_ BK308.out hb); have n5_ := Q_ (bb_ BK309.out hb); have n6_ := Q_ (Kd.C_below (by repeat (first | (with_reducible exact HR313_0.out) | (with_reducible refine Kd.C_alloc ?_ _) | (with_reducible refine Kd.C_drewN ?_ _) | (with_reducible refine Kd.C_drew ?_) | exact HR313_0.out)) hb); have n7_ := Q_ (Kd.C_below (by repeat (first | (with_reducible exact HR315_0.out) | (with_reducible refine Kd.C_alloc ?_ _) | (with_reducible refine Kd.C_drewN ?_ _) | (with_reducible refine Kd.C_drew ?_) | exact HR315_0.out)) hb); have n8_ := Q_ (below_step (pb2_ HB.out GE308.out GE309.out) hb); clear HO_5; clear HL313_0; clear HL315_0; clear BK308; clear BK309; clear HR313_0; clear HR315_0; clear HB; have HO_5 := n0_; have HL313_0 := n1_; have HL315_0 := n2_; have HO320 := n3_; have BK308 := n4_; have BK309 := n5_; have HR313_0 := n6_; have HR315_0 := n7_; have HB := n8_; clear n0_ n1_ n2_ n3_ n4_ n5_ n6_ n7_ n8_; clear hb ho24; have p321 : 0 ≤ (x6_1 : Int) := dt_; have q321 : x6_1 < (t310.length : Int) := dt_; obtain ⟨ad321, A321_0, c321_0, e321, hx321_0, hl321_0, hi321_0⟩ := at_L9 (Kd.N_reads' HO_5.out).2.2 x6_1 p321 q321; obtain rfl : ad313 = ad321 := (by injection e321); obtain ⟨ce321, hce321, hMe321, hcc321⟩ := Kd.N_get HO_5.out [] x6_1 p321 (by first | exact q321 | exact dt_ | (have e_ := (Kd.N_reads' HO_5.out).1; omega)); obtain ⟨ua321_0, uc321_0, rfl, ul321_0, ge321_0⟩ := Kd.FK_slice_open hMe321; have hv321_0 := hcc321 0 _ rfl; rw [Nat.add_zero, show ((Kd.slice 3 (Kd.int .i64))).sz = 1 from rfl, Nat.mul_one] at hv321_0; replace hv321_0 := Option.some.inj (hv321_0.symm.trans hx321_0); injection hv321_0 with hva_ hvn_ hvc_; rw [hva_] at ge321_0; rw [hvc_] at ul321_0; have HL321_0 := Q_ (show Kd.V (Kd.int .i64) 3 _ w.heap.size _ _ (rd_L9 t310 x6_1) from Kd.V_mk ul321_0 ge321_0); clear hva_ hvn_ hvc_ ge321_0 ul321_0; clear hcc321 hce321; have HR321_0 := Q_ hi321_0; have HC321_0 := Q_ hl321_0; clear hi321_0 hl321_0; replace p321 := eq_true p321; replace q321 := eq_true q321) | ((with_reducible refine gate_builtin (b := .append) (xs := #[.tmp 32, .tmp 36]) rfl ?_); at_builtin; refine Kd.R_append_rows (Kd.int .i64) (w0 := w) w.heap.size rfl (.tmp 32) (.tmp 36) 39 3 (.int .i64 0) 8 rfl Try.underlying39 info3 rfl (by decide) (by omega) v319 y318 (rd_L9 t310 x6_1) _ _ _ (fun _ => True) (fun _ => False) rfl rfl ?aO ?aR (fun _ _ h => h) (fun _ h => h.elim) ?aF ?aB ?aS ?aL ?_; (case aR => repeat (first | exact (by repeat (first | (with_reducible exact HR321_0.out) | (with_reducible refine Kd.C_alloc ?_ _) | (with_reducible refine Kd.C_drewN ?_ _) | (with_reducible refine Kd.C_drew ?_) | exact HR321_0.out)) | (with_reducible refine Kd.C_alloc ?_ _) | (with_reducible refine Kd.C_drewN ?_ _) | (with_reducible refine Kd.C_drew ?_))); (case aB => exact (pb2_ HB.out GE308.out GE309.out)); (case aF => exact (fun _ _ => trivial)); (case aO => exact (pr_ HO320.out)); (case aS => exact (below_size (pb2_ HB.out GE308.out GE309.out))); (case aL => have := LMc22.out; omega); intro v323 w25 ho hb hg hat; rw [← Ny322.out] at ho; have n0_ := Q_ (Kd.N_afterv (ok := (fun k_ => k_ ≠ gb308 ∧ k_ ≠ gb309)) (by (with_reducible repeat (first | apply Kd.N_alloc | apply Kd.N_drewN | apply Kd.N_drew)); exact HO_5.out) hg hat); have n1_ := Q_ (blk_grown (g := gb308) (o := .cells #[.int .i64 a0_0, .slice A0_1 l0_1.length c0_1, .slice A0_2 l0_2.length c0_2] 34 (0, 0)) (pk_ BK308.out) hg (Kd.R_ne HO320.out BK308.out (by decide))); have n2_ := Q_ (blk_grown (g := gb309) (o := .cells #[.int .i64 a1_0, .slice A1_1 l1_1.length c1_1, .slice A1_2 l1_2.length c1_2] 34 (0, 0)) (pk_ BK309.out) hg (Kd.R_ne HO320.out BK309.out (by decide))); have n3_ := Q_ (Kd.V_afterv (ok := (fun k_ => some k_ ≠ (.slice (some ad313) t310.length co18 : Value).ownBlock ∧ k_ ≠ gb308 ∧ k_ ≠ gb309)) (by (with_reducible repeat (first | apply Kd.V_alloc | apply Kd.V_drewN | apply Kd.V_drew)); exact Kd.V_mono HL313_0.out (fun _ hk => ⟨⟨hk.1.2, ⟨hk.1.1.1, hk.1.1.2⟩⟩, hk.2⟩)) hg hat); have n4_ := Q_ (Kd.V_afterv (ok := (fun k_ => some k_ ≠ (.slice (some ad313) t310.length co18 : Value).ownBlock ∧ k_ ≠ gb308 ∧ k_ ≠ gb309)) (by (with_reducible repeat (first | apply Kd.V_alloc | apply Kd.V_drewN | apply Kd.V_drew)); exact Kd.V_mono HL315_0.out (fun _ hk => ⟨⟨hk.1.2, ⟨hk.1.1.1, hk.1.1.2⟩⟩, hk.2⟩)) hg hat); have n5_ := Q_ (Kd.V_afterv (ok := (fun k_ => some k_ ≠ (.slice (some ad313) t310.length co18 : Value).ownBlock ∧ k_ ≠ gb308 ∧ k_ ≠ gb309)) (by (with_reducible repeat (first | apply Kd.V_alloc | apply Kd.V_drewN | apply Kd.V_drew)); exact Kd.V_mono HL321_0.out (fun _ hk => ⟨⟨hk.2, ⟨hk.1.1.1, hk.1.1.2⟩⟩, hk.1.2⟩)) hg hat); have n6_ := Q_ (hb); have n7_ := Q_ (ho); clear HO_5; clear BK308; clear BK309; clear HL313_0; clear HL315_0; clear HL321_0; clear HB; clear HO320; have HO_5 := n0_; have BK308 := n1_; have BK309 := n2_; have HL313_0 := n3_; have HL315_0 := n4_; have HL321_0 := n5_; have HB := n6_; have HO324 := n7_; clear n0_ n1_ n2_ n3_ n4_ n5_ n6_ n7_; clear ho hb hg hat))
  go_ret
  exact ⟨_, er_, pr_ HO324.out, pb2_ HB.out GE308.out GE309.out⟩

/-! ### spec_IsSafe: function 41 -/
def spec_IsSafe.f (k : Nat) (a0_0 : Int) (l0_1 : List Bool) (l0_2 : List (S78)) (a1_0 : Int) (l1_1 : List Bool) (l1_2 : List (S78)) : Option (Bool) := (spec_IsMachine.f k a0_0 l0_1 l0_2).bind fun t330 => (if t330 = true then ((spec_IsMachine.f k a1_0 l1_1 l1_2).bind fun t331 => (if t331 = true then ((spec_FirstTrouble.f k a0_0 l0_1 l0_2 a1_0 l1_1 l1_2).bind fun t332 => (some ((t332.length : Int) == 0))) else (some false))) else (some false))
theorem spec_IsSafe.mono : ∀ a0 a1 a2 a3 a4 a5 k, LeO (spec_IsSafe.f k a0 a1 a2 a3 a4 a5) (spec_IsSafe.f (k + 1) a0 a1 a2 a3 a4 a5) := by
  intro a0 a1 a2 a3 a4 a5 k
  unfold spec_IsSafe.f
  exact mo2_ spec_FirstTrouble.mono spec_IsMachine.mono
set_option maxHeartbeats 8000000 in
set_option maxRecDepth 100000 in
theorem spec_IsSafe.calls (k : Nat) (a0_0 : Int) (A0_1 : Option Addr) (c0_1 : Nat) (l0_1 : List Bool) (A0_2 : Option Addr) (c0_2 : Nat) (l0_2 : List (S78)) (a1_0 : Int) (A1_1 : Option Addr) (c1_1 : Nat) (l1_1 : List Bool) (A1_2 : Option Addr) (c1_2 : Nat) (l1_2 : List (S78)) (r : Bool) (w : World) (hr0_1 : Kd.C Kd.bool w A0_1 l0_1.length l0_1) (hc0_1 : l0_1.length ≤ c0_1) (hr0_2 : Kd.C k78 w A0_2 l0_2.length l0_2) (hc0_2 : l0_2.length ≤ c0_2) (hr1_1 : Kd.C Kd.bool w A1_1 l1_1.length l1_1) (hc1_1 : l1_1.length ≤ c1_1) (hr1_2 : Kd.C k78 w A1_2 l1_2.length l1_2) (hc1_2 : l1_2.length ≤ c1_2) (h : spec_IsSafe.f k a0_0 l0_1 l0_2 a1_0 l1_1 l1_2 = some r) :
    Calls Try.prog 41 #[.agg #[.int .i64 a0_0, .slice A0_1 l0_1.length c0_1, .slice A0_2 l0_2.length c0_2], .agg #[.int .i64 a1_0, .slice A1_1 l1_1.length c1_1, .slice A1_2 l1_2.length c1_2]] w fun e w' => e = .returned (.bool r) ∧ Below w.heap.size w w' := by
  have hu34 := Try.underlying34
  have HR0_1 := Q_ hr0_1
  have HC0_1 := Q_ hc0_1
  clear hr0_1 hc0_1
  have HR0_2 := Q_ hr0_2
  have HC0_2 := Q_ hc0_2
  clear hr0_2 hc0_2
  have HR1_1 := Q_ hr1_1
  have HC1_1 := Q_ hc1_1
  clear hr1_1 hc1_1
  have HR1_2 := Q_ hr1_2
  have HC1_2 := Q_ hc1_2
  clear hr1_2 hc1_2
  have HB := Q_ (Below.refl w.heap.size w)
  have H : ((spec_IsMachine.f k a0_0 l0_1 l0_2).bind fun t330 => (if t330 = true then ((spec_IsMachine.f k a1_0 l1_1 l1_2).bind fun t331 => (if t331 = true then ((spec_FirstTrouble.f k a0_0 l0_1 l0_2 a1_0 l1_1 l1_2).bind fun t332 => (some ((t332.length : Int) == 0))) else (some false))) else (some false))) = some r := h
  clear h
  have HS_ := Q_ H
  clear H
  go_enter Try.func41, Try.ntmps41
  go_upto_region 1 with (first | ((with_reducible refine gate_dst (N := 2) rfl ?_); (try (refine gate_guard (by rfl) ?_; dsimp only)); refine box_event ?hg (N := 2) ?hd (cs := #[.int .i64 a0_0, .slice A0_1 l0_1.length c0_1, .slice A0_2 l0_2.length c0_2]) (t := 34) ?hr ?_; (case hd => rfl); (case hg => rfl); (case hr => first | (go_simp; done) | (go_simp; rfl)); intro gb328 hg w3 hbox hb; have n0_ := Q_ (below_step (pb_ HB.out) hb); have n1_ := Q_ (hbox); have n2_ := Q_ ((by rw [hg]; exact (below_size (pb_ HB.out)) : w.heap.size ≤ gb328)); have n3_ := n2_; clear HB; have HB := n0_; have BK328 := n1_; have GW328 := n2_; have GE328 := n3_; clear n0_ n1_ n2_ n3_; clear hb hbox hg) | ((with_reducible refine gate_dst (N := 3) rfl ?_); (try (refine gate_guard (by rfl) ?_; dsimp only)); refine box_event ?hg (N := 3) ?hd (cs := #[.int .i64 a1_0, .slice A1_1 l1_1.length c1_1, .slice A1_2 l1_2.length c1_2]) (t := 34) ?hr ?_; (case hd => rfl); (case hg => rfl); (case hr => first | (go_simp; done) | (go_simp; rfl)); intro gb329 hg w4 hbox hb; have n0_ := Q_ (bb_ BK328.out hb); have n1_ := Q_ (below_step (pb1_ HB.out GE328.out) hb); have n2_ := Q_ (hbox); have n3_ := Q_ ((by rw [hg]; exact (below_size (pb1_ HB.out GE328.out)) : w.heap.size ≤ gb329)); have n4_ := n3_; have n5_ := Q_ ((by rw [hg]; exact Nat.ne_of_lt (blk_lt (pk_ BK328.out)) : gb328 ≠ gb329)); have n6_ := Q_ ((by rw [hg]; exact Nat.ne_of_gt (blk_lt (pk_ BK328.out)) : gb329 ≠ gb328)); clear BK328; clear HB; have BK328 := n0_; have HB := n1_; have BK329 := n2_; have GW329 := n3_; have GE329 := n4_; have NB328_329 := n5_; have NB329_328 := n6_; clear n0_ n1_ n2_ n3_ n4_ n5_ n6_; clear hb hbox hg))
  (try simp only [Act.put, List.setIfInBounds_toArray, List.set_cons_zero, List.set_cons_succ])
  have H := HS_.out
  clear HS_
  replace H := Option.bind_eq_some_iff.mp H
  obtain ⟨t330, A50, H⟩ := H
  (try dsimp only at H)
  have A5 := Q_ A50
  clear A50
  by_cases c6 : t330 = true
  rotate_left
  · replace c6 := Bool.eq_false_iff.mpr c6
    subst c6
    rw [if_neg (show ¬ (false = true) by decide)] at H
    obtain rfl := Option.some.inj H
    have hnb7 := NB328_329.out
    have hnc7 := NB329_328.out
    have hcz8 := bc3_ BK328.out
    go_wp2_with (first | ((with_reducible refine gate_callee (f := 59) rfl ?_); refine gl_ (some 6) Try.func59 #[.agg #[.int .i64 a0_0, .slice A0_1 l0_1.length c0_1, .slice A0_2 l0_2.length c0_2]] ?_; (with_reducible refine (spec_IsMachine.calls k a0_0 _ _ l0_1 _ _ l0_2 false _ ?side1 ?side2 ?side3 ?side4 A5.out).mono ?_); (case side1 => exact cb_ HR0_1 HB); (case side2 => exact HC0_1.out); (case side3 => exact cb_ HR0_2 HB); (case side4 => exact HC0_2.out); rintro e w9 ⟨rfl, hb⟩; refine ⟨_, rfl, ?_⟩; have _ := Q_ (bb_ BK328.out hb); have _ := Q_ (bb_ BK329.out hb); have _ := Q_ (below_step (pb2_ HB.out GE328.out GE329.out) hb); clear BK328 BK329 HB; rename_i BK328 BK329 HB; (try clear hb); (try clear hb2); (try clear hk); (try clear hi)))
    go_ret
    exact ⟨er_, pb2_ HB.out GE328.out GE329.out⟩
  subst c6
  rw [if_pos rfl] at H
  replace H := Option.bind_eq_some_iff.mp H
  obtain ⟨t331, A100, H⟩ := H
  (try dsimp only at H)
  have A10 := Q_ A100
  clear A100
  by_cases c11 : t331 = true
  rotate_left
  · replace c11 := Bool.eq_false_iff.mpr c11
    subst c11
    rw [if_neg (show ¬ (false = true) by decide)] at H
    obtain rfl := Option.some.inj H
    have hnb12 := NB328_329.out
    have hnc12 := NB329_328.out
    have hcz13 := bc3_ BK328.out
    go_wp2_with (first | ((with_reducible refine gate_callee (f := 59) rfl ?_); refine gl_ (some 6) Try.func59 #[.agg #[.int .i64 a0_0, .slice A0_1 l0_1.length c0_1, .slice A0_2 l0_2.length c0_2]] ?_; (with_reducible refine (spec_IsMachine.calls k a0_0 _ _ l0_1 _ _ l0_2 true _ ?side1 ?side2 ?side3 ?side4 A5.out).mono ?_); (case side1 => exact cb_ HR0_1 HB); (case side2 => exact HC0_1.out); (case side3 => exact cb_ HR0_2 HB); (case side4 => exact HC0_2.out); rintro e w14 ⟨rfl, hb⟩; refine ⟨_, rfl, ?_⟩; have _ := Q_ (bb_ BK328.out hb); have _ := Q_ (bb_ BK329.out hb); have _ := Q_ (below_step (pb2_ HB.out GE328.out GE329.out) hb); clear BK328 BK329 HB; rename_i BK328 BK329 HB; (try clear hb); (try clear hb2); (try clear hk); (try clear hi); have hcz15 := bc3_ BK329.out) | (go_at_call 59; (with_reducible refine (spec_IsMachine.calls k a1_0 _ _ l1_1 _ _ l1_2 false _ ?side1 ?side2 ?side3 ?side4 A10.out).mono ?_); (case side1 => exact cb_ HR1_1 HB); (case side2 => exact HC1_1.out); (case side3 => exact cb_ HR1_2 HB); (case side4 => exact HC1_2.out); rintro e w16 ⟨rfl, hb⟩; have _ := Q_ (bb_ BK328.out hb); have _ := Q_ (bb_ BK329.out hb); have _ := Q_ (below_step (pb2_ HB.out GE328.out GE329.out) hb); clear BK328 BK329 HB; rename_i BK328 BK329 HB; (try clear hb); (try clear hb2); (try clear hk); (try clear hi)))
    go_ret
    exact ⟨er_, pb2_ HB.out GE328.out GE329.out⟩
  subst c11
  rw [if_pos rfl] at H
  replace H := Option.bind_eq_some_iff.mp H
  obtain ⟨t332, A170, H⟩ := H
  replace H : (some ((t332.length : Int) == 0)) = some r := H
  have A17 := Q_ A170
  clear A170
  obtain rfl := Option.some.inj H
  have hnb18 := NB328_329.out
  have hnc18 := NB329_328.out
  have hcz19 := bc3_ BK328.out
  go_wp2_with (first | ((with_reducible refine gate_callee (f := 59) rfl ?_); refine gl_ (some 6) Try.func59 #[.agg #[.int .i64 a0_0, .slice A0_1 l0_1.length c0_1, .slice A0_2 l0_2.length c0_2]] ?_; (with_reducible refine (spec_IsMachine.calls k a0_0 _ _ l0_1 _ _ l0_2 true _ ?side1 ?side2 ?side3 ?side4 A5.out).mono ?_); (case side1 => exact cb_ HR0_1 HB); (case side2 => exact HC0_1.out); (case side3 => exact cb_ HR0_2 HB); (case side4 => exact HC0_2.out); rintro e w20 ⟨rfl, hb⟩; refine ⟨_, rfl, ?_⟩; have _ := Q_ (bb_ BK328.out hb); have _ := Q_ (bb_ BK329.out hb); have _ := Q_ (below_step (pb2_ HB.out GE328.out GE329.out) hb); clear BK328 BK329 HB; rename_i BK328 BK329 HB; (try clear hb); (try clear hb2); (try clear hk); (try clear hi); have hcz21 := bc3_ BK329.out) | (go_at_call 59; (with_reducible refine (spec_IsMachine.calls k a1_0 _ _ l1_1 _ _ l1_2 true _ ?side1 ?side2 ?side3 ?side4 A10.out).mono ?_); (case side1 => exact cb_ HR1_1 HB); (case side2 => exact HC1_1.out); (case side3 => exact cb_ HR1_2 HB); (case side4 => exact HC1_2.out); rintro e w22 ⟨rfl, hb⟩; have _ := Q_ (bb_ BK328.out hb); have _ := Q_ (bb_ BK329.out hb); have _ := Q_ (below_step (pb2_ HB.out GE328.out GE329.out) hb); clear BK328 BK329 HB; rename_i BK328 BK329 HB; (try clear hb); (try clear hb2); (try clear hk); (try clear hi); have hcz23 := bc3_ BK328.out; have hcz24 := bc3_ BK329.out) | (go_at_call 60; (with_reducible refine (spec_FirstTrouble.calls k a0_0 _ _ l0_1 _ _ l0_2 a1_0 _ _ l1_1 _ _ l1_2 t332 _ ?side1 ?side2 ?side3 ?side4 ?side5 ?side6 ?side7 ?side8 A17.out).mono ?_); (case side1 => exact cb_ HR0_1 HB); (case side2 => exact HC0_1.out); (case side3 => exact cb_ HR0_2 HB); (case side4 => exact HC0_2.out); (case side5 => exact cb_ HR1_1 HB); (case side6 => exact HC1_1.out); (case side7 => exact cb_ HR1_2 HB); (case side8 => exact HC1_2.out); rintro e w25 ⟨v333, rfl, ho0, hb⟩; have _ := Q_ (Kd.R_lower ho0 (below_size (pb2_ HB.out GE328.out GE329.out))); have _ := Q_ (bb_ BK328.out hb); have _ := Q_ (bb_ BK329.out hb); have _ := Q_ (below_step (pb2_ HB.out GE328.out GE329.out) hb); clear BK328 BK329 HB; rename_i HO334 BK328 BK329 HB; (try clear hb); (try clear hb2); (try clear hk); (try clear hi); (try clear ho0); obtain ⟨Ao26, co26, eo26⟩ := Kd.R_slice HO334.out; subst eo26))
  go_ret
  exact ⟨er_, pb2_ HB.out GE328.out GE329.out⟩

/-! ### spec_WorksWith: function 17 -/
def spec_WorksWith.l0 : Nat → List (S34) → List Int → Int → Int → List Bool → List (S78) → Option (List Int)
  | 0, _, _, _, _, _, _ => none
  | k + 1, x0, x5, x6, x336000, x336001, x336002 => if x6 < (x0.length : Int) then (if 0 ≤ x6 then ((spec_IsSafe.f k ((rd_T34 x0 x6).f0) ((rd_T34 x0 x6).f1) ((rd_T34 x0 x6).f2) x336000 x336001 x336002).bind fun t340 => (if t340 = true then (if x5.length < 17592186044416 then (spec_WorksWith.l0 k x0 (x5 ++ [x6]) (wrap64 (x6 + 1)) x336000 x336001 x336002) else (none)) else (spec_WorksWith.l0 k x0 x5 (wrap64 (x6 + 1)) x336000 x336001 x336002))) else (none)) else (some x5)
def spec_WorksWith.f (k : Nat) (l0 : List (S34)) (a1_0 : Int) (l1_1 : List Bool) (l1_2 : List (S78)) : Option (List Int) := spec_WorksWith.l0 k l0 (([] : List Int)) 0 a1_0 l1_1 l1_2
theorem spec_WorksWith.mono_l : ∀ k, (∀ y0 y1 y2 y3 y4 y5, LeO (spec_WorksWith.l0 k y0 y1 y2 y3 y4 y5) (spec_WorksWith.l0 (k + 1) y0 y1 y2 y3 y4 y5))
  | 0 => fun _ _ _ _ _ _ r h => by simp [spec_WorksWith.l0] at h
  | k + 1 => by
    have ih0 := spec_WorksWith.mono_l k
    · intro y0 y1 y2 y3 y4 y5
      unfold spec_WorksWith.l0
      exact mo2_ ih0 spec_IsSafe.mono
theorem spec_WorksWith.mono : ∀ a0 a1 a2 a3 k, LeO (spec_WorksWith.f k a0 a1 a2 a3) (spec_WorksWith.f (k + 1) a0 a1 a2 a3) := by
  intro a0 a1 a2 a3 k
  have ih0 := spec_WorksWith.mono_l k
  unfold spec_WorksWith.f
  exact mo2_ ih0 spec_IsSafe.mono
set_option maxHeartbeats 8000000 in
set_option maxRecDepth 100000 in
theorem spec_WorksWith.calls (k : Nat) (A0 : Option Addr) (c0 : Nat) (l0 : List (S34)) (a1_0 : Int) (A1_1 : Option Addr) (c1_1 : Nat) (l1_1 : List Bool) (A1_2 : Option Addr) (c1_2 : Nat) (l1_2 : List (S78)) (r : List Int) (w : World) (hr0 : Kd.C k34 w A0 l0.length l0) (hc0 : l0.length ≤ c0) (hr1_1 : Kd.C Kd.bool w A1_1 l1_1.length l1_1) (hc1_1 : l1_1.length ≤ c1_1) (hr1_2 : Kd.C k78 w A1_2 l1_2.length l1_2) (hc1_2 : l1_2.length ≤ c1_2) (h : spec_WorksWith.f k l0 a1_0 l1_1 l1_2 = some r) :
    Calls Try.prog 17 #[.slice A0 l0.length c0, .agg #[.int .i64 a1_0, .slice A1_1 l1_1.length c1_1, .slice A1_2 l1_2.length c1_2]] w fun e w' => ∃ v0_ : Value, e = .returned (v0_) ∧ Kd.R (Kd.int .i64) 3 w' w.heap.size (fun _ => True) v0_ r ∧ Below w.heap.size w w' := by
  have hu34 := Try.underlying34
  have HR0 := Q_ hr0
  have HC0 := Q_ hc0
  clear hr0 hc0
  have HR1_1 := Q_ hr1_1
  have HC1_1 := Q_ hc1_1
  clear hr1_1 hc1_1
  have HR1_2 := Q_ hr1_2
  have HC1_2 := Q_ hc1_2
  clear hr1_2 hc1_2
  have HB := Q_ (Below.refl w.heap.size w)
  have H : (spec_WorksWith.l0 k l0 (([] : List Int)) 0 a1_0 l1_1 l1_2) = some r := h
  clear h
  obtain ⟨y336, hy336⟩ : ∃ y_ : List Int, y_ = (([] : List Int)) := ⟨_, rfl⟩
  replace H : (spec_WorksWith.l0 k l0 y336 0 a1_0 l1_1 l1_2) = some r := by first | (rw [hy336]; with_reducible exact H) | (have H2_ := (Option.bind_some _ _).symm.trans H; rw [hy336]; with_reducible exact H2_) | (have H2_ := (Option.bind_some _ _).symm.trans H; with_reducible exact H2_) | with_reducible exact H | (rw [hy336]; exact H) | exact H
  have Ny336 := Q_ hy336
  clear hy336
  have H' := Q_ H
  clear H
  go_enter Try.func17, Try.ntmps17
  go_wp2_with (first | ((with_reducible refine gate_dst (N := 3) rfl ?_); refine box_event ?hg (N := 3) ?hd (cs := #[.int .i64 a1_0, .slice A1_1 l1_1.length c1_1, .slice A1_2 l1_2.length c1_2]) (t := 34) ?hr ?_; (case hd => rfl); (case hg => rfl); (case hr => first | (go_simp; done) | (go_simp; rfl)); intro gb335 hg w3 hbox hb; have n0_ := Q_ (below_step (pb_ HB.out) hb); have n1_ := Q_ (hbox); have n2_ := Q_ ((by rw [hg]; exact (below_size (pb_ HB.out)) : w.heap.size ≤ gb335)); have n3_ := n2_; clear HB; have HB := n0_; have BK335 := n1_; have GW335 := n2_; have GE335 := n3_; clear n0_ n1_ n2_ n3_; clear hb hbox hg) | ((with_reducible refine gate_dst (N := 7) rfl ?_); refine Kd.R_lit (Kd.int .i64) _ 3 ?hg (N := 7) ?hd (xs := ([] : List Int)) (inner := []) (ok := fun _ => True) (okp := fun _ => True) ?hr ?hp (fun _ hk => hk) trivial (Below.refl _ _) (Nat.le_refl _) (by simp) ?_; (case hd => rfl); (case hg => rfl); (case hr => first | (go_simp; done) | (go_simp; rfl)); (case hp => exact (Reps.none _ _)); intro v337 w4 ho5 hb hg_ hnew_; clear hg_ hnew_; (first | rw [← Ny336.out] at ho5 | (simp only [Int.reduceToNat] at ho5; rw [← Ny336.out] at ho5)); have _ := Q_ (Kd.R_lower ho5 (below_size (pb1_ HB.out GE335.out))); have _ := Q_ (bb_ BK335.out hb); have _ := Q_ (below_step (pb1_ HB.out GE335.out) hb); clear BK335 HB; rename_i HO338 BK335 HB; clear hb ho5))
  (try simp only [Act.put, List.setIfInBounds_toArray, List.set_cons_zero, List.set_cons_succ])
  go_loopg [5, 6] k (fun kq v5 v6 w' => ∃ (x5_1 : List Int) (x6_1 : Int), v6 = .int .i64 x6_1 ∧ Aside0 (spec_WorksWith.l0 kq l0 x5_1 x6_1 a1_0 l1_1 l1_2 = some r) ∧ Aside0 (kq ≤ k) ∧ Aside0 (Kd.R (Kd.int .i64) 3 w' w.heap.size (fun _ => True) v5 x5_1) ∧ Aside0 (w'.heap[gb335]? = some (.cells #[.int .i64 a1_0, (.slice A1_1 l1_1.length c1_1), (.slice A1_2 l1_2.length c1_2)] 34 (0, 0))) ∧ Aside0 (Below w.heap.size w w'))
  case atStart => exact ⟨(y336), (0), el_, H', ⟨Nat.le_refl _⟩, ⟨pr_ HO338.out⟩, ⟨pk_ BK335.out⟩, ⟨pb1_ HB.out GE335.out⟩⟩
  clear H'
  try clear c1
  try clear p2
  obtain ⟨x5_1, x6_1, rfl, HA, HK1, HO_5, BK335, HB⟩ := hrel
  rcases gk with _ | k1
  · exact absurd HA.out (by simp [spec_WorksWith.l0])
  have H := HA.out
  clear HA
  simp only [spec_WorksWith.l0] at H
  by_cases c6 : x6_1 < (l0.length : Int)
  rotate_left
  · rw [if_neg c6] at H
    have c6b0 : decide (x6_1 < (l0.length : Int)) = false := decide_eq_false c6
    clear c6
    obtain rfl := Option.some.inj H
    go_wp2
    go_ret
    exact ⟨_, er_, pr_ HO_5.out, pb1_ HB.out GE335.out⟩
  rw [if_pos c6] at H
  have c6b0 : decide (x6_1 < (l0.length : Int)) = true := decide_eq_true c6
  clear c6
  by_cases c7 : 0 ≤ x6_1
  rotate_left
  · rw [if_neg c7] at H
    exact absurd H (by simp)
  rw [if_pos c7] at H
  have c7b0 : decide (0 ≤ x6_1) = true := decide_eq_true c7
  clear c7
  replace H := Option.bind_eq_some_iff.mp H
  obtain ⟨t340, A80, H⟩ := H
  (try dsimp only at H)
  have A8 := Q_ A80
  clear A80
  have HS_ := Q_ H
  clear H
  try go_wp2
  have _ := Q_ (Kd.R_drew HO_5.out)
  have _ := Q_ (blk_drew BK335.out)
  have _ := Q_ (below_drew1 HB.out)
  clear HO_5 BK335 HB
  rename_i HO_5 BK335 HB
  have p339 : 0 ≤ (x6_1 : Int) := dt_
  have q339 : x6_1 < (l0.length : Int) := dt_
  obtain ⟨ad339, A339_1, c339_1, A339_2, c339_2, e339, hx339_0, hx339_1, hx339_2, hl339_1, hi339_1, hl339_2, hi339_2⟩ := at_T34 HR0.out x6_1 p339 q339
  have hw339_2 := hx339_2
  have hw339_1 := hx339_1
  have hw339_0 := hx339_0
  cases e339
  replace hx339_0 := bt_ HB hx339_0
  replace hx339_1 := bt_ HB hx339_1
  replace hx339_2 := bt_ HB hx339_2
  have HR339_1 := Q_ hi339_1
  have HC339_1 := Q_ hl339_1
  clear hi339_1 hl339_1
  have HR339_2 := Q_ hi339_2
  have HC339_2 := Q_ hl339_2
  clear hi339_2 hl339_2
  replace p339 := eq_true p339
  replace q339 := eq_true q339
  refine start_ (n := 6) (S := fun w' => w'.cell? ⟨gb335, 0, none⟩ = some (.int .i64 a1_0) ∧ w'.cell? ⟨gb335, 1, none⟩ = some (.slice A1_1 l1_1.length c1_1) ∧ w'.cell? ⟨gb335, 2, none⟩ = some (.slice A1_2 l1_2.length c1_2) ∧ w'.cell? (ad339.add ((x6_1).toNat * 3)) = some (.int .i64 ((rd_T34 l0 x6_1).f0)) ∧ w'.cell? ⟨(ad339.add ((x6_1).toNat * 3)).block, (ad339.add ((x6_1).toNat * 3)).off + 1, none⟩ = some (.slice A339_1 ((rd_T34 l0 x6_1).f1).length c339_1) ∧ w'.cell? ⟨(ad339.add ((x6_1).toNat * 3)).block, (ad339.add ((x6_1).toNat * 3)).off + 2, none⟩ = some (.slice A339_2 ((rd_T34 l0 x6_1).f2).length c339_2)) (ds := []) (tf_ 0 6) (by kernel_rfl) rfl rfl ⟨(blk_cell BK335.out 0).trans rfl, (blk_cell BK335.out 1).trans rfl, (blk_cell BK335.out 2).trans rfl, (bt_ HB hw339_0), (bt_ HB hw339_1), (bt_ HB hw339_2)⟩ (fun hHeld => ?_)
  generalize wr.drew = w9 at HO_5 BK335 HB HR339_1 HR339_2 hx339_0 hx339_1 hx339_2 hHeld ⊢
  refine pure_ (i := 0) (N := some 14) (v := ?_) (a' := ?_) #[true, false, false, false, false, false] rfl rfl (by kernel_rfl) (fun _ _ _ h => h) (Or.inl ⟨by rfl, ?_⟩) ?_ ?_
  rotate_left
  · intro w'
    go_simp
    (try (simp only [Instr.field]; simp only [underlying, hu34]; go_simp; simp only [asAgg]; go_simp))
    with_reducible rfl
  rotate_left
  · simp only [Act.put, List.setIfInBounds_toArray, List.set_cons_zero, List.set_cons_succ, i64_w, i32_w]
    rfl
  refine pure_ (i := 1) (N := some 15) (v := ?_) (a' := ?_) #[true, true, false, false, false, false] rfl rfl (by kernel_rfl) (fun _ _ _ h => h) (Or.inl ⟨by rfl, ?_⟩) ?_ ?_
  rotate_left
  · intro w'
    go_simp
    (try (simp only [Instr.field]; simp only [underlying, hu34]; go_simp; simp only [asAgg]; go_simp))
    with_reducible rfl
  rotate_left
  · simp only [Act.put, List.setIfInBounds_toArray, List.set_cons_zero, List.set_cons_succ, i64_w, i32_w]
    rfl
  refine pure_ (i := 2) (N := some 16) (v := ?_) (a' := ?_) #[true, true, true, false, false, false] rfl rfl (by kernel_rfl) (fun _ _ _ h => h) (Or.inl ⟨by rfl, ?_⟩) ?_ ?_
  rotate_left
  · intro w'
    go_simp
    (try (simp only [Instr.field]; simp only [underlying, hu34]; go_simp; simp only [asAgg]; go_simp))
    with_reducible rfl
  rotate_left
  · simp only [Act.put, List.setIfInBounds_toArray, List.set_cons_zero, List.set_cons_succ, i64_w, i32_w]
    rfl
  refine take_ (i := 3) (N := some 17) (v := ?_) (a' := ?_) #[true, true, true, true, false, false] rfl rfl (by kernel_rfl) (fun _ _ _ h => h) (Or.inl ⟨by rfl, ?_⟩) hHeld ?_ ?_
  rotate_left
  · rintro w' ⟨s0, s1, s2, s3, s4, s5⟩
    go_simp
    (try (simp only [Instr.field]; simp only [underlying, hu34]; go_simp; simp only [asAgg]; go_simp))
    with_reducible rfl
  rotate_left
  · simp only [Act.put, List.setIfInBounds_toArray, List.set_cons_zero, List.set_cons_succ, i64_w, i32_w]
    rfl
  refine take_ (i := 4) (N := some 18) (v := ?_) (a' := ?_) #[true, true, true, true, true, false] rfl rfl (by kernel_rfl) (fun _ _ _ h => h) (Or.inl ⟨by rfl, ?_⟩) hHeld ?_ ?_
  rotate_left
  · rintro w' ⟨s0, s1, s2, s3, s4, s5⟩
    go_simp
    (try (simp only [Instr.field]; simp only [underlying, hu34]; go_simp; simp only [asAgg]; go_simp))
    with_reducible rfl
  rotate_left
  · simp only [Act.put, List.setIfInBounds_toArray, List.set_cons_zero, List.set_cons_succ, i64_w, i32_w]
    rfl
  refine one_ (i := 5) (N := some 19) #[true, true, true, true, true, true] rfl rfl (by kernel_rfl) (by decide) (fun K hK => ?_)
  refine goes_ Try.func41 (by kernel_rfl) rfl #[.agg #[.int .i64 ((rd_T34 l0 x6_1).f0), .slice A339_1 ((rd_T34 l0 x6_1).f1).length c339_1, .slice A339_2 ((rd_T34 l0 x6_1).f2).length c339_2], .agg #[.int .i64 a1_0, .slice A1_1 l1_1.length c1_1, .slice A1_2 l1_2.length c1_2]] (by rfl) rfl rfl mp_ ?_
  with_reducible refine (spec_IsSafe.calls k1 ((rd_T34 l0 x6_1).f0) _ _ ((rd_T34 l0 x6_1).f1) _ _ ((rd_T34 l0 x6_1).f2) a1_0 _ _ l1_1 _ _ l1_2 t340 _ ?side1 ?side2 ?side3 ?side4 ?side5 ?side6 ?side7 ?side8 A8.out).mono ?_
  (case side1 => exact cb_ HR339_1 HB)
  (case side2 => exact HC339_1.out)
  (case side3 => exact cb_ HR339_2 HB)
  (case side4 => exact HC339_2.out)
  (case side5 => exact cb_ HR1_1 HB)
  (case side6 => exact HC1_1.out)
  (case side7 => exact cb_ HR1_2 HB)
  (case side8 => exact HC1_2.out)
  rintro e w10 ⟨rfl, hb⟩
  refine ⟨_, rfl, ?_⟩
  have _ := Q_ (Kd.R_below (pr_ HO_5.out) hb)
  have _ := Q_ (bb_ BK335.out hb)
  have _ := Q_ (below_step (pb1_ HB.out GE335.out) hb)
  clear HO_5 BK335 HB
  rename_i HO_5 BK335 HB
  (try clear hb)
  (try clear hb2)
  (try clear hk)
  (try clear hi)
  refine hK.out _ _ ⟨(blk_cell BK335.out 0).trans rfl, (blk_cell BK335.out 1).trans rfl, (blk_cell BK335.out 2).trans rfl, (bt_ HB hw339_0), (bt_ HB hw339_1), (bt_ HB hw339_2)⟩ (fun hHeld => ?_)
  clear hK K
  refine no_ (some 19) ?_
  refine done_ (by kernel_rfl) ?_
  go_upto_if 19 with (fail)
  have H := HS_.out
  clear HS_
  by_cases c11 : t340 = true
  rotate_left
  · replace c11 := Bool.eq_false_iff.mpr c11
    subst c11
    rw [if_neg (show ¬ (false = true) by decide)] at H
    have H' := Q_ H
    clear H
    go_wp2
    go_roundg k1
    case measure => have := HK1.out; omega
    case rel => exact ⟨(x5_1), (wrap64 (x6_1 + 1)), el_, H', ⟨by have := HK1.out; omega⟩, ⟨pr_ HO_5.out⟩, ⟨pk_ BK335.out⟩, ⟨pb1_ HB.out GE335.out⟩⟩
  subst c11
  rw [if_pos rfl] at H
  by_cases c12 : x5_1.length < 17592186044416
  rotate_left
  · rw [if_neg c12] at H
    exact absurd H (by simp)
  rw [if_pos c12] at H
  have LMc12 := Q_ c12
  clear c12
  obtain ⟨y341, hy341⟩ : ∃ y_ : List Int, y_ = (x5_1 ++ [x6_1]) := ⟨_, rfl⟩
  replace H : (spec_WorksWith.l0 k1 l0 y341 (wrap64 (x6_1 + 1)) a1_0 l1_1 l1_2) = some r := by first | (rw [hy341]; with_reducible exact H) | (have H2_ := (Option.bind_some _ _).symm.trans H; rw [hy341]; with_reducible exact H2_) | (have H2_ := (Option.bind_some _ _).symm.trans H; with_reducible exact H2_) | with_reducible exact H | (rw [hy341]; exact H) | exact H
  have Ny341 := Q_ hy341
  clear hy341
  have H' := Q_ H
  clear H
  go_wp2_with (first | ((with_reducible refine gate_builtin (b := .append) (xs := #[.tmp 20, .tmp 22]) rfl ?_); at_builtin; refine Kd.R_append (Kd.int .i64) (w0 := w) w.heap.size rfl (.tmp 20) (.tmp 22) 39 3 (.int .i64 0) 8 rfl Try.underlying39 info3 rfl (by decide) (by omega) u5 x5_1 x6_1 [.int .i64 x6_1] (fun _ => True) (fun _ => False) rfl rfl ?aP (fun _ hk => hk.elim) ?aF ?aO ?aB ?aS ?aL ?_; (case aP => exact rfl); (case aB => exact (pb1_ HB.out GE335.out)); (case aF => exact (fun _ _ => trivial)); (case aO => exact (pr_ HO_5.out)); (case aS => exact (below_size (pb1_ HB.out GE335.out))); (case aL => have := LMc12.out; omega); intro v342 w13 ho hb hg hat; rw [← Ny341.out] at ho; have _ := Q_ (blk_grown (g := gb335) (o := .cells #[.int .i64 a1_0, .slice A1_1 l1_1.length c1_1, .slice A1_2 l1_2.length c1_2] 34 (0, 0)) (pk_ BK335.out) hg (Kd.R_ne HO_5.out BK335.out (by decide))); have _ := Q_ (hb); have _ := Q_ (ho); clear BK335 HB HO_5; rename_i BK335 HB HO343; clear ho hb hg hat))
  go_roundg k1
  case measure => have := HK1.out; omega
  case rel => exact ⟨(y341), (wrap64 (x6_1 + 1)), el_, H', ⟨by have := HK1.out; omega⟩, ⟨pr_ HO343.out⟩, ⟨pk_ BK335.out⟩, ⟨pb1_ HB.out GE335.out⟩⟩

/-! ### impl_InRange: function 47 -/
def impl_InRange.f (a0 : Int) (a1 : Int) (a2 : Int) : Option (Bool) := if a1 ≤ a0 then (some (decide (a0 ≤ a2))) else (some false)
set_option maxHeartbeats 8000000 in
set_option maxRecDepth 100000 in
theorem impl_InRange.calls (a0 : Int) (a1 : Int) (a2 : Int) (r : Bool) (w : World) (h : impl_InRange.f a0 a1 a2 = some r) :
    Calls Try.prog 47 #[.int .i64 a0, .int .i64 a1, .int .i64 a2] w fun e w' => e = .returned (.bool r) ∧ Drawn0 w w' := by
  have H : (if a1 ≤ a0 then (some (decide (a0 ≤ a2))) else (some false)) = some r := h
  clear h
  by_cases c4 : a1 ≤ a0
  rotate_left
  · rw [if_neg c4] at H
    have c4b0 : decide (a1 ≤ a0) = false := decide_eq_false c4
    clear c4
    obtain rfl := Option.some.inj H
    go_enter Try.func47, Try.ntmps47
    go_wp2
    go_ret
    exact ⟨by first | rfl | (simp; done) | (simp [*]; done), by repeat (first | exact Drawn0.refl _ | apply Drawn0.step)⟩
  rw [if_pos c4] at H
  have c4b0 : decide (a1 ≤ a0) = true := decide_eq_true c4
  clear c4
  obtain rfl := Option.some.inj H
  go_enter Try.func47, Try.ntmps47
  go_wp2
  go_ret
  exact ⟨by first | rfl | (simp; done) | (simp [*]; done), by repeat (first | exact Drawn0.refl _ | apply Drawn0.step)⟩

end Go.Proofs.Ytldcchjbaglppaa.Print
