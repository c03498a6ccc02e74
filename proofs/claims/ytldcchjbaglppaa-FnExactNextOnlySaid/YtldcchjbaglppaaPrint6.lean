-- Written by a program of this session (printx.py) out of the translation; Lean checks it.
import Derived.Test.YtldcchjbaglppaaPrint0
import Derived.Test.YtldcchjbaglppaaPrint3
import Derived.Test.YtldcchjbaglppaaPrint4
import Derived.Test.YtldcchjbaglppaaPrint5
namespace Go.Proofs.Ytldcchjbaglppaa.Print
open Go.RowKit Go.Proofs.YtldcchjbaglppaaW.PrintWords Go.Proofs.YtldcchjbaglppaaW.PrintLast Go.Proofs.YtldcchjbaglppaaW.PrintMore Go.Proofs.Ytldcchjbaglppaa.Short
attribute [local go_sem] max2_int min2_int max_two min_two max_three min_three max_four min_four   -- for this text's walks alone
set_option linter.unusedVariables false
set_option linter.unusedSimpArgs false

/-! ### spec_TroubleAt: function 72 -/
def spec_TroubleAt.j0 : Nat → Int → Int → Bool → Int → List Bool → List (S78) → Int → List Bool → List (S78) → Option (Int)
  | 0, _, _, _, _, _, _, _, _, _ => none
  | k + 1, x2, x3, x9, x248000, x248001, x248002, x249000, x249001, x249002 => if x9 = true then (some 1) else ((spec_NextPairs.f k x248000 x248001 x248002 x249000 x249001 x249002 x2 x3).bind fun t251 => (if (t251.length : Int) = 0 then ((spec_l14End.f x248000 x248001 x248002 x2).bind fun t254 => (if t254 = true then ((spec_l14End.f x249000 x249001 x249002 x3).bind fun t255 => (if t255 = true then (some 0) else (some 2))) else (some 2))) else (some 0)))
def spec_TroubleAt.f (k : Nat) (a0_0 : Int) (l0_1 : List Bool) (l0_2 : List (S78)) (a1_0 : Int) (l1_1 : List Bool) (l1_2 : List (S78)) (a2 : Int) (a3 : Int) : Option (Int) := (spec_l14Unread.f k a0_0 l0_1 l0_2 a1_0 l1_1 l1_2 a2 a3).bind fun t249 => (if t249 = true then (spec_TroubleAt.j0 k a2 a3 true a0_0 l0_1 l0_2 a1_0 l1_1 l1_2) else ((spec_l14Unread.f k a1_0 l1_1 l1_2 a0_0 l0_1 l0_2 a3 a2).bind fun t250 => (spec_TroubleAt.j0 k a2 a3 t250 a0_0 l0_1 l0_2 a1_0 l1_1 l1_2)))
theorem spec_TroubleAt.mono_l : ∀ k, (∀ y0 y1 y2 y3 y4 y5 y6 y7 y8, LeO (spec_TroubleAt.j0 k y0 y1 y2 y3 y4 y5 y6 y7 y8) (spec_TroubleAt.j0 (k + 1) y0 y1 y2 y3 y4 y5 y6 y7 y8))
  | 0 => fun _ _ _ _ _ _ _ _ _ r h => by simp [spec_TroubleAt.j0] at h
  | k + 1 => by
    have ih0 := spec_TroubleAt.mono_l k
    · intro y0 y1 y2 y3 y4 y5 y6 y7 y8
      unfold spec_TroubleAt.j0
      exact mo3_ ih0 spec_NextPairs.mono spec_l14Unread.mono
theorem spec_TroubleAt.mono : ∀ a0 a1 a2 a3 a4 a5 a6 a7 k, LeO (spec_TroubleAt.f k a0 a1 a2 a3 a4 a5 a6 a7) (spec_TroubleAt.f (k + 1) a0 a1 a2 a3 a4 a5 a6 a7) := by
  intro a0 a1 a2 a3 a4 a5 a6 a7 k
  have ih0 := spec_TroubleAt.mono_l k
  unfold spec_TroubleAt.f
  exact mo3_ ih0 spec_NextPairs.mono spec_l14Unread.mono
set_option maxHeartbeats 8000000 in
set_option maxRecDepth 100000 in
theorem spec_TroubleAt.calls (k : Nat) (a0_0 : Int) (A0_1 : Option Addr) (c0_1 : Nat) (l0_1 : List Bool) (A0_2 : Option Addr) (c0_2 : Nat) (l0_2 : List (S78)) (a1_0 : Int) (A1_1 : Option Addr) (c1_1 : Nat) (l1_1 : List Bool) (A1_2 : Option Addr) (c1_2 : Nat) (l1_2 : List (S78)) (a2 : Int) (a3 : Int) (r : Int) (w : World) (hr0_1 : Kd.C Kd.bool w A0_1 l0_1.length l0_1) (hc0_1 : l0_1.length ≤ c0_1) (hr0_2 : Kd.C k78 w A0_2 l0_2.length l0_2) (hc0_2 : l0_2.length ≤ c0_2) (hr1_1 : Kd.C Kd.bool w A1_1 l1_1.length l1_1) (hc1_1 : l1_1.length ≤ c1_1) (hr1_2 : Kd.C k78 w A1_2 l1_2.length l1_2) (hc1_2 : l1_2.length ≤ c1_2) (h : spec_TroubleAt.f k a0_0 l0_1 l0_2 a1_0 l1_1 l1_2 a2 a3 = some r) :
    Calls Try.prog 72 #[.agg #[.int .i64 a0_0, .slice A0_1 l0_1.length c0_1, .slice A0_2 l0_2.length c0_2], .agg #[.int .i64 a1_0, .slice A1_1 l1_1.length c1_1, .slice A1_2 l1_2.length c1_2], .int .i64 a2, .int .i64 a3] w fun e w' => e = .returned (.int .i64 r) ∧ Below w.heap.size w w' := by
  have hu34 := Try.underlying34
  have HR0_1 := Q_ hr0_1
  have HC0_1 := Q_ hc0_1
  clear hr0_1 hc0_1
  have HR0_2 := Q_ hr0_2
  have HC0_2 := Q_ hc0_2
  clear hr0_2 hc0_2
  have HR1_1 := Q_ hr1_1
  have HC1_1 := Q_ hc1_1
  clear hr1_1 hc1_1
  have HR1_2 := Q_ hr1_2
  have HC1_2 := Q_ hc1_2
  clear hr1_2 hc1_2
  have HB := Q_ (Below.refl w.heap.size w)
  have H : ((spec_l14Unread.f k a0_0 l0_1 l0_2 a1_0 l1_1 l1_2 a2 a3).bind fun t249 => (if t249 = true then (spec_TroubleAt.j0 k a2 a3 true a0_0 l0_1 l0_2 a1_0 l1_1 l1_2) else ((spec_l14Unread.f k a1_0 l1_1 l1_2 a0_0 l0_1 l0_2 a3 a2).bind fun t250 => (spec_TroubleAt.j0 k a2 a3 t250 a0_0 l0_1 l0_2 a1_0 l1_1 l1_2)))) = some r := h
  clear h
  have HC5 := Q_ H
  clear H
  go_enter Try.func72, Try.ntmps72
  go_upto_region 1 with (first | ((with_reducible refine gate_dst (N := 4) rfl ?_); refine box_event ?hg (N := 4) ?hd (cs := #[.int .i64 a0_0, .slice A0_1 l0_1.length c0_1, .slice A0_2 l0_2.length c0_2]) (t := 34) ?hr ?_; (case hd => rfl); (case hg => rfl); (case hr => first | (go_simp; done) | (go_simp; rfl)); intro gb247 hg w6 hbox hb; have n0_ := Q_ (below_step (pb_ HB.out) hb); have n1_ := Q_ (hbox); have n2_ := Q_ ((by rw [hg]; exact (below_size (pb_ HB.out)) : w.heap.size ≤ gb247)); have n3_ := n2_; clear HB; have HB := n0_; have BK247 := n1_; have GW247 := n2_; have GE247 := n3_; clear n0_ n1_ n2_ n3_; clear hb hbox hg) | ((with_reducible refine gate_dst (N := 5) rfl ?_); refine box_event ?hg (N := 5) ?hd (cs := #[.int .i64 a1_0, .slice A1_1 l1_1.length c1_1, .slice A1_2 l1_2.length c1_2]) (t := 34) ?hr ?_; (case hd => rfl); (case hg => rfl); (case hr => first | (go_simp; done) | (go_simp; rfl)); intro gb248 hg w7 hbox hb; have n0_ := Q_ (bb_ BK247.out hb); have n1_ := Q_ (below_step (pb1_ HB.out GE247.out) hb); have n2_ := Q_ (hbox); have n3_ := Q_ ((by rw [hg]; exact (below_size (pb1_ HB.out GE247.out)) : w.heap.size ≤ gb248)); have n4_ := n3_; have n5_ := Q_ ((by rw [hg]; exact Nat.ne_of_lt (blk_lt (pk_ BK247.out)) : gb247 ≠ gb248)); have n6_ := Q_ ((by rw [hg]; exact Nat.ne_of_gt (blk_lt (pk_ BK247.out)) : gb248 ≠ gb247)); clear BK247; clear HB; have BK247 := n0_; have HB := n1_; have BK248 := n2_; have GW248 := n3_; have GE248 := n4_; have NB247_248 := n5_; have NB248_247 := n6_; clear n0_ n1_ n2_ n3_ n4_ n5_ n6_; clear hb hbox hg))
  (try simp only [Act.put, List.setIfInBounds_toArray, List.set_cons_zero, List.set_cons_succ])
  go_cut [9] (fun v9 wc => ∃ (kq : Nat) (x9_4 : Bool), v9 = .bool x9_4 ∧ Aside0 (spec_TroubleAt.j0 kq a2 a3 x9_4 a0_0 l0_1 l0_2 a1_0 l1_1 l1_2 = some r) ∧ Aside0 (kq ≤ k) ∧ Aside0 (wc.heap[gb247]? = some (.cells #[.int .i64 a0_0, (.slice A0_1 l0_1.length c0_1), (.slice A0_2 l0_2.length c0_2)] 34 (0, 0))) ∧ Aside0 (wc.heap[gb248]? = some (.cells #[.int .i64 a1_0, (.slice A1_1 l1_1.length c1_1), (.slice A1_2 l1_2.length c1_2)] 34 (0, 0))) ∧ Aside0 (Below w.heap.size w wc))
  case first =>
    have H := HC5.out
    clear HC5
    replace H := Option.bind_eq_some_iff.mp H
    obtain ⟨t249, A80, H⟩ := H
    (try dsimp only at H)
    have A8 := Q_ A80
    clear A80
    by_cases c9 : t249 = true
    · subst c9
      rw [if_pos rfl] at H
      have H' := Q_ H
      clear H
      have hnb10 := NB247_248.out
      have hnc10 := NB248_247.out
      have hcz11 := bc3_ BK247.out
      have hcz12 := bc3_ BK248.out
      go_wp2_with (first | ((with_reducible refine gate_callee (f := 86) rfl ?_); refine gl_ (some 14) Try.func86 #[.agg #[.int .i64 a0_0, .slice A0_1 l0_1.length c0_1, .slice A0_2 l0_2.length c0_2], .agg #[.int .i64 a1_0, .slice A1_1 l1_1.length c1_1, .slice A1_2 l1_2.length c1_2], .int .i64 a2, .int .i64 a3] ?_; (with_reducible refine (spec_l14Unread.calls k a0_0 _ _ l0_1 _ _ l0_2 a1_0 _ _ l1_1 _ _ l1_2 a2 a3 true _ ?side1 ?side2 ?side3 ?side4 ?side5 ?side6 ?side7 ?side8 A8.out).mono ?_); (case side1 => exact cb_ HR0_1 HB); (case side2 => exact HC0_1.out); (case side3 => exact cb_ HR0_2 HB); (case side4 => exact HC0_2.out); (case side5 => exact cb_ HR1_1 HB); (case side6 => exact HC1_1.out); (case side7 => exact cb_ HR1_2 HB); (case side8 => exact HC1_2.out); rintro e w13 ⟨rfl, hb⟩; refine ⟨_, rfl, ?_⟩; have _ := Q_ (bb_ BK247.out hb); have _ := Q_ (bb_ BK248.out hb); have _ := Q_ (below_step (pb2_ HB.out GE247.out GE248.out) hb); clear BK247 BK248 HB; rename_i BK247 BK248 HB; (try clear hb); (try clear hb2); (try clear hk); (try clear hi)))
      go_meet
      case rel => exact ⟨_, (true), el_, H', ⟨by first | omega | exact Nat.le_refl _⟩, ⟨pk_ BK247.out⟩, ⟨pk_ BK248.out⟩, ⟨pb2_ HB.out GE247.out GE248.out⟩⟩
    replace c9 := Bool.eq_false_iff.mpr c9
    subst c9
    rw [if_neg (show ¬ (false = true) by decide)] at H
    replace H := Option.bind_eq_some_iff.mp H
    obtain ⟨t250, A140, H⟩ := H
    replace H : (spec_TroubleAt.j0 k a2 a3 t250 a0_0 l0_1 l0_2 a1_0 l1_1 l1_2) = some r := H
    have A14 := Q_ A140
    clear A140
    have H' := Q_ H
    clear H
    have hnb15 := NB247_248.out
    have hnc15 := NB248_247.out
    have hcz16 := bc3_ BK247.out
    have hcz17 := bc3_ BK248.out
    go_wp2_with (first | ((with_reducible refine gate_callee (f := 86) rfl ?_); refine gl_ (some 14) Try.func86 #[.agg #[.int .i64 a0_0, .slice A0_1 l0_1.length c0_1, .slice A0_2 l0_2.length c0_2], .agg #[.int .i64 a1_0, .slice A1_1 l1_1.length c1_1, .slice A1_2 l1_2.length c1_2], .int .i64 a2, .int .i64 a3] ?_; (with_reducible refine (spec_l14Unread.calls k a0_0 _ _ l0_1 _ _ l0_2 a1_0 _ _ l1_1 _ _ l1_2 a2 a3 false _ ?side1 ?side2 ?side3 ?side4 ?side5 ?side6 ?side7 ?side8 A8.out).mono ?_); (case side1 => exact cb_ HR0_1 HB); (case side2 => exact HC0_1.out); (case side3 => exact cb_ HR0_2 HB); (case side4 => exact HC0_2.out); (case side5 => exact cb_ HR1_1 HB); (case side6 => exact HC1_1.out); (case side7 => exact cb_ HR1_2 HB); (case side8 => exact HC1_2.out); rintro e w18 ⟨rfl, hb⟩; refine ⟨_, rfl, ?_⟩; have _ := Q_ (bb_ BK247.out hb); have _ := Q_ (bb_ BK248.out hb); have _ := Q_ (below_step (pb2_ HB.out GE247.out GE248.out) hb); clear BK247 BK248 HB; rename_i BK247 BK248 HB; (try clear hb); (try clear hb2); (try clear hk); (try clear hi); have hcz19 := bc3_ BK248.out; have hcz20 := bc3_ BK247.out) | (go_at_call 86; (with_reducible refine (spec_l14Unread.calls k a1_0 _ _ l1_1 _ _ l1_2 a0_0 _ _ l0_1 _ _ l0_2 a3 a2 t250 _ ?side1 ?side2 ?side3 ?side4 ?side5 ?side6 ?side7 ?side8 A14.out).mono ?_); (case side1 => exact cb_ HR1_1 HB); (case side2 => exact HC1_1.out); (case side3 => exact cb_ HR1_2 HB); (case side4 => exact HC1_2.out); (case side5 => exact cb_ HR0_1 HB); (case side6 => exact HC0_1.out); (case side7 => exact cb_ HR0_2 HB); (case side8 => exact HC0_2.out); rintro e w21 ⟨rfl, hb⟩; have _ := Q_ (bb_ BK247.out hb); have _ := Q_ (bb_ BK248.out hb); have _ := Q_ (below_step (pb2_ HB.out GE247.out GE248.out) hb); clear BK247 BK248 HB; rename_i BK247 BK248 HB; (try clear hb); (try clear hb2); (try clear hk); (try clear hi)))
    go_meet
    case rel => exact ⟨_, (t250), el_, H', ⟨by first | omega | exact Nat.le_refl _⟩, ⟨pk_ BK247.out⟩, ⟨pk_ BK248.out⟩, ⟨pb2_ HB.out GE247.out GE248.out⟩⟩
  clear HC5
  try clear c1
  try clear p2
  try clear c7
  try clear c8
  try clear c9
  try clear c10
  try clear c15
  try clear hcz11
  try clear hcz12
  try clear hcz16
  try clear hcz17
  try clear hcz19
  try clear hcz20
  obtain ⟨kq, x9_4, rfl, HA, HJ4, BK247, BK248, HB⟩ := hcut
  rcases kq with _ | kj4
  · exact absurd HA.out (by simp [spec_TroubleAt.j0])
  have H := HA.out
  clear HA
  simp only [spec_TroubleAt.j0] at H
  by_cases c22 : x9_4 = true
  · subst c22
    rw [if_pos rfl] at H
    obtain rfl := Option.some.inj H
    go_wp2
    go_ret
    exact ⟨er_, pb2_ HB.out GE247.out GE248.out⟩
  replace c22 := Bool.eq_false_iff.mpr c22
  subst c22
  rw [if_neg (show ¬ (false = true) by decide)] at H
  replace H := Option.bind_eq_some_iff.mp H
  obtain ⟨t251, A230, H⟩ := H
  (try dsimp only at H)
  have A23 := Q_ A230
  clear A230
  by_cases c24 : (t251.length : Int) = 0
  rotate_left
  · rw [if_neg c24] at H
    have c24b0 : ((t251.length : Int) == 0) = false := beq_eq_false_iff_ne.mpr c24
    have c24b1 : ((t251.length : Int) != 0) = true := bne_iff_ne.mpr c24
    have c24b2 : ¬ (t251 = []) := fun h_ => c24 (by rw [h_]; rfl)
    obtain rfl := Option.some.inj H
    have hnb25 := NB247_248.out
    have hnc25 := NB248_247.out
    have hcz26 := bc3_ BK247.out
    have hcz27 := bc3_ BK248.out
    go_wp2_with (first | ((with_reducible refine gate_callee (f := 85) rfl ?_); refine gl_ (some 27) Try.func85 #[.agg #[.int .i64 a0_0, .slice A0_1 l0_1.length c0_1, .slice A0_2 l0_2.length c0_2], .agg #[.int .i64 a1_0, .slice A1_1 l1_1.length c1_1, .slice A1_2 l1_2.length c1_2], .int .i64 a2, .int .i64 a3] ?_; (with_reducible refine (spec_NextPairs.calls kj4 a0_0 _ _ l0_1 _ _ l0_2 a1_0 _ _ l1_1 _ _ l1_2 a2 a3 t251 _ ?side1 ?side2 ?side3 ?side4 ?side5 ?side6 ?side7 ?side8 A23.out).mono ?_); (case side1 => exact cb_ HR0_1 HB); (case side2 => exact HC0_1.out); (case side3 => exact cb_ HR0_2 HB); (case side4 => exact HC0_2.out); (case side5 => exact cb_ HR1_1 HB); (case side6 => exact HC1_1.out); (case side7 => exact cb_ HR1_2 HB); (case side8 => exact HC1_2.out); rintro e w28 ⟨v252, rfl, ho0, hb⟩; refine ⟨_, rfl, ?_⟩; have _ := Q_ (Kd.S_lower ho0 (below_size (pb2_ HB.out GE247.out GE248.out))); have _ := Q_ (bb_ BK247.out hb); have _ := Q_ (bb_ BK248.out hb); have _ := Q_ (below_step (pb2_ HB.out GE247.out GE248.out) hb); clear BK247 BK248 HB; rename_i HO253 BK247 BK248 HB; (try clear hb); (try clear hb2); (try clear hk); (try clear hi); (try clear ho0); obtain ⟨Ao29, co29, eo29⟩ := Kd.S_slice HO253.out; subst eo29))
    go_ret
    exact ⟨er_, pb2_ HB.out GE247.out GE248.out⟩
  rw [if_pos c24] at H
  have c24b0 : ((t251.length : Int) == 0) = true := beq_iff_eq.mpr c24
  have c24b1 : ((t251.length : Int) != 0) = false := bne_eq_false_iff_eq.mpr c24
  clear c24
  replace H := Option.bind_eq_some_iff.mp H
  obtain ⟨t254, A300, H⟩ := H
  (try dsimp only at H)
  have A30 := Q_ A300
  clear A300
  by_cases c31 : t254 = true
  rotate_left
  · replace c31 := Bool.eq_false_iff.mpr c31
    subst c31
    rw [if_neg (show ¬ (false = true) by decide)] at H
    obtain rfl := Option.some.inj H
    have hnb32 := NB247_248.out
    have hnc32 := NB248_247.out
    have hcz33 := bc3_ BK247.out
    have hcz34 := bc3_ BK248.out
    go_wp2_with (first | ((with_reducible refine gate_callee (f := 85) rfl ?_); refine gl_ (some 27) Try.func85 #[.agg #[.int .i64 a0_0, .slice A0_1 l0_1.length c0_1, .slice A0_2 l0_2.length c0_2], .agg #[.int .i64 a1_0, .slice A1_1 l1_1.length c1_1, .slice A1_2 l1_2.length c1_2], .int .i64 a2, .int .i64 a3] ?_; (with_reducible refine (spec_NextPairs.calls kj4 a0_0 _ _ l0_1 _ _ l0_2 a1_0 _ _ l1_1 _ _ l1_2 a2 a3 t251 _ ?side1 ?side2 ?side3 ?side4 ?side5 ?side6 ?side7 ?side8 A23.out).mono ?_); (case side1 => exact cb_ HR0_1 HB); (case side2 => exact HC0_1.out); (case side3 => exact cb_ HR0_2 HB); (case side4 => exact HC0_2.out); (case side5 => exact cb_ HR1_1 HB); (case side6 => exact HC1_1.out); (case side7 => exact cb_ HR1_2 HB); (case side8 => exact HC1_2.out); rintro e w35 ⟨v252, rfl, ho0, hb⟩; refine ⟨_, rfl, ?_⟩; have _ := Q_ (Kd.S_lower ho0 (below_size (pb2_ HB.out GE247.out GE248.out))); have _ := Q_ (bb_ BK247.out hb); have _ := Q_ (bb_ BK248.out hb); have _ := Q_ (below_step (pb2_ HB.out GE247.out GE248.out) hb); clear BK247 BK248 HB; rename_i HO253 BK247 BK248 HB; (try clear hb); (try clear hb2); (try clear hk); (try clear hi); (try clear ho0); obtain ⟨Ao36, co36, eo36⟩ := Kd.S_slice HO253.out; subst eo36; have hcz37 := bc3_ BK247.out) | (go_at_call 77; (with_reducible refine (spec_l14End.calls a0_0 _ _ l0_1 _ _ l0_2 a2 false _ ?side1 ?side2 ?side3 ?side4 A30.out).mono ?_); (case side1 => exact cb_ HR0_1 HB); (case side2 => exact HC0_1.out); (case side3 => exact cb_ HR0_2 HB); (case side4 => exact HC0_2.out); rintro e w38 ⟨rfl, hb⟩; have _ := Q_ (Kd.S_below (ps_ HO253.out) hb); have _ := Q_ (bb_ BK247.out hb); have _ := Q_ (bb_ BK248.out hb); have _ := Q_ (below_step (pb2_ HB.out GE247.out GE248.out) hb); clear HO253 BK247 BK248 HB; rename_i HO253 BK247 BK248 HB; (try clear hb); (try clear hb2); (try clear hk); (try clear hi)))
    go_ret
    exact ⟨er_, pb2_ HB.out GE247.out GE248.out⟩
  subst c31
  rw [if_pos rfl] at H
  replace H := Option.bind_eq_some_iff.mp H
  obtain ⟨t255, A390, H⟩ := H
  replace H : (if t255 = true then (some 0) else (some 2)) = some r := H
  have A39 := Q_ A390
  clear A390
  have HS_ := Q_ H
  clear H
  have hnb40 := NB247_248.out
  have hnc40 := NB248_247.out
  have hcz41 := bc3_ BK247.out
  have hcz42 := bc3_ BK248.out
  go_upto_if 22 with (first | ((with_reducible refine gate_callee (f := 85) rfl ?_); refine gl_ (some 27) Try.func85 #[.agg #[.int .i64 a0_0, .slice A0_1 l0_1.length c0_1, .slice A0_2 l0_2.length c0_2], .agg #[.int .i64 a1_0, .slice A1_1 l1_1.length c1_1, .slice A1_2 l1_2.length c1_2], .int .i64 a2, .int .i64 a3] ?_; (with_reducible refine (spec_NextPairs.calls kj4 a0_0 _ _ l0_1 _ _ l0_2 a1_0 _ _ l1_1 _ _ l1_2 a2 a3 t251 _ ?side1 ?side2 ?side3 ?side4 ?side5 ?side6 ?side7 ?side8 A23.out).mono ?_); (case side1 => exact cb_ HR0_1 HB); (case side2 => exact HC0_1.out); (case side3 => exact cb_ HR0_2 HB); (case side4 => exact HC0_2.out); (case side5 => exact cb_ HR1_1 HB); (case side6 => exact HC1_1.out); (case side7 => exact cb_ HR1_2 HB); (case side8 => exact HC1_2.out); rintro e w43 ⟨v252, rfl, ho0, hb⟩; refine ⟨_, rfl, ?_⟩; have _ := Q_ (Kd.S_lower ho0 (below_size (pb2_ HB.out GE247.out GE248.out))); have _ := Q_ (bb_ BK247.out hb); have _ := Q_ (bb_ BK248.out hb); have _ := Q_ (below_step (pb2_ HB.out GE247.out GE248.out) hb); clear BK247 BK248 HB; rename_i HO253 BK247 BK248 HB; (try clear hb); (try clear hb2); (try clear hk); (try clear hi); (try clear ho0); obtain ⟨Ao44, co44, eo44⟩ := Kd.S_slice HO253.out; subst eo44; have hcz45 := bc3_ BK247.out) | (go_at_call 77; (with_reducible refine (spec_l14End.calls a0_0 _ _ l0_1 _ _ l0_2 a2 true _ ?side1 ?side2 ?side3 ?side4 A30.out).mono ?_); (case side1 => exact cb_ HR0_1 HB); (case side2 => exact HC0_1.out); (case side3 => exact cb_ HR0_2 HB); (case side4 => exact HC0_2.out); rintro e w46 ⟨rfl, hb⟩; have _ := Q_ (Kd.S_below (ps_ HO253.out) hb); have _ := Q_ (bb_ BK247.out hb); have _ := Q_ (bb_ BK248.out hb); have _ := Q_ (below_step (pb2_ HB.out GE247.out GE248.out) hb); clear HO253 BK247 BK248 HB; rename_i HO253 BK247 BK248 HB; (try clear hb); (try clear hb2); (try clear hk); (try clear hi); have hcz47 := bc3_ BK248.out) | (go_at_call 77; (with_reducible refine (spec_l14End.calls a1_0 _ _ l1_1 _ _ l1_2 a3 t255 _ ?side1 ?side2 ?side3 ?side4 A39.out).mono ?_); (case side1 => exact cb_ HR1_1 HB); (case side2 => exact HC1_1.out); (case side3 => exact cb_ HR1_2 HB); (case side4 => exact HC1_2.out); rintro e w48 ⟨rfl, hb⟩; have _ := Q_ (Kd.S_below (ps_ HO253.out) hb); have _ := Q_ (bb_ BK247.out hb); have _ := Q_ (bb_ BK248.out hb); have _ := Q_ (below_step (pb2_ HB.out GE247.out GE248.out) hb); clear HO253 BK247 BK248 HB; rename_i HO253 BK247 BK248 HB; (try clear hb); (try clear hb2); (try clear hk); (try clear hi)))
  (try simp only [Act.put, List.setIfInBounds_toArray, List.set_cons_zero, List.set_cons_succ])
  have H := HS_.out
  clear HS_
  by_cases c49 : t255 = true
  rotate_left
  · replace c49 := Bool.eq_false_iff.mpr c49
    subst c49
    rw [if_neg (show ¬ (false = true) by decide)] at H
    obtain rfl := Option.some.inj H
    go_wp2
    go_ret
    exact ⟨er_, pb2_ HB.out GE247.out GE248.out⟩
  subst c49
  rw [if_pos rfl] at H
  obtain rfl := Option.some.inj H
  go_wp2
  go_ret
  exact ⟨er_, pb2_ HB.out GE247.out GE248.out⟩

/-! ### spec_FirstTrouble: function 60 -/
def spec_FirstTrouble.l0 : Nat → List (List Int) → Int → Int → List Bool → List (S78) → Int → List Bool → List (S78) → Option (List Int)
  | 0, _, _, _, _, _, _, _, _ => none
  | k + 1, x5, x6, x257000, x257001, x257002, x258000, x258001, x258002 => if x6 < (x5.length : Int) then (if 0 ≤ x6 then (if 0 < ((rd_L7 x5 x6).length : Int) then (if 1 < ((rd_L7 x5 x6).length : Int) then ((spec_TroubleAt.f k x257000 x257001 x257002 x258000 x258001 x258002 (rd (rd_L7 x5 x6) 0) (rd (rd_L7 x5 x6) 1)).bind fun t265 => (if t265 = 0 then (spec_FirstTrouble.l0 k x5 (wrap64 (x6 + 1)) x257000 x257001 x257002 x258000 x258001 x258002) else ((some (([] : List Int) : List Int)).bind fun y266 => (if y266.length + (rd_L7 x5 x6).length < 17592186044416 then (some (y266 ++ (rd_L7 x5 x6))) else (none))))) else (none)) else (none)) else (none)) else (some (([] : List Int)))
def spec_FirstTrouble.f (k : Nat) (a0_0 : Int) (l0_1 : List Bool) (l0_2 : List (S78)) (a1_0 : Int) (l1_1 : List Bool) (l1_2 : List (S78)) : Option (List Int) := (spec_PairsOf.f k a0_0 l0_1 l0_2 a1_0 l1_1 l1_2).bind fun t258 => (spec_FirstTrouble.l0 k t258 0 a0_0 l0_1 l0_2 a1_0 l1_1 l1_2)
theorem spec_FirstTrouble.mono_l : ∀ k, (∀ y0 y1 y2 y3 y4 y5 y6 y7, LeO (spec_FirstTrouble.l0 k y0 y1 y2 y3 y4 y5 y6 y7) (spec_FirstTrouble.l0 (k + 1) y0 y1 y2 y3 y4 y5 y6 y7))
  | 0 => fun _ _ _ _ _ _ _ _ r h => by simp [spec_FirstTrouble.l0] at h
  | k + 1 => by
    have ih0 := spec_FirstTrouble.mono_l k
    · intro y0 y1 y2 y3 y4 y5 y6 y7
      unfold spec_FirstTrouble.l0
      exact mo3_ ih0 spec_PairsOf.mono spec_TroubleAt.mono
theorem spec_FirstTrouble.mono : ∀ a0 a1 a2 a3 a4 a5 k, LeO (spec_FirstTrouble.f k a0 a1 a2 a3 a4 a5) (spec_FirstTrouble.f (k + 1) a0 a1 a2 a3 a4 a5) := by
  intro a0 a1 a2 a3 a4 a5 k
  have ih0 := spec_FirstTrouble.mono_l k
  unfold spec_FirstTrouble.f
  exact mo3_ ih0 spec_PairsOf.mono spec_TroubleAt.mono
def spec_FirstTrouble.T5 : Bool × List (List Nat × List Nat) := (true, [([], []), ([], []), ([], []), ([], []), ([2, 3], [2, 3]), ([4], [4]), ([5], [5]), ([6], [6]), ([], []), ([], []), ([8, 9], [8, 9]), ([10], [10]), ([11], [11]), ([12], [12]), ([0, 1, 7, 13], [0, 1, 7, 13]), ([14], [14])])
def spec_FirstTrouble.B5 : List Nat := [0, 0, 0, 0, 12, 28, 60, 124, 0, 0, 768, 1792, 3840, 7936, 16383, 32767]
theorem spec_FirstTrouble.tab5 : rtab .any (opsOf Try.f60 5) = spec_FirstTrouble.T5 := by kernel_rfl
theorem spec_FirstTrouble.bits5 : waitsOk spec_FirstTrouble.T5.2 spec_FirstTrouble.B5 = true := by kernel_rfl
set_option maxHeartbeats 8000000 in
set_option maxRecDepth 100000 in
theorem spec_FirstTrouble.calls (k : Nat) (a0_0 : Int) (A0_1 : Option Addr) (c0_1 : Nat) (l0_1 : List Bool) (A0_2 : Option Addr) (c0_2 : Nat) (l0_2 : List (S78)) (a1_0 : Int) (A1_1 : Option Addr) (c1_1 : Nat) (l1_1 : List Bool) (A1_2 : Option Addr) (c1_2 : Nat) (l1_2 : List (S78)) (r : List Int) (w : World) (hr0_1 : Kd.C Kd.bool w A0_1 l0_1.length l0_1) (hc0_1 : l0_1.length ≤ c0_1) (hr0_2 : Kd.C k78 w A0_2 l0_2.length l0_2) (hc0_2 : l0_2.length ≤ c0_2) (hr1_1 : Kd.C Kd.bool w A1_1 l1_1.length l1_1) (hc1_1 : l1_1.length ≤ c1_1) (hr1_2 : Kd.C k78 w A1_2 l1_2.length l1_2) (hc1_2 : l1_2.length ≤ c1_2) (h : spec_FirstTrouble.f k a0_0 l0_1 l0_2 a1_0 l1_1 l1_2 = some r) :
    Calls Try.prog 60 #[.agg #[.int .i64 a0_0, .slice A0_1 l0_1.length c0_1, .slice A0_2 l0_2.length c0_2], .agg #[.int .i64 a1_0, .slice A1_1 l1_1.length c1_1, .slice A1_2 l1_2.length c1_2]] w fun e w' => ∃ v0_ : Value, e = .returned (v0_) ∧ Kd.R (Kd.int .i64) 3 w' w.heap.size (fun _ => True) v0_ r ∧ Below w.heap.size w w' := by
  have hu34 := Try.underlying34
  have HR0_1 := Q_ hr0_1
  have HC0_1 := Q_ hc0_1
  clear hr0_1 hc0_1
  have HR0_2 := Q_ hr0_2
  have HC0_2 := Q_ hc0_2
  clear hr0_2 hc0_2
  have HR1_1 := Q_ hr1_1
  have HC1_1 := Q_ hc1_1
  clear hr1_1 hc1_1
  have HR1_2 := Q_ hr1_2
  have HC1_2 := Q_ hc1_2
  clear hr1_2 hc1_2
  have HB := Q_ (Below.refl w.heap.size w)
  have H : ((spec_PairsOf.f k a0_0 l0_1 l0_2 a1_0 l1_1 l1_2).bind fun t258 => (spec_FirstTrouble.l0 k t258 0 a0_0 l0_1 l0_2 a1_0 l1_1 l1_2)) = some r := h
  clear h
  replace H := Option.bind_eq_some_iff.mp H
  obtain ⟨t258, A30, H⟩ := H
  replace H : (spec_FirstTrouble.l0 k t258 0 a0_0 l0_1 l0_2 a1_0 l1_1 l1_2) = some r := H
  have A3 := Q_ A30
  clear A30
  have H' := Q_ H
  clear H
  go_enter Try.func60, Try.ntmps60
  go_wp2_with (first | ((with_reducible refine gate_dst (N := 2) rfl ?_); refine box_event ?hg (N := 2) ?hd (cs := #[.int .i64 a0_0, .slice A0_1 l0_1.length c0_1, .slice A0_2 l0_2.length c0_2]) (t := 34) ?hr ?_; (case hd => rfl); (case hg => rfl); (case hr => first | (go_simp; done) | (go_simp; rfl)); intro gb256 hg w4 hbox hb; have n0_ := Q_ (below_step (pb_ HB.out) hb); have n1_ := Q_ (hbox); have n2_ := Q_ ((by rw [hg]; exact (below_size (pb_ HB.out)) : w.heap.size ≤ gb256)); have n3_ := n2_; clear HB; have HB := n0_; have BK256 := n1_; have GW256 := n2_; have GE256 := n3_; clear n0_ n1_ n2_ n3_; clear hb hbox hg) | ((with_reducible refine gate_dst (N := 3) rfl ?_); refine box_event ?hg (N := 3) ?hd (cs := #[.int .i64 a1_0, .slice A1_1 l1_1.length c1_1, .slice A1_2 l1_2.length c1_2]) (t := 34) ?hr ?_; (case hd => rfl); (case hg => rfl); (case hr => first | (go_simp; done) | (go_simp; rfl)); intro gb257 hg w5 hbox hb; have n0_ := Q_ (bb_ BK256.out hb); have n1_ := Q_ (below_step (pb1_ HB.out GE256.out) hb); have n2_ := Q_ (hbox); have n3_ := Q_ ((by rw [hg]; exact (below_size (pb1_ HB.out GE256.out)) : w.heap.size ≤ gb257)); have n4_ := n3_; have n5_ := Q_ ((by rw [hg]; exact Nat.ne_of_lt (blk_lt (pk_ BK256.out)) : gb256 ≠ gb257)); have n6_ := Q_ ((by rw [hg]; exact Nat.ne_of_gt (blk_lt (pk_ BK256.out)) : gb257 ≠ gb256)); clear BK256; clear HB; have BK256 := n0_; have HB := n1_; have BK257 := n2_; have GW257 := n3_; have GE257 := n4_; have NB256_257 := n5_; have NB257_256 := n6_; clear n0_ n1_ n2_ n3_ n4_ n5_ n6_; clear hb hbox hg; have hnb6 := NB256_257.out; have hnc6 := NB257_256.out; have hcz7 := bc3_ BK256.out; have hcz8 := bc3_ BK257.out) | ((with_reducible refine gate_callee (f := 71) rfl ?_); refine gl_ (some 9) Try.func71 #[.agg #[.int .i64 a0_0, .slice A0_1 l0_1.length c0_1, .slice A0_2 l0_2.length c0_2], .agg #[.int .i64 a1_0, .slice A1_1 l1_1.length c1_1, .slice A1_2 l1_2.length c1_2]] ?_; (with_reducible refine (spec_PairsOf.calls k a0_0 _ _ l0_1 _ _ l0_2 a1_0 _ _ l1_1 _ _ l1_2 t258 _ ?side1 ?side2 ?side3 ?side4 ?side5 ?side6 ?side7 ?side8 A3.out).mono ?_); (case side1 => exact cb_ HR0_1 HB); (case side2 => exact HC0_1.out); (case side3 => exact cb_ HR0_2 HB); (case side4 => exact HC0_2.out); (case side5 => exact cb_ HR1_1 HB); (case side6 => exact HC1_1.out); (case side7 => exact cb_ HR1_2 HB); (case side8 => exact HC1_2.out); rintro e w9 ⟨v259, rfl, ho0, hb⟩; refine ⟨_, rfl, ?_⟩; have _ := Q_ (Kd.N_lower (Kd.N_mono (ok' := fun k_ => k_ ≠ gb256 ∧ k_ ≠ gb257) ho0 (fun k_ hk_ => ⟨(Kd.freshB (g := gb256) (o := .cells #[.int .i64 a0_0, .slice A0_1 l0_1.length c0_1, .slice A0_2 l0_2.length c0_2] 34 (0, 0)) (pk_ BK256.out) k_ hk_), (Kd.freshB (g := gb257) (o := .cells #[.int .i64 a1_0, .slice A1_1 l1_1.length c1_1, .slice A1_2 l1_2.length c1_2] 34 (0, 0)) (pk_ BK257.out) k_ hk_)⟩)) (below_size (pb2_ HB.out GE256.out GE257.out))); have _ := Q_ (bb_ BK256.out hb); have _ := Q_ (bb_ BK257.out hb); have _ := Q_ (below_step (pb2_ HB.out GE256.out GE257.out) hb); clear BK256 BK257 HB; rename_i HO260 BK256 BK257 HB; (try clear hb); (try clear hb2); (try clear hk); (try clear hi); (try clear ho0)))
  (try simp only [Act.put, List.setIfInBounds_toArray, List.set_cons_zero, List.set_cons_succ])
  go_loopg [6] k (fun kq v6 w' => ∃ (x6_1 : Int), v6 = .int .i64 x6_1 ∧ Aside0 (spec_FirstTrouble.l0 kq t258 x6_1 a0_0 l0_1 l0_2 a1_0 l1_1 l1_2 = some r) ∧ Aside0 (kq ≤ k) ∧ Aside0 (Kd.N (Kd.slice 3 (Kd.int .i64)) 39 w' w.heap.size (fun k_ => k_ ≠ gb256 ∧ k_ ≠ gb257) v259 t258) ∧ Aside0 (w'.heap[gb256]? = some (.cells #[.int .i64 a0_0, (.slice A0_1 l0_1.length c0_1), (.slice A0_2 l0_2.length c0_2)] 34 (0, 0))) ∧ Aside0 (w'.heap[gb257]? = some (.cells #[.int .i64 a1_0, (.slice A1_1 l1_1.length c1_1), (.slice A1_2 l1_2.length c1_2)] 34 (0, 0))) ∧ Aside0 (Below w.heap.size w w'))
  case atStart => exact ⟨(0), el_, H', ⟨Nat.le_refl _⟩, ⟨by (with_reducible repeat (first | apply Kd.N_alloc | apply Kd.N_drewN | apply Kd.N_drew)); exact HO260.out⟩, ⟨pk_ BK256.out⟩, ⟨pk_ BK257.out⟩, ⟨pb2_ HB.out GE256.out GE257.out⟩⟩
  clear H'
  try clear c1
  try clear p2
  try clear c6
  try clear c7
  try clear hcz7
  try clear hcz8
  obtain ⟨x6_1, rfl, HA, HK1, HO_5, BK256, BK257, HB⟩ := hrel
  rcases gk with _ | k1
  · exact absurd HA.out (by simp [spec_FirstTrouble.l0])
  have H := HA.out
  clear HA
  simp only [spec_FirstTrouble.l0] at H
  by_cases c10 : x6_1 < (t258.length : Int)
  rotate_left
  · rw [if_neg c10] at H
    have c10b0 : decide (x6_1 < (t258.length : Int)) = false := decide_eq_false c10
    clear c10
    obtain ⟨y273, hy273⟩ : ∃ y_ : List Int, y_ = (([] : List Int)) := ⟨_, rfl⟩
    replace H : (some y273) = some r := by first | (rw [hy273]; with_reducible exact H) | (have H2_ := (Option.bind_some _ _).symm.trans H; rw [hy273]; with_reducible exact H2_) | (have H2_ := (Option.bind_some _ _).symm.trans H; with_reducible exact H2_) | with_reducible exact H | (rw [hy273]; exact H) | exact H
    have Ny273 := Q_ hy273
    clear hy273
    obtain rfl := Option.some.inj H
    obtain ⟨Ao11, co11, eo11⟩ := Kd.N_slice HO_5.out
    subst eo11
    go_wp2_with (first | ((with_reducible refine gate_dst (N := 38) rfl ?_); refine Kd.R_lit (Kd.int .i64) _ 3 ?hg (N := 38) ?hd (xs := ([] : List Int)) (inner := []) (ok := fun _ => True) (okp := fun _ => True) ?hr ?hp (fun _ hk => hk) trivial (Below.refl _ _) (Nat.le_refl _) (by simp) ?_; (case hd => rfl); (case hg => rfl); (case hr => first | (go_simp; done) | (go_simp; rfl)); (case hp => exact (Reps.none _ _)); intro v274 w12 ho13 hb hg_ hnew_; clear hg_ hnew_; (first | rw [← Ny273.out] at ho13 | (simp only [Int.reduceToNat] at ho13; rw [← Ny273.out] at ho13)); have n0_ := Q_ (Kd.N_elder' (by (with_reducible repeat (first | apply Kd.N_alloc | apply Kd.N_drewN | apply Kd.N_drew)); exact HO_5.out) (Kd.R_base ho13) hb); have n1_ := Q_ (Kd.R_lower ho13 (below_size (pb2_ HB.out GE256.out GE257.out))); have n2_ := Q_ (bb_ BK256.out hb); have n3_ := Q_ (bb_ BK257.out hb); have n4_ := Q_ (below_step (pb2_ HB.out GE256.out GE257.out) hb); clear HO_5; clear BK256; clear BK257; clear HB; have HO_5 := n0_; have HO275 := n1_; have BK256 := n2_; have BK257 := n3_; have HB := n4_; clear n0_ n1_ n2_ n3_ n4_; clear hb ho13))
    go_ret
    exact ⟨_, er_, pr_ HO275.out, pb2_ HB.out GE256.out GE257.out⟩
  rw [if_pos c10] at H
  have c10b0 : decide (x6_1 < (t258.length : Int)) = true := decide_eq_true c10
  clear c10
  by_cases c14 : 0 ≤ x6_1
  rotate_left
  · rw [if_neg c14] at H
    exact absurd H (by simp)
  rw [if_pos c14] at H
  have c14b0 : decide (0 ≤ x6_1) = true := decide_eq_true c14
  clear c14
  by_cases c15 : 0 < ((rd_L7 t258 x6_1).length : Int)
  rotate_left
  · rw [if_neg c15] at H
    exact absurd H (by simp)
  rw [if_pos c15] at H
  have c15b0 : decide (0 < ((rd_L7 t258 x6_1).length : Int)) = true := decide_eq_true c15
  have c15b1 : decide (0 < (rd_L7 t258 x6_1).length) = true := decide_eq_true (by omega)
  clear c15
  by_cases c16 : 1 < ((rd_L7 t258 x6_1).length : Int)
  rotate_left
  · rw [if_neg c16] at H
    exact absurd H (by simp)
  rw [if_pos c16] at H
  have c16b0 : decide (1 < ((rd_L7 t258 x6_1).length : Int)) = true := decide_eq_true c16
  have c16b1 : decide (1 < (rd_L7 t258 x6_1).length) = true := decide_eq_true (by omega)
  clear c16
  replace H := Option.bind_eq_some_iff.mp H
  obtain ⟨t265, A170, H⟩ := H
  (try dsimp only at H)
  have A17 := Q_ A170
  clear A170
  have HS_ := Q_ H
  clear H
  obtain ⟨Ao18, co18, eo18⟩ := Kd.N_slice HO_5.out
  subst eo18
  try go_wp2
  have _ := Q_ (Kd.N_drew HO_5.out)
  have _ := Q_ (blk_drew BK256.out)
  have _ := Q_ (blk_drew BK257.out)
  have _ := Q_ (below_drew1 HB.out)
  clear HO_5 BK256 BK257 HB
  rename_i HO_5 BK256 BK257 HB
  have p261 : 0 ≤ (x6_1 : Int) := dt_
  have q261 : x6_1 < (t258.length : Int) := dt_
  obtain ⟨ad261, A261_0, c261_0, e261, hx261_0, hl261_0, hi261_0⟩ := at_L7 (Kd.N_reads' HO_5.out).2.2 x6_1 p261 q261
  cases e261
  obtain ⟨ce261, hce261, hMe261, hcc261⟩ := Kd.N_get HO_5.out [] x6_1 p261 (by first | exact q261 | exact dt_ | (have e_ := (Kd.N_reads' HO_5.out).1; omega))
  obtain ⟨ua261_0, uc261_0, rfl, ul261_0, ge261_0⟩ := Kd.FK_slice_open hMe261
  have hv261_0 := hcc261 0 _ rfl
  rw [Nat.add_zero, show ((Kd.slice 3 (Kd.int .i64))).sz = 1 from rfl, Nat.mul_one] at hv261_0
  replace hv261_0 := Option.some.inj (hv261_0.symm.trans hx261_0)
  injection hv261_0 with hva_ hvn_ hvc_
  rw [hva_] at ge261_0
  rw [hvc_] at ul261_0
  have HL261_0 := Q_ (show Kd.V (Kd.int .i64) 3 _ w.heap.size _ _ (rd_L7 t258 x6_1) from Kd.V_mk ul261_0 ge261_0)
  clear hva_ hvn_ hvc_ ge261_0 ul261_0
  clear hcc261 hce261
  have HR261_0 := Q_ hi261_0
  have HC261_0 := Q_ hl261_0
  clear hi261_0 hl261_0
  replace p261 := eq_true p261
  replace q261 := eq_true q261
  have p262 : 0 ≤ (0 : Int) := (by omega)
  have q262 : 0 < ((rd_L7 t258 x6_1).length : Int) := dt_
  obtain ⟨ad262, e262, hx262_0⟩ := Kd.at_int (by repeat (first | (with_reducible exact HR261_0.out) | (with_reducible refine Kd.C_alloc ?_ _) | (with_reducible refine Kd.C_drewN ?_ _) | (with_reducible refine Kd.C_drew ?_) | exact HR261_0.out)) 0 p262 q262
  cases e262
  have qi262 : (0 < (rd_L7 t258 x6_1).length) = True := eq_true (by omega)
  (try rw [show ((0 : Int)).toNat = 0 from rfl] at hx262_0)
  (try rw [Addr.add_zero'] at hx262_0)
  replace p262 := eq_true p262
  replace q262 := eq_true q262
  have p263 : 0 ≤ (x6_1 : Int) := dt_
  have q263 : x6_1 < (t258.length : Int) := dt_
  obtain ⟨ad263, A263_0, c263_0, e263, hx263_0, hl263_0, hi263_0⟩ := at_L7 (Kd.N_reads' HO_5.out).2.2 x6_1 p263 q263
  obtain rfl : ad261 = ad263 := (by injection e263)
  obtain ⟨ce263, hce263, hMe263, hcc263⟩ := Kd.N_get HO_5.out [] x6_1 p263 (by first | exact q263 | exact dt_ | (have e_ := (Kd.N_reads' HO_5.out).1; omega))
  obtain ⟨ua263_0, uc263_0, rfl, ul263_0, ge263_0⟩ := Kd.FK_slice_open hMe263
  have hv263_0 := hcc263 0 _ rfl
  rw [Nat.add_zero, show ((Kd.slice 3 (Kd.int .i64))).sz = 1 from rfl, Nat.mul_one] at hv263_0
  replace hv263_0 := Option.some.inj (hv263_0.symm.trans hx263_0)
  injection hv263_0 with hva_ hvn_ hvc_
  rw [hva_] at ge263_0
  rw [hvc_] at ul263_0
  have HL263_0 := Q_ (show Kd.V (Kd.int .i64) 3 _ w.heap.size _ _ (rd_L7 t258 x6_1) from Kd.V_mk ul263_0 ge263_0)
  clear hva_ hvn_ hvc_ ge263_0 ul263_0
  clear hcc263 hce263
  have HR263_0 := Q_ hi263_0
  have HC263_0 := Q_ hl263_0
  clear hi263_0 hl263_0
  replace p263 := eq_true p263
  replace q263 := eq_true q263
  have ea_ := Option.some.inj (hx261_0.symm.trans hx263_0)
  injection ea_ with ea_ en_ ec_
  subst ea_
  subst ec_
  clear en_
  have p264 : 0 ≤ (1 : Int) := (by omega)
  have q264 : 1 < ((rd_L7 t258 x6_1).length : Int) := dt_
  obtain ⟨ad264, e264, hx264_0⟩ := Kd.at_int (by repeat (first | (with_reducible exact HR263_0.out) | (with_reducible refine Kd.C_alloc ?_ _) | (with_reducible refine Kd.C_drewN ?_ _) | (with_reducible refine Kd.C_drew ?_) | exact HR263_0.out)) 1 p264 q264
  cases e264
  (try simp only [show (1 : Int).toNat = 1 from rfl, Nat.reduceMul, Nat.reduceEqDiff, Go.Addr.add, ↓reduceIte] at hx264_0)
  have qi264 : (1 < (rd_L7 t258 x6_1).length) = True := eq_true (by omega)
  (try rw [show ((1 : Int)).toNat = 1 from rfl] at hx264_0)
  replace p264 := eq_true p264
  replace q264 := eq_true q264
  refine start_ (n := 16) (S := fun w' => w'.cell? ⟨gb256, 0, none⟩ = some (.int .i64 a0_0) ∧ w'.cell? ⟨gb256, 1, none⟩ = some (.slice A0_1 l0_1.length c0_1) ∧ w'.cell? ⟨gb256, 2, none⟩ = some (.slice A0_2 l0_2.length c0_2) ∧ w'.cell? ⟨gb257, 0, none⟩ = some (.int .i64 a1_0) ∧ w'.cell? ⟨gb257, 1, none⟩ = some (.slice A1_1 l1_1.length c1_1) ∧ w'.cell? ⟨gb257, 2, none⟩ = some (.slice A1_2 l1_2.length c1_2) ∧ w'.cell? (ad261.add (x6_1).toNat) = some (.slice (some ad262) (rd_L7 t258 x6_1).length c261_0) ∧ w'.cell? ad262 = some (.int .i64 (rd (rd_L7 t258 x6_1) 0)) ∧ w'.cell? (ad261.add (x6_1).toNat) = some (.slice (some ad262) (rd_L7 t258 x6_1).length c261_0) ∧ w'.cell? ⟨ad262.block, ad262.off + 1, none⟩ = some (.int .i64 (rd (rd_L7 t258 x6_1) 1))) (ds := []) (tf_ 0 16) (by kernel_rfl) rfl rfl ⟨(blk_cell BK256.out 0).trans rfl, (blk_cell BK256.out 1).trans rfl, (blk_cell BK256.out 2).trans rfl, (blk_cell BK257.out 0).trans rfl, (blk_cell BK257.out 1).trans rfl, (blk_cell BK257.out 2).trans rfl, hx261_0, hx262_0, hx263_0, hx264_0⟩ (fun hHeld => ?_); refine with_tabW spec_FirstTrouble.tab5 spec_FirstTrouble.bits5 (fun HT_ HW_ => ?_)
  generalize wr.drew = w19 at HO_5 BK256 BK257 HB HL261_0 HL263_0 HR261_0 HR263_0 hx261_0 hx262_0 hx263_0 hx264_0 hHeld ⊢
  refine pu_ 2 (some 18) (tm_ 16 4) HT_ ?_
  refine pu_ 3 (some 19) (tm_ 16 12) HT_ ?_
  refine pu_ 4 (some 20) (tm_ 16 28) HT_ ?_
  refine pu_ 8 (some 24) (tm_ 16 284) HT_ ?_
  refine pu_ 9 (some 25) (tm_ 16 796) HT_ ?_
  refine pu_ 10 (some 26) (tm_ 16 1820) HT_ ?_
  refine ta_ 0 (some 16) (tm_ 16 1821) HT_ HW_ hHeld ?_
  refine ta_ 1 (some 17) (tm_ 16 1823) HT_ HW_ hHeld ?_
  refine ta_ 5 (some 21) (tm_ 16 1855) HT_ HW_ hHeld ?_
  refine pu_ 6 (some 22) (tm_ 16 1919) HT_ ?_
  refine ta_ 7 (some 23) (tf_ 11 16) HT_ HW_ hHeld ?_
  refine ta_ 11 (some 27) (tf_ 12 16) HT_ HW_ hHeld ?_
  refine pu_ 12 (some 28) (tf_ 13 16) HT_ ?_
  refine ta_ 13 (some 29) (tf_ 14 16) HT_ HW_ hHeld ?_
  refine on_ 14 (some 30) (tf_ 15 16) HT_ (fun K hK => ?_)
  refine goes_ Try.func72 (by kernel_rfl) rfl #[.agg #[.int .i64 a0_0, .slice A0_1 l0_1.length c0_1, .slice A0_2 l0_2.length c0_2], .agg #[.int .i64 a1_0, .slice A1_1 l1_1.length c1_1, .slice A1_2 l1_2.length c1_2], .int .i64 (rd (rd_L7 t258 x6_1) 0), .int .i64 (rd (rd_L7 t258 x6_1) 1)] (by rfl) rfl rfl mp_ ?_
  with_reducible refine (spec_TroubleAt.calls k1 a0_0 _ _ l0_1 _ _ l0_2 a1_0 _ _ l1_1 _ _ l1_2 (rd (rd_L7 t258 x6_1) 0) (rd (rd_L7 t258 x6_1) 1) t265 _ ?side1 ?side2 ?side3 ?side4 ?side5 ?side6 ?side7 ?side8 A17.out).mono ?_
  (case side1 => exact cb_ HR0_1 HB)
  (case side2 => exact HC0_1.out)
  (case side3 => exact cb_ HR0_2 HB)
  (case side4 => exact HC0_2.out)
  (case side5 => exact cb_ HR1_1 HB)
  (case side6 => exact HC1_1.out)
  (case side7 => exact cb_ HR1_2 HB)
  (case side8 => exact HC1_2.out)
  rintro e w20 ⟨rfl, hb⟩
  have HS6_ := (hb.cell (World.block_lt_of_cell? _ _ (hHeld.2.2.2.2.2.2.1))).trans (hHeld.2.2.2.2.2.2.1)
  have HS7_ := (hb.cell (World.block_lt_of_cell? _ _ (hHeld.2.2.2.2.2.2.2.1))).trans (hHeld.2.2.2.2.2.2.2.1)
  have HS8_ := (hb.cell (World.block_lt_of_cell? _ _ (hHeld.2.2.2.2.2.2.2.2.1))).trans (hHeld.2.2.2.2.2.2.2.2.1)
  have HS9_ := (hb.cell (World.block_lt_of_cell? _ _ (hHeld.2.2.2.2.2.2.2.2.2))).trans (hHeld.2.2.2.2.2.2.2.2.2)
  refine ⟨_, rfl, ?_⟩
  have _ := Q_ (Kd.N_below (by (with_reducible repeat (first | apply Kd.N_alloc | apply Kd.N_drewN | apply Kd.N_drew)); exact HO_5.out) hb)
  have _ := Q_ (Kd.V_below (by (with_reducible repeat (first | apply Kd.V_alloc | apply Kd.V_drewN | apply Kd.V_drew)); exact HL261_0.out) hb)
  have _ := Q_ (Kd.V_below (by (with_reducible repeat (first | apply Kd.V_alloc | apply Kd.V_drewN | apply Kd.V_drew)); exact HL263_0.out) hb)
  have _ := Q_ (bb_ BK256.out hb)
  have _ := Q_ (bb_ BK257.out hb)
  have _ := Q_ (Kd.C_below (by repeat (first | (with_reducible exact HR261_0.out) | (with_reducible refine Kd.C_alloc ?_ _) | (with_reducible refine Kd.C_drewN ?_ _) | (with_reducible refine Kd.C_drew ?_) | exact HR261_0.out)) hb)
  have _ := Q_ (Kd.C_below (by repeat (first | (with_reducible exact HR263_0.out) | (with_reducible refine Kd.C_alloc ?_ _) | (with_reducible refine Kd.C_drewN ?_ _) | (with_reducible refine Kd.C_drew ?_) | exact HR263_0.out)) hb)
  have _ := Q_ (below_step (pb2_ HB.out GE256.out GE257.out) hb)
  clear HO_5 HL261_0 HL263_0 BK256 BK257 HR261_0 HR263_0 HB
  rename_i HO_5 HL261_0 HL263_0 BK256 BK257 HR261_0 HR263_0 HB
  (try clear hb)
  (try clear hb2)
  (try clear hk)
  (try clear hi)
  refine hK.out _ _ ⟨(blk_cell BK256.out 0).trans rfl, (blk_cell BK256.out 1).trans rfl, (blk_cell BK256.out 2).trans rfl, (blk_cell BK257.out 0).trans rfl, (blk_cell BK257.out 1).trans rfl, (blk_cell BK257.out 2).trans rfl, HS6_, HS7_, HS8_, HS9_⟩ (fun hHeld => ?_)
  clear hK K
  refine no_ (some 30) ?_
  refine pu_ 15 (some 31) (tf_ 16 16) HT_ ?_
  refine done_ (done_of HT_.out (by kernel_rfl)) ?_
  go_upto_if 31 with (fail)
  have H := HS_.out
  clear HS_
  by_cases c21 : t265 = 0
  · rw [if_pos c21] at H
    have c21b0 : (t265 == 0) = true := beq_iff_eq.mpr c21
    have c21b1 : (t265 != 0) = false := bne_eq_false_iff_eq.mpr c21
    clear c21
    (first | rw [c21b0] | (simp only [i64_w, i32_w]; rw [c21b0]) | rw [c21b1] | (have c_ := c21b1; rw [bne] at c_; rw [c_]; clear c_) | skip)
    have H' := Q_ H
    clear H
    go_wp2
    go_roundg k1
    case measure => have := HK1.out; omega
    case rel => exact ⟨(wrap64 (x6_1 + 1)), el_, H', ⟨by have := HK1.out; omega⟩, ⟨by (with_reducible repeat (first | apply Kd.N_alloc | apply Kd.N_drewN | apply Kd.N_drew)); exact HO_5.out⟩, ⟨pk_ BK256.out⟩, ⟨pk_ BK257.out⟩, ⟨pb2_ HB.out GE256.out GE257.out⟩⟩
  rw [if_neg c21] at H
  have c21b0 : (t265 == 0) = false := beq_eq_false_iff_ne.mpr c21
  have c21b1 : (t265 != 0) = true := bne_iff_ne.mpr c21
  (first | rw [c21b0] | (simp only [i64_w, i32_w]; rw [c21b0]) | rw [c21b1] | (have c_ := c21b1; rw [bne] at c_; rw [c_]; clear c_) | skip)
  obtain ⟨y266, hy266⟩ : ∃ y_ : List Int, y_ = (([] : List Int)) := ⟨_, rfl⟩
  replace H : (if y266.length + (rd_L7 t258 x6_1).length < 17592186044416 then (some (y266 ++ (rd_L7 t258 x6_1))) else (none)) = some r := by first | (rw [hy266]; with_reducible exact H) | (have H2_ := (Option.bind_some _ _).symm.trans H; rw [hy266]; with_reducible exact H2_) | (have H2_ := (Option.bind_some _ _).symm.trans H; with_reducible exact H2_) | with_reducible exact H | (rw [hy266]; exact H) | exact H
  have Ny266 := Q_ hy266
  clear hy266
  by_cases c22 : y266.length + (rd_L7 t258 x6_1).length < 17592186044416
  rotate_left
  · rw [if_neg c22] at H
    exact absurd H (by simp)
  rw [if_pos c22] at H
  have LMc22 := Q_ c22
  clear c22
  obtain ⟨y270, hy270⟩ : ∃ y_ : List Int, y_ = (y266 ++ (rd_L7 t258 x6_1)) := ⟨_, rfl⟩
  replace H : (some y270) = some r := by first | (rw [hy270]; with_reducible exact H) | (have H2_ := (Option.bind_some _ _).symm.trans H; rw [hy270]; with_reducible exact H2_) | (have H2_ := (Option.bind_some _ _).symm.trans H; with_reducible exact H2_) | with_reducible exact H | (rw [hy270]; exact H) | exact H
  have Ny270 := Q_ hy270
  clear hy270
  obtain rfl := Option.some.inj H
  go_wp2_with (first | ((with_reducible refine gate_dst (N := 32) rfl ?_); refine Kd.R_lit (Kd.int .i64) _ 3 ?hg (N := 32) ?hd (xs := ([] : List Int)) (inner := []) (ok := fun _ => True) (okp := fun _ => True) ?hr ?hp (fun _ hk => hk) trivial (Below.refl _ _) (Nat.le_refl _) (by simp) ?_; (case hd => rfl); (case hg => rfl); (case hr => first | (go_simp; done) | (go_simp; rfl)); (case hp => exact (Reps.none _ _)); intro v267 w23 ho24 hb hg_ hnew_; clear hg_ hnew_; (first | rw [← Ny266.out] at ho24 | (simp only [Int.reduceToNat] at ho24; rw [← Ny266.out] at ho24)); have n0_ := Q_ (Kd.N_elder' (by (with_reducible repeat (first | apply Kd.N_alloc | apply Kd.N_drewN | apply Kd.N_drew)); exact HO_5.out) (Kd.R_base ho24) hb); have n1_ := Q_ (Kd.V_elder' (by (with_reducible repeat (first | apply Kd.V_alloc | apply Kd.V_drewN | apply Kd.V_drew)); exact HL261_0.out) (Kd.R_base ho24) hb); have n2_ := Q_ (Kd.V_elder' (by (with_reducible repeat (first | apply Kd.V_alloc | apply Kd.V_drewN | apply Kd.V_drew)); exact HL263_0.out) (Kd.R_base ho24) hb); have n3_ := Q_ (Kd.R_lower ho24 (below_size (pb2_ HB.out GE256.out GE257.out))); have n4_ := Q_ (bb_ BK256.out hb); have n5_ := Q_ (bb_ BK257.out hb); have n6_ := Q_ (Kd.C_below (by repeat (first | (with_reducible exact HR261_0.out) | (with_reducible refine Kd.C_alloc ?_ _) | (with_reducible refine Kd.C_drewN ?_ _) | (with_reducible refine Kd.C_drew ?_) | exact HR261_0.out)) hb); have n7_ := Q_ (Kd.C_below (by repeat (first | (with_reducible exact HR263_0.out) | (with_reducible refine Kd.C_alloc ?_ _) | (with_reducible refine Kd.C_drewN ?_ _) | (with_reducible refine Kd.C_drew ?_) | exact HR263_0.out)) hb); have n8_ := Q_ (below_step (pb2_ HB.out GE256.out GE257.out) hb); clear HO_5; clear HL261_0; clear HL263_0; clear BK256; clear BK257; clear HR261_0; clear HR263_0; clear HB; have HO_5 := n0_; have HL261_0 := n1_; have HL263_0 := n2_; have HO268 := n3_; have BK256 := n4_; have BK257 := n5_; have HR261_0 := n6_; have HR263_0 := n7_; have HB := n8_; clear n0_ n1_ n2_ n3_ n4_ n5_ n6_ n7_ n8_; clear hb ho24; have p269 : 0 ≤ (x6_1 : Int) := dt_; have q269 : x6_1 < (t258.length : Int) := dt_; obtain ⟨ad269, A269_0, c269_0, e269, hx269_0, hl269_0, hi269_0⟩ := at_L7 (Kd.N_reads' HO_5.out).2.2 x6_1 p269 q269; obtain rfl : ad261 = ad269 := (by injection e269); obtain ⟨ce269, hce269, hMe269, hcc269⟩ := Kd.N_get HO_5.out [] x6_1 p269 (by first | exact q269 | exact dt_ | (have e_ := (Kd.N_reads' HO_5.out).1; omega)); obtain ⟨ua269_0, uc269_0, rfl, ul269_0, ge269_0⟩ := Kd.FK_slice_open hMe269; have hv269_0 := hcc269 0 _ rfl; rw [Nat.add_zero, show ((Kd.slice 3 (Kd.int .i64))).sz = 1 from rfl, Nat.mul_one] at hv269_0; replace hv269_0 := Option.some.inj (hv269_0.symm.trans hx269_0); injection hv269_0 with hva_ hvn_ hvc_; rw [hva_] at ge269_0; rw [hvc_] at ul269_0; have HL269_0 := Q_ (show Kd.V (Kd.int .i64) 3 _ w.heap.size _ _ (rd_L7 t258 x6_1) from Kd.V_mk ul269_0 ge269_0); clear hva_ hvn_ hvc_ ge269_0 ul269_0; clear hcc269 hce269; have HR269_0 := Q_ hi269_0; have HC269_0 := Q_ hl269_0; clear hi269_0 hl269_0; replace p269 := eq_true p269; replace q269 := eq_true q269) | ((with_reducible refine gate_builtin (b := .append) (xs := #[.tmp 32, .tmp 36]) rfl ?_); at_builtin; refine Kd.R_append_rows (Kd.int .i64) (w0 := w) w.heap.size rfl (.tmp 32) (.tmp 36) 39 3 (.int .i64 0) 8 rfl Try.underlying39 info3 rfl (by decide) (by omega) v267 y266 (rd_L7 t258 x6_1) _ _ _ (fun _ => True) (fun _ => False) rfl rfl ?aO ?aR (fun _ _ h => h) (fun _ h => h.elim) ?aF ?aB ?aS ?aL ?_; (case aR => repeat (first | exact (by repeat (first | (with_reducible exact HR269_0.out) | (with_reducible refine Kd.C_alloc ?_ _) | (with_reducible refine Kd.C_drewN ?_ _) | (with_reducible refine Kd.C_drew ?_) | exact HR269_0.out)) | (with_reducible refine Kd.C_alloc ?_ _) | (with_reducible refine Kd.C_drewN ?_ _) | (with_reducible refine Kd.C_drew ?_))); (case aB => exact (pb2_ HB.out GE256.out GE257.out)); (case aF => exact (fun _ _ => trivial)); (case aO => exact (pr_ HO268.out)); (case aS => exact (below_size (pb2_ HB.out GE256.out GE257.out))); (case aL => have := LMc22.out; omega); intro v271 w25 ho hb hg hat; rw [← Ny270.out] at ho; have n0_ := Q_ (Kd.N_afterv (ok := (fun k_ => k_ ≠ gb256 ∧ k_ ≠ gb257)) (by (with_reducible repeat (first | apply Kd.N_alloc | apply Kd.N_drewN | apply Kd.N_drew)); exact HO_5.out) hg hat); have n1_ := Q_ (blk_grown (g := gb256) (o := .cells #[.int .i64 a0_0, .slice A0_1 l0_1.length c0_1, .slice A0_2 l0_2.length c0_2] 34 (0, 0)) (pk_ BK256.out) hg (Kd.R_ne HO268.out BK256.out (by decide))); have n2_ := Q_ (blk_grown (g := gb257) (o := .cells #[.int .i64 a1_0, .slice A1_1 l1_1.length c1_1, .slice A1_2 l1_2.length c1_2] 34 (0, 0)) (pk_ BK257.out) hg (Kd.R_ne HO268.out BK257.out (by decide))); have n3_ := Q_ (Kd.V_afterv (ok := (fun k_ => some k_ ≠ (.slice (some ad261) t258.length co18 : Value).ownBlock ∧ k_ ≠ gb256 ∧ k_ ≠ gb257)) (by (with_reducible repeat (first | apply Kd.V_alloc | apply Kd.V_drewN | apply Kd.V_drew)); exact Kd.V_mono HL261_0.out (fun _ hk => ⟨⟨hk.1.2, ⟨hk.1.1.1, hk.1.1.2⟩⟩, hk.2⟩)) hg hat); have n4_ := Q_ (Kd.V_afterv (ok := (fun k_ => some k_ ≠ (.slice (some ad261) t258.length co18 : Value).ownBlock ∧ k_ ≠ gb256 ∧ k_ ≠ gb257)) (by (with_reducible repeat (first | apply Kd.V_alloc | apply Kd.V_drewN | apply Kd.V_drew)); exact Kd.V_mono HL263_0.out (fun _ hk => ⟨⟨hk.1.2, ⟨hk.1.1.1, hk.1.1.2⟩⟩, hk.2⟩)) hg hat); have n5_ := Q_ (Kd.V_afterv (ok := (fun k_ => some k_ ≠ (.slice (some ad261) t258.length co18 : Value).ownBlock ∧ k_ ≠ gb256 ∧ k_ ≠ gb257)) (by (with_reducible repeat (first | apply Kd.V_alloc | apply Kd.V_drewN | apply Kd.V_drew)); exact Kd.V_mono HL269_0.out (fun _ hk => ⟨⟨hk.2, ⟨hk.1.1.1, hk.1.1.2⟩⟩, hk.1.2⟩)) hg hat); have n6_ := Q_ (hb); have n7_ := Q_ (ho); clear HO_5; clear BK256; clear BK257; clear HL261_0; clear HL263_0; clear HL269_0; clear HB; clear HO268; have HO_5 := n0_; have BK256 := n1_; have BK257 := n2_; have HL261_0 := n3_; have HL263_0 := n4_; have HL269_0 := n5_; have HB := n6_; have HO272 := n7_; clear n0_ n1_ n2_ n3_ n4_ n5_ n6_ n7_; clear ho hb hg hat))
  go_ret
  exact ⟨_, er_, pr_ HO272.out, pb2_ HB.out GE256.out GE257.out⟩

/-! ### spec_IsSafe: function 41 -/
def spec_IsSafe.f (k : Nat) (a0_0 : Int) (l0_1 : List Bool) (l0_2 : List (S78)) (a1_0 : Int) (l1_1 : List Bool) (l1_2 : List (S78)) : Option (Bool) := (spec_IsMachine.f k a0_0 l0_1 l0_2).bind fun t278 => (if t278 = true then ((spec_IsMachine.f k a1_0 l1_1 l1_2).bind fun t279 => (if t279 = true then ((spec_FirstTrouble.f k a0_0 l0_1 l0_2 a1_0 l1_1 l1_2).bind fun t280 => (some ((t280.length : Int) == 0))) else (some false))) else (some false))
theorem spec_IsSafe.mono : ∀ a0 a1 a2 a3 a4 a5 k, LeO (spec_IsSafe.f k a0 a1 a2 a3 a4 a5) (spec_IsSafe.f (k + 1) a0 a1 a2 a3 a4 a5) := by
  intro a0 a1 a2 a3 a4 a5 k
  unfold spec_IsSafe.f
  exact mo2_ spec_FirstTrouble.mono spec_IsMachine.mono
set_option maxHeartbeats 8000000 in
set_option maxRecDepth 100000 in
theorem spec_IsSafe.calls (k : Nat) (a0_0 : Int) (A0_1 : Option Addr) (c0_1 : Nat) (l0_1 : List Bool) (A0_2 : Option Addr) (c0_2 : Nat) (l0_2 : List (S78)) (a1_0 : Int) (A1_1 : Option Addr) (c1_1 : Nat) (l1_1 : List Bool) (A1_2 : Option Addr) (c1_2 : Nat) (l1_2 : List (S78)) (r : Bool) (w : World) (hr0_1 : Kd.C Kd.bool w A0_1 l0_1.length l0_1) (hc0_1 : l0_1.length ≤ c0_1) (hr0_2 : Kd.C k78 w A0_2 l0_2.length l0_2) (hc0_2 : l0_2.length ≤ c0_2) (hr1_1 : Kd.C Kd.bool w A1_1 l1_1.length l1_1) (hc1_1 : l1_1.length ≤ c1_1) (hr1_2 : Kd.C k78 w A1_2 l1_2.length l1_2) (hc1_2 : l1_2.length ≤ c1_2) (h : spec_IsSafe.f k a0_0 l0_1 l0_2 a1_0 l1_1 l1_2 = some r) :
    Calls Try.prog 41 #[.agg #[.int .i64 a0_0, .slice A0_1 l0_1.length c0_1, .slice A0_2 l0_2.length c0_2], .agg #[.int .i64 a1_0, .slice A1_1 l1_1.length c1_1, .slice A1_2 l1_2.length c1_2]] w fun e w' => e = .returned (.bool r) ∧ Below w.heap.size w w' := by
  have hu34 := Try.underlying34
  have HR0_1 := Q_ hr0_1
  have HC0_1 := Q_ hc0_1
  clear hr0_1 hc0_1
  have HR0_2 := Q_ hr0_2
  have HC0_2 := Q_ hc0_2
  clear hr0_2 hc0_2
  have HR1_1 := Q_ hr1_1
  have HC1_1 := Q_ hc1_1
  clear hr1_1 hc1_1
  have HR1_2 := Q_ hr1_2
  have HC1_2 := Q_ hc1_2
  clear hr1_2 hc1_2
  have HB := Q_ (Below.refl w.heap.size w)
  have H : ((spec_IsMachine.f k a0_0 l0_1 l0_2).bind fun t278 => (if t278 = true then ((spec_IsMachine.f k a1_0 l1_1 l1_2).bind fun t279 => (if t279 = true then ((spec_FirstTrouble.f k a0_0 l0_1 l0_2 a1_0 l1_1 l1_2).bind fun t280 => (some ((t280.length : Int) == 0))) else (some false))) else (some false))) = some r := h
  clear h
  have HS_ := Q_ H
  clear H
  go_enter Try.func41, Try.ntmps41
  go_upto_region 1 with (first | ((with_reducible refine gate_dst (N := 2) rfl ?_); (try (refine gate_guard (by rfl) ?_; dsimp only)); refine box_event ?hg (N := 2) ?hd (cs := #[.int .i64 a0_0, .slice A0_1 l0_1.length c0_1, .slice A0_2 l0_2.length c0_2]) (t := 34) ?hr ?_; (case hd => rfl); (case hg => rfl); (case hr => first | (go_simp; done) | (go_simp; rfl)); intro gb276 hg w3 hbox hb; have n0_ := Q_ (below_step (pb_ HB.out) hb); have n1_ := Q_ (hbox); have n2_ := Q_ ((by rw [hg]; exact (below_size (pb_ HB.out)) : w.heap.size ≤ gb276)); have n3_ := n2_; clear HB; have HB := n0_; have BK276 := n1_; have GW276 := n2_; have GE276 := n3_; clear n0_ n1_ n2_ n3_; clear hb hbox hg) | ((with_reducible refine gate_dst (N := 3) rfl ?_); (try (refine gate_guard (by rfl) ?_; dsimp only)); refine box_event ?hg (N := 3) ?hd (cs := #[.int .i64 a1_0, .slice A1_1 l1_1.length c1_1, .slice A1_2 l1_2.length c1_2]) (t := 34) ?hr ?_; (case hd => rfl); (case hg => rfl); (case hr => first | (go_simp; done) | (go_simp; rfl)); intro gb277 hg w4 hbox hb; have n0_ := Q_ (bb_ BK276.out hb); have n1_ := Q_ (below_step (pb1_ HB.out GE276.out) hb); have n2_ := Q_ (hbox); have n3_ := Q_ ((by rw [hg]; exact (below_size (pb1_ HB.out GE276.out)) : w.heap.size ≤ gb277)); have n4_ := n3_; have n5_ := Q_ ((by rw [hg]; exact Nat.ne_of_lt (blk_lt (pk_ BK276.out)) : gb276 ≠ gb277)); have n6_ := Q_ ((by rw [hg]; exact Nat.ne_of_gt (blk_lt (pk_ BK276.out)) : gb277 ≠ gb276)); clear BK276; clear HB; have BK276 := n0_; have HB := n1_; have BK277 := n2_; have GW277 := n3_; have GE277 := n4_; have NB276_277 := n5_; have NB277_276 := n6_; clear n0_ n1_ n2_ n3_ n4_ n5_ n6_; clear hb hbox hg))
  (try simp only [Act.put, List.setIfInBounds_toArray, List.set_cons_zero, List.set_cons_succ])
  have H := HS_.out
  clear HS_
  replace H := Option.bind_eq_some_iff.mp H
  obtain ⟨t278, A50, H⟩ := H
  (try dsimp only at H)
  have A5 := Q_ A50
  clear A50
  by_cases c6 : t278 = true
  rotate_left
  · replace c6 := Bool.eq_false_iff.mpr c6
    subst c6
    rw [if_neg (show ¬ (false = true) by decide)] at H
    obtain rfl := Option.some.inj H
    have hnb7 := NB276_277.out
    have hnc7 := NB277_276.out
    have hcz8 := bc3_ BK276.out
    go_wp2_with (first | ((with_reducible refine gate_callee (f := 59) rfl ?_); refine gl_ (some 6) Try.func59 #[.agg #[.int .i64 a0_0, .slice A0_1 l0_1.length c0_1, .slice A0_2 l0_2.length c0_2]] ?_; (with_reducible refine (spec_IsMachine.calls k a0_0 _ _ l0_1 _ _ l0_2 false _ ?side1 ?side2 ?side3 ?side4 A5.out).mono ?_); (case side1 => exact cb_ HR0_1 HB); (case side2 => exact HC0_1.out); (case side3 => exact cb_ HR0_2 HB); (case side4 => exact HC0_2.out); rintro e w9 ⟨rfl, hb⟩; refine ⟨_, rfl, ?_⟩; have _ := Q_ (bb_ BK276.out hb); have _ := Q_ (bb_ BK277.out hb); have _ := Q_ (below_step (pb2_ HB.out GE276.out GE277.out) hb); clear BK276 BK277 HB; rename_i BK276 BK277 HB; (try clear hb); (try clear hb2); (try clear hk); (try clear hi)))
    go_ret
    exact ⟨er_, pb2_ HB.out GE276.out GE277.out⟩
  subst c6
  rw [if_pos rfl] at H
  replace H := Option.bind_eq_some_iff.mp H
  obtain ⟨t279, A100, H⟩ := H
  (try dsimp only at H)
  have A10 := Q_ A100
  clear A100
  by_cases c11 : t279 = true
  rotate_left
  · replace c11 := Bool.eq_false_iff.mpr c11
    subst c11
    rw [if_neg (show ¬ (false = true) by decide)] at H
    obtain rfl := Option.some.inj H
    have hnb12 := NB276_277.out
    have hnc12 := NB277_276.out
    have hcz13 := bc3_ BK276.out
    go_wp2_with (first | ((with_reducible refine gate_callee (f := 59) rfl ?_); refine gl_ (some 6) Try.func59 #[.agg #[.int .i64 a0_0, .slice A0_1 l0_1.length c0_1, .slice A0_2 l0_2.length c0_2]] ?_; (with_reducible refine (spec_IsMachine.calls k a0_0 _ _ l0_1 _ _ l0_2 true _ ?side1 ?side2 ?side3 ?side4 A5.out).mono ?_); (case side1 => exact cb_ HR0_1 HB); (case side2 => exact HC0_1.out); (case side3 => exact cb_ HR0_2 HB); (case side4 => exact HC0_2.out); rintro e w14 ⟨rfl, hb⟩; refine ⟨_, rfl, ?_⟩; have _ := Q_ (bb_ BK276.out hb); have _ := Q_ (bb_ BK277.out hb); have _ := Q_ (below_step (pb2_ HB.out GE276.out GE277.out) hb); clear BK276 BK277 HB; rename_i BK276 BK277 HB; (try clear hb); (try clear hb2); (try clear hk); (try clear hi); have hcz15 := bc3_ BK277.out) | (go_at_call 59; (with_reducible refine (spec_IsMachine.calls k a1_0 _ _ l1_1 _ _ l1_2 false _ ?side1 ?side2 ?side3 ?side4 A10.out).mono ?_); (case side1 => exact cb_ HR1_1 HB); (case side2 => exact HC1_1.out); (case side3 => exact cb_ HR1_2 HB); (case side4 => exact HC1_2.out); rintro e w16 ⟨rfl, hb⟩; have _ := Q_ (bb_ BK276.out hb); have _ := Q_ (bb_ BK277.out hb); have _ := Q_ (below_step (pb2_ HB.out GE276.out GE277.out) hb); clear BK276 BK277 HB; rename_i BK276 BK277 HB; (try clear hb); (try clear hb2); (try clear hk); (try clear hi)))
    go_ret
    exact ⟨er_, pb2_ HB.out GE276.out GE277.out⟩
  subst c11
  rw [if_pos rfl] at H
  replace H := Option.bind_eq_some_iff.mp H
  obtain ⟨t280, A170, H⟩ := H
  replace H : (some ((t280.length : Int) == 0)) = some r := H
  have A17 := Q_ A170
  clear A170
  obtain rfl := Option.some.inj H
  have hnb18 := NB276_277.out
  have hnc18 := NB277_276.out
  have hcz19 := bc3_ BK276.out
  go_wp2_with (first | ((with_reducible refine gate_callee (f := 59) rfl ?_); refine gl_ (some 6) Try.func59 #[.agg #[.int .i64 a0_0, .slice A0_1 l0_1.length c0_1, .slice A0_2 l0_2.length c0_2]] ?_; (with_reducible refine (spec_IsMachine.calls k a0_0 _ _ l0_1 _ _ l0_2 true _ ?side1 ?side2 ?side3 ?side4 A5.out).mono ?_); (case side1 => exact cb_ HR0_1 HB); (case side2 => exact HC0_1.out); (case side3 => exact cb_ HR0_2 HB); (case side4 => exact HC0_2.out); rintro e w20 ⟨rfl, hb⟩; refine ⟨_, rfl, ?_⟩; have _ := Q_ (bb_ BK276.out hb); have _ := Q_ (bb_ BK277.out hb); have _ := Q_ (below_step (pb2_ HB.out GE276.out GE277.out) hb); clear BK276 BK277 HB; rename_i BK276 BK277 HB; (try clear hb); (try clear hb2); (try clear hk); (try clear hi); have hcz21 := bc3_ BK277.out) | (go_at_call 59; (with_reducible refine (spec_IsMachine.calls k a1_0 _ _ l1_1 _ _ l1_2 true _ ?side1 ?side2 ?side3 ?side4 A10.out).mono ?_); (case side1 => exact cb_ HR1_1 HB); (case side2 => exact HC1_1.out); (case side3 => exact cb_ HR1_2 HB); (case side4 => exact HC1_2.out); rintro e w22 ⟨rfl, hb⟩; have _ := Q_ (bb_ BK276.out hb); have _ := Q_ (bb_ BK277.out hb); have _ := Q_ (below_step (pb2_ HB.out GE276.out GE277.out) hb); clear BK276 BK277 HB; rename_i BK276 BK277 HB; (try clear hb); (try clear hb2); (try clear hk); (try clear hi); have hcz23 := bc3_ BK276.out; have hcz24 := bc3_ BK277.out) | (go_at_call 60; (with_reducible refine (spec_FirstTrouble.calls k a0_0 _ _ l0_1 _ _ l0_2 a1_0 _ _ l1_1 _ _ l1_2 t280 _ ?side1 ?side2 ?side3 ?side4 ?side5 ?side6 ?side7 ?side8 A17.out).mono ?_); (case side1 => exact cb_ HR0_1 HB); (case side2 => exact HC0_1.out); (case side3 => exact cb_ HR0_2 HB); (case side4 => exact HC0_2.out); (case side5 => exact cb_ HR1_1 HB); (case side6 => exact HC1_1.out); (case side7 => exact cb_ HR1_2 HB); (case side8 => exact HC1_2.out); rintro e w25 ⟨v281, rfl, ho0, hb⟩; have _ := Q_ (Kd.R_lower ho0 (below_size (pb2_ HB.out GE276.out GE277.out))); have _ := Q_ (bb_ BK276.out hb); have _ := Q_ (bb_ BK277.out hb); have _ := Q_ (below_step (pb2_ HB.out GE276.out GE277.out) hb); clear BK276 BK277 HB; rename_i HO282 BK276 BK277 HB; (try clear hb); (try clear hb2); (try clear hk); (try clear hi); (try clear ho0); obtain ⟨Ao26, co26, eo26⟩ := Kd.R_slice HO282.out; subst eo26))
  go_ret
  exact ⟨er_, pb2_ HB.out GE276.out GE277.out⟩

/-! ### spec_WorksWith: function 17 -/
def spec_WorksWith.l0 : Nat → List (S34) → List Int → Int → Int → List Bool → List (S78) → Option (List Int)
  | 0, _, _, _, _, _, _ => none
  | k + 1, x0, x5, x6, x284000, x284001, x284002 => if x6 < (x0.length : Int) then (if 0 ≤ x6 then ((spec_IsSafe.f k ((rd_T34 x0 x6).f0) ((rd_T34 x0 x6).f1) ((rd_T34 x0 x6).f2) x284000 x284001 x284002).bind fun t288 => (if t288 = true then (if x5.length < 17592186044416 then (spec_WorksWith.l0 k x0 (x5 ++ [x6]) (wrap64 (x6 + 1)) x284000 x284001 x284002) else (none)) else (spec_WorksWith.l0 k x0 x5 (wrap64 (x6 + 1)) x284000 x284001 x284002))) else (none)) else (some x5)
def spec_WorksWith.f (k : Nat) (l0 : List (S34)) (a1_0 : Int) (l1_1 : List Bool) (l1_2 : List (S78)) : Option (List Int) := spec_WorksWith.l0 k l0 (([] : List Int)) 0 a1_0 l1_1 l1_2
theorem spec_WorksWith.mono_l : ∀ k, (∀ y0 y1 y2 y3 y4 y5, LeO (spec_WorksWith.l0 k y0 y1 y2 y3 y4 y5) (spec_WorksWith.l0 (k + 1) y0 y1 y2 y3 y4 y5))
  | 0 => fun _ _ _ _ _ _ r h => by simp [spec_WorksWith.l0] at h
  | k + 1 => by
    have ih0 := spec_WorksWith.mono_l k
    · intro y0 y1 y2 y3 y4 y5
      unfold spec_WorksWith.l0
      exact mo2_ ih0 spec_IsSafe.mono
theorem spec_WorksWith.mono : ∀ a0 a1 a2 a3 k, LeO (spec_WorksWith.f k a0 a1 a2 a3) (spec_WorksWith.f (k + 1) a0 a1 a2 a3) := by
  intro a0 a1 a2 a3 k
  have ih0 := spec_WorksWith.mono_l k
  unfold spec_WorksWith.f
  exact mo2_ ih0 spec_IsSafe.mono
set_option maxHeartbeats 8000000 in
set_option maxRecDepth 100000 in
theorem spec_WorksWith.calls (k : Nat) (A0 : Option Addr) (c0 : Nat) (l0 : List (S34)) (a1_0 : Int) (A1_1 : Option Addr) (c1_1 : Nat) (l1_1 : List Bool) (A1_2 : Option Addr) (c1_2 : Nat) (l1_2 : List (S78)) (r : List Int) (w : World) (hr0 : Kd.C k34 w A0 l0.length l0) (hc0 : l0.length ≤ c0) (hr1_1 : Kd.C Kd.bool w A1_1 l1_1.length l1_1) (hc1_1 : l1_1.length ≤ c1_1) (hr1_2 : Kd.C k78 w A1_2 l1_2.length l1_2) (hc1_2 : l1_2.length ≤ c1_2) (h : spec_WorksWith.f k l0 a1_0 l1_1 l1_2 = some r) :
    Calls Try.prog 17 #[.slice A0 l0.length c0, .agg #[.int .i64 a1_0, .slice A1_1 l1_1.length c1_1, .slice A1_2 l1_2.length c1_2]] w fun e w' => ∃ v0_ : Value, e = .returned (v0_) ∧ Kd.R (Kd.int .i64) 3 w' w.heap.size (fun _ => True) v0_ r ∧ Below w.heap.size w w' := by
  have hu34 := Try.underlying34
  have HR0 := Q_ hr0
  have HC0 := Q_ hc0
  clear hr0 hc0
  have HR1_1 := Q_ hr1_1
  have HC1_1 := Q_ hc1_1
  clear hr1_1 hc1_1
  have HR1_2 := Q_ hr1_2
  have HC1_2 := Q_ hc1_2
  clear hr1_2 hc1_2
  have HB := Q_ (Below.refl w.heap.size w)
  have H : (spec_WorksWith.l0 k l0 (([] : List Int)) 0 a1_0 l1_1 l1_2) = some r := h
  clear h
  obtain ⟨y284, hy284⟩ : ∃ y_ : List Int, y_ = (([] : List Int)) := ⟨_, rfl⟩
  replace H : (spec_WorksWith.l0 k l0 y284 0 a1_0 l1_1 l1_2) = some r := by first | (rw [hy284]; with_reducible exact H) | (have H2_ := (Option.bind_some _ _).symm.trans H; rw [hy284]; with_reducible exact H2_) | (have H2_ := (Option.bind_some _ _).symm.trans H; with_reducible exact H2_) | with_reducible exact H | (rw [hy284]; exact H) | exact H
  have Ny284 := Q_ hy284
  clear hy284
  have H' := Q_ H
  clear H
  go_enter Try.func17, Try.ntmps17
  go_wp2_with (first | ((with_reducible refine gate_dst (N := 3) rfl ?_); refine box_event ?hg (N := 3) ?hd (cs := #[.int .i64 a1_0, .slice A1_1 l1_1.length c1_1, .slice A1_2 l1_2.length c1_2]) (t := 34) ?hr ?_; (case hd => rfl); (case hg => rfl); (case hr => first | (go_simp; done) | (go_simp; rfl)); intro gb283 hg w3 hbox hb; have n0_ := Q_ (below_step (pb_ HB.out) hb); have n1_ := Q_ (hbox); have n2_ := Q_ ((by rw [hg]; exact (below_size (pb_ HB.out)) : w.heap.size ≤ gb283)); have n3_ := n2_; clear HB; have HB := n0_; have BK283 := n1_; have GW283 := n2_; have GE283 := n3_; clear n0_ n1_ n2_ n3_; clear hb hbox hg) | ((with_reducible refine gate_dst (N := 7) rfl ?_); refine Kd.R_lit (Kd.int .i64) _ 3 ?hg (N := 7) ?hd (xs := ([] : List Int)) (inner := []) (ok := fun _ => True) (okp := fun _ => True) ?hr ?hp (fun _ hk => hk) trivial (Below.refl _ _) (Nat.le_refl _) (by simp) ?_; (case hd => rfl); (case hg => rfl); (case hr => first | (go_simp; done) | (go_simp; rfl)); (case hp => exact (Reps.none _ _)); intro v285 w4 ho5 hb hg_ hnew_; clear hg_ hnew_; (first | rw [← Ny284.out] at ho5 | (simp only [Int.reduceToNat] at ho5; rw [← Ny284.out] at ho5)); have _ := Q_ (Kd.R_lower ho5 (below_size (pb1_ HB.out GE283.out))); have _ := Q_ (bb_ BK283.out hb); have _ := Q_ (below_step (pb1_ HB.out GE283.out) hb); clear BK283 HB; rename_i HO286 BK283 HB; clear hb ho5))
  (try simp only [Act.put, List.setIfInBounds_toArray, List.set_cons_zero, List.set_cons_succ])
  go_loopg [5, 6] k (fun kq v5 v6 w' => ∃ (x5_1 : List Int) (x6_1 : Int), v6 = .int .i64 x6_1 ∧ Aside0 (spec_WorksWith.l0 kq l0 x5_1 x6_1 a1_0 l1_1 l1_2 = some r) ∧ Aside0 (kq ≤ k) ∧ Aside0 (Kd.R (Kd.int .i64) 3 w' w.heap.size (fun _ => True) v5 x5_1) ∧ Aside0 (w'.heap[gb283]? = some (.cells #[.int .i64 a1_0, (.slice A1_1 l1_1.length c1_1), (.slice A1_2 l1_2.length c1_2)] 34 (0, 0))) ∧ Aside0 (Below w.heap.size w w'))
  case atStart => exact ⟨(y284), (0), el_, H', ⟨Nat.le_refl _⟩, ⟨pr_ HO286.out⟩, ⟨pk_ BK283.out⟩, ⟨pb1_ HB.out GE283.out⟩⟩
  clear H'
  try clear c1
  try clear p2
  obtain ⟨x5_1, x6_1, rfl, HA, HK1, HO_5, BK283, HB⟩ := hrel
  rcases gk with _ | k1
  · exact absurd HA.out (by simp [spec_WorksWith.l0])
  have H := HA.out
  clear HA
  simp only [spec_WorksWith.l0] at H
  by_cases c6 : x6_1 < (l0.length : Int)
  rotate_left
  · rw [if_neg c6] at H
    have c6b0 : decide (x6_1 < (l0.length : Int)) = false := decide_eq_false c6
    clear c6
    obtain rfl := Option.some.inj H
    go_wp2
    go_ret
    exact ⟨_, er_, pr_ HO_5.out, pb1_ HB.out GE283.out⟩
  rw [if_pos c6] at H
  have c6b0 : decide (x6_1 < (l0.length : Int)) = true := decide_eq_true c6
  clear c6
  by_cases c7 : 0 ≤ x6_1
  rotate_left
  · rw [if_neg c7] at H
    exact absurd H (by simp)
  rw [if_pos c7] at H
  have c7b0 : decide (0 ≤ x6_1) = true := decide_eq_true c7
  clear c7
  replace H := Option.bind_eq_some_iff.mp H
  obtain ⟨t288, A80, H⟩ := H
  (try dsimp only at H)
  have A8 := Q_ A80
  clear A80
  have HS_ := Q_ H
  clear H
  try go_wp2
  have _ := Q_ (Kd.R_drew HO_5.out)
  have _ := Q_ (blk_drew BK283.out)
  have _ := Q_ (below_drew1 HB.out)
  clear HO_5 BK283 HB
  rename_i HO_5 BK283 HB
  have p287 : 0 ≤ (x6_1 : Int) := dt_
  have q287 : x6_1 < (l0.length : Int) := dt_
  obtain ⟨ad287, A287_1, c287_1, A287_2, c287_2, e287, hx287_0, hx287_1, hx287_2, hl287_1, hi287_1, hl287_2, hi287_2⟩ := at_T34 HR0.out x6_1 p287 q287
  have hw287_2 := hx287_2
  have hw287_1 := hx287_1
  have hw287_0 := hx287_0
  cases e287
  replace hx287_0 := bt_ HB hx287_0
  replace hx287_1 := bt_ HB hx287_1
  replace hx287_2 := bt_ HB hx287_2
  have HR287_1 := Q_ hi287_1
  have HC287_1 := Q_ hl287_1
  clear hi287_1 hl287_1
  have HR287_2 := Q_ hi287_2
  have HC287_2 := Q_ hl287_2
  clear hi287_2 hl287_2
  replace p287 := eq_true p287
  replace q287 := eq_true q287
  refine start_ (n := 6) (S := fun w' => w'.cell? ⟨gb283, 0, none⟩ = some (.int .i64 a1_0) ∧ w'.cell? ⟨gb283, 1, none⟩ = some (.slice A1_1 l1_1.length c1_1) ∧ w'.cell? ⟨gb283, 2, none⟩ = some (.slice A1_2 l1_2.length c1_2) ∧ w'.cell? (ad287.add ((x6_1).toNat * 3)) = some (.int .i64 ((rd_T34 l0 x6_1).f0)) ∧ w'.cell? ⟨(ad287.add ((x6_1).toNat * 3)).block, (ad287.add ((x6_1).toNat * 3)).off + 1, none⟩ = some (.slice A287_1 ((rd_T34 l0 x6_1).f1).length c287_1) ∧ w'.cell? ⟨(ad287.add ((x6_1).toNat * 3)).block, (ad287.add ((x6_1).toNat * 3)).off + 2, none⟩ = some (.slice A287_2 ((rd_T34 l0 x6_1).f2).length c287_2)) (ds := []) (tf_ 0 6) (by kernel_rfl) rfl rfl ⟨(blk_cell BK283.out 0).trans rfl, (blk_cell BK283.out 1).trans rfl, (blk_cell BK283.out 2).trans rfl, (bt_ HB hw287_0), (bt_ HB hw287_1), (bt_ HB hw287_2)⟩ (fun hHeld => ?_)
  generalize wr.drew = w9 at HO_5 BK283 HB HR287_1 HR287_2 hx287_0 hx287_1 hx287_2 hHeld ⊢
  refine pure_ (i := 0) (N := some 14) (v := ?_) (a' := ?_) #[true, false, false, false, false, false] rfl rfl (by kernel_rfl) (fun _ _ _ h => h) (Or.inl ⟨by rfl, ?_⟩) ?_ ?_
  rotate_left
  · intro w'
    go_simp
    (try (simp only [Instr.field]; simp only [underlying, hu34]; go_simp; simp only [asAgg]; go_simp))
    with_reducible rfl
  rotate_left
  · simp only [Act.put, List.setIfInBounds_toArray, List.set_cons_zero, List.set_cons_succ, i64_w, i32_w]
    rfl
  refine pure_ (i := 1) (N := some 15) (v := ?_) (a' := ?_) #[true, true, false, false, false, false] rfl rfl (by kernel_rfl) (fun _ _ _ h => h) (Or.inl ⟨by rfl, ?_⟩) ?_ ?_
  rotate_left
  · intro w'
    go_simp
    (try (simp only [Instr.field]; simp only [underlying, hu34]; go_simp; simp only [asAgg]; go_simp))
    with_reducible rfl
  rotate_left
  · simp only [Act.put, List.setIfInBounds_toArray, List.set_cons_zero, List.set_cons_succ, i64_w, i32_w]
    rfl
  refine pure_ (i := 2) (N := some 16) (v := ?_) (a' := ?_) #[true, true, true, false, false, false] rfl rfl (by kernel_rfl) (fun _ _ _ h => h) (Or.inl ⟨by rfl, ?_⟩) ?_ ?_
  rotate_left
  · intro w'
    go_simp
    (try (simp only [Instr.field]; simp only [underlying, hu34]; go_simp; simp only [asAgg]; go_simp))
    with_reducible rfl
  rotate_left
  · simp only [Act.put, List.setIfInBounds_toArray, List.set_cons_zero, List.set_cons_succ, i64_w, i32_w]
    rfl
  refine take_ (i := 3) (N := some 17) (v := ?_) (a' := ?_) #[true, true, true, true, false, false] rfl rfl (by kernel_rfl) (fun _ _ _ h => h) (Or.inl ⟨by rfl, ?_⟩) hHeld ?_ ?_
  rotate_left
  · rintro w' ⟨s0, s1, s2, s3, s4, s5⟩
    go_simp
    (try (simp only [Instr.field]; simp only [underlying, hu34]; go_simp; simp only [asAgg]; go_simp))
    with_reducible rfl
  rotate_left
  · simp only [Act.put, List.setIfInBounds_toArray, List.set_cons_zero, List.set_cons_succ, i64_w, i32_w]
    rfl
  refine take_ (i := 4) (N := some 18) (v := ?_) (a' := ?_) #[true, true, true, true, true, false] rfl rfl (by kernel_rfl) (fun _ _ _ h => h) (Or.inl ⟨by rfl, ?_⟩) hHeld ?_ ?_
  rotate_left
  · rintro w' ⟨s0, s1, s2, s3, s4, s5⟩
    go_simp
    (try (simp only [Instr.field]; simp only [underlying, hu34]; go_simp; simp only [asAgg]; go_simp))
    with_reducible rfl
  rotate_left
  · simp only [Act.put, List.setIfInBounds_toArray, List.set_cons_zero, List.set_cons_succ, i64_w, i32_w]
    rfl
  refine one_ (i := 5) (N := some 19) #[true, true, true, true, true, true] rfl rfl (by kernel_rfl) (by decide) (fun K hK => ?_)
  refine goes_ Try.func41 (by kernel_rfl) rfl #[.agg #[.int .i64 ((rd_T34 l0 x6_1).f0), .slice A287_1 ((rd_T34 l0 x6_1).f1).length c287_1, .slice A287_2 ((rd_T34 l0 x6_1).f2).length c287_2], .agg #[.int .i64 a1_0, .slice A1_1 l1_1.length c1_1, .slice A1_2 l1_2.length c1_2]] (by rfl) rfl rfl mp_ ?_
  with_reducible refine (spec_IsSafe.calls k1 ((rd_T34 l0 x6_1).f0) _ _ ((rd_T34 l0 x6_1).f1) _ _ ((rd_T34 l0 x6_1).f2) a1_0 _ _ l1_1 _ _ l1_2 t288 _ ?side1 ?side2 ?side3 ?side4 ?side5 ?side6 ?side7 ?side8 A8.out).mono ?_
  (case side1 => exact cb_ HR287_1 HB)
  (case side2 => exact HC287_1.out)
  (case side3 => exact cb_ HR287_2 HB)
  (case side4 => exact HC287_2.out)
  (case side5 => exact cb_ HR1_1 HB)
  (case side6 => exact HC1_1.out)
  (case side7 => exact cb_ HR1_2 HB)
  (case side8 => exact HC1_2.out)
  rintro e w10 ⟨rfl, hb⟩
  refine ⟨_, rfl, ?_⟩
  have _ := Q_ (Kd.R_below (pr_ HO_5.out) hb)
  have _ := Q_ (bb_ BK283.out hb)
  have _ := Q_ (below_step (pb1_ HB.out GE283.out) hb)
  clear HO_5 BK283 HB
  rename_i HO_5 BK283 HB
  (try clear hb)
  (try clear hb2)
  (try clear hk)
  (try clear hi)
  refine hK.out _ _ ⟨(blk_cell BK283.out 0).trans rfl, (blk_cell BK283.out 1).trans rfl, (blk_cell BK283.out 2).trans rfl, (bt_ HB hw287_0), (bt_ HB hw287_1), (bt_ HB hw287_2)⟩ (fun hHeld => ?_)
  clear hK K
  refine no_ (some 19) ?_
  refine done_ (by kernel_rfl) ?_
  go_upto_if 19 with (fail)
  have H := HS_.out
  clear HS_
  by_cases c11 : t288 = true
  rotate_left
  · replace c11 := Bool.eq_false_iff.mpr c11
    subst c11
    rw [if_neg (show ¬ (false = true) by decide)] at H
    have H' := Q_ H
    clear H
    go_wp2
    go_roundg k1
    case measure => have := HK1.out; omega
    case rel => exact ⟨(x5_1), (wrap64 (x6_1 + 1)), el_, H', ⟨by have := HK1.out; omega⟩, ⟨pr_ HO_5.out⟩, ⟨pk_ BK283.out⟩, ⟨pb1_ HB.out GE283.out⟩⟩
  subst c11
  rw [if_pos rfl] at H
  by_cases c12 : x5_1.length < 17592186044416
  rotate_left
  · rw [if_neg c12] at H
    exact absurd H (by simp)
  rw [if_pos c12] at H
  have LMc12 := Q_ c12
  clear c12
  obtain ⟨y289, hy289⟩ : ∃ y_ : List Int, y_ = (x5_1 ++ [x6_1]) := ⟨_, rfl⟩
  replace H : (spec_WorksWith.l0 k1 l0 y289 (wrap64 (x6_1 + 1)) a1_0 l1_1 l1_2) = some r := by first | (rw [hy289]; with_reducible exact H) | (have H2_ := (Option.bind_some _ _).symm.trans H; rw [hy289]; with_reducible exact H2_) | (have H2_ := (Option.bind_some _ _).symm.trans H; with_reducible exact H2_) | with_reducible exact H | (rw [hy289]; exact H) | exact H
  have Ny289 := Q_ hy289
  clear hy289
  have H' := Q_ H
  clear H
  go_wp2_with (first | ((with_reducible refine gate_builtin (b := .append) (xs := #[.tmp 20, .tmp 22]) rfl ?_); at_builtin; refine Kd.R_append (Kd.int .i64) (w0 := w) w.heap.size rfl (.tmp 20) (.tmp 22) 39 3 (.int .i64 0) 8 rfl Try.underlying39 info3 rfl (by decide) (by omega) u5 x5_1 x6_1 [.int .i64 x6_1] (fun _ => True) (fun _ => False) rfl rfl ?aP (fun _ hk => hk.elim) ?aF ?aO ?aB ?aS ?aL ?_; (case aP => exact rfl); (case aB => exact (pb1_ HB.out GE283.out)); (case aF => exact (fun _ _ => trivial)); (case aO => exact (pr_ HO_5.out)); (case aS => exact (below_size (pb1_ HB.out GE283.out))); (case aL => have := LMc12.out; omega); intro v290 w13 ho hb hg hat; rw [← Ny289.out] at ho; have _ := Q_ (blk_grown (g := gb283) (o := .cells #[.int .i64 a1_0, .slice A1_1 l1_1.length c1_1, .slice A1_2 l1_2.length c1_2] 34 (0, 0)) (pk_ BK283.out) hg (Kd.R_ne HO_5.out BK283.out (by decide))); have _ := Q_ (hb); have _ := Q_ (ho); clear BK283 HB HO_5; rename_i BK283 HB HO291; clear ho hb hg hat))
  go_roundg k1
  case measure => have := HK1.out; omega
  case rel => exact ⟨(y289), (wrap64 (x6_1 + 1)), el_, H', ⟨by have := HK1.out; omega⟩, ⟨pr_ HO291.out⟩, ⟨pk_ BK283.out⟩, ⟨pb1_ HB.out GE283.out⟩⟩

end Go.Proofs.Ytldcchjbaglppaa.Print
