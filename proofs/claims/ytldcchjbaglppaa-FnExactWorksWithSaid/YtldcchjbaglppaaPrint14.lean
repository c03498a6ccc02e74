-- Written by a program of this session (printx.py) out of the translation; Lean checks it.
import Derived.Test.YtldcchjbaglppaaPrint0
import Derived.Test.YtldcchjbaglppaaPrint9
import Derived.Test.YtldcchjbaglppaaPrint10
import Derived.Test.YtldcchjbaglppaaPrint12
import Derived.Test.YtldcchjbaglppaaPrint13
namespace Go.Proofs.Ytldcchjbaglppaa.Print
open Go.RowKit Go.Proofs.YtldcchjbaglppaaW.PrintWords Go.Proofs.YtldcchjbaglppaaW.PrintLast Go.Proofs.YtldcchjbaglppaaW.PrintMore Go.Proofs.Ytldcchjbaglppaa.Short
attribute [local go_sem] max2_int min2_int max_two min_two max_three min_three max_four min_four   -- for this text's walks alone
set_option linter.unusedVariables false
set_option linter.unusedSimpArgs false

/-! ### impl_TroubleAt: function 74 -/
def impl_TroubleAt.j0 : Nat → Int → Int → Bool → Int → List Bool → List (S78) → Int → List Bool → List (S78) → Option (Int)
  | 0, _, _, _, _, _, _, _, _, _ => none
  | k + 1, x2, x3, x9, x441000, x441001, x441002, x442000, x442001, x442002 => if x9 = true then (some 1) else ((impl_NextPairs.f k x441000 x441001 x441002 x442000 x442001 x442002 x2 x3).bind fun t460 => (if (t460.length : Int) = 0 then ((impl_isEnd.f x441000 x441001 x441002 x2).bind fun t463 => (if t463 = true then ((impl_isEnd.f x442000 x442001 x442002 x3).bind fun t464 => (if t464 = true then (some 0) else (some 2))) else (some 2))) else (some 0)))
def impl_TroubleAt.f (k : Nat) (a0_0 : Int) (l0_1 : List Bool) (l0_2 : List (S78)) (a1_0 : Int) (l1_1 : List Bool) (l1_2 : List (S78)) (a2 : Int) (a3 : Int) : Option (Int) := (impl_MovesFrom.f k a0_0 l0_1 l0_2 a2 true).bind fun t442 => ((impl_MovesFrom.f k a1_0 l1_1 l1_2 a3 false).bind fun t445 => ((impl_without.f k t442 t445).bind fun t448 => (if (t448.length : Int) > 0 then (impl_TroubleAt.j0 k a2 a3 true a0_0 l0_1 l0_2 a1_0 l1_1 l1_2) else ((impl_MovesFrom.f k a1_0 l1_1 l1_2 a3 true).bind fun t451 => ((impl_MovesFrom.f k a0_0 l0_1 l0_2 a2 false).bind fun t454 => ((impl_without.f k t451 t454).bind fun t457 => (impl_TroubleAt.j0 k a2 a3 (decide ((t457.length : Int) > 0)) a0_0 l0_1 l0_2 a1_0 l1_1 l1_2)))))))
theorem impl_TroubleAt.mono_l : ∀ k, (∀ y0 y1 y2 y3 y4 y5 y6 y7 y8, LeO (impl_TroubleAt.j0 k y0 y1 y2 y3 y4 y5 y6 y7 y8) (impl_TroubleAt.j0 (k + 1) y0 y1 y2 y3 y4 y5 y6 y7 y8))
  | 0 => fun _ _ _ _ _ _ _ _ _ r h => by simp [impl_TroubleAt.j0] at h
  | k + 1 => by
    have ih0 := impl_TroubleAt.mono_l k
    · intro y0 y1 y2 y3 y4 y5 y6 y7 y8
      unfold impl_TroubleAt.j0
      exact mo4_ ih0 impl_MovesFrom.mono impl_NextPairs.mono impl_without.mono
theorem impl_TroubleAt.mono : ∀ a0 a1 a2 a3 a4 a5 a6 a7 k, LeO (impl_TroubleAt.f k a0 a1 a2 a3 a4 a5 a6 a7) (impl_TroubleAt.f (k + 1) a0 a1 a2 a3 a4 a5 a6 a7) := by
  intro a0 a1 a2 a3 a4 a5 a6 a7 k
  have ih0 := impl_TroubleAt.mono_l k
  unfold impl_TroubleAt.f
  exact mo4_ ih0 impl_MovesFrom.mono impl_NextPairs.mono impl_without.mono
def impl_TroubleAt.T1 : Bool × List (List Nat × List Nat) := (true, [([], []), ([], []), ([0, 1], [0, 1]), ([], []), ([], []), ([3, 4, 2], [3, 4]), ([2, 5, 5], [2, 5]), ([6], [6]), ([7], [7]), ([8, 6], [8]), ([9], [9]), ([9], [9]), ([10, 11, 9, 9], [9, 10, 11]), ([9], [9]), ([9], [9]), ([13, 14, 12, 9], [9, 13, 14]), ([12, 15, 15, 9], [9, 12, 15]), ([16, 9], [9, 16]), ([17, 9], [9, 17]), ([9, 18], [9, 18]), ([19, 16], [19])])
def impl_TroubleAt.B1 : List Nat := [0, 0, 3, 0, 0, 31, 63, 127, 255, 511, 1023, 1023, 4095, 1023, 1023, 32767, 65535, 131071, 262143, 524287, 1048575]
theorem impl_TroubleAt.tab1 : rtab .any (opsOf Try.f74 1) = impl_TroubleAt.T1 := by kernel_rfl
theorem impl_TroubleAt.bits1 : waitsOk impl_TroubleAt.T1.2 impl_TroubleAt.B1 = true := by kernel_rfl
set_option maxHeartbeats 8000000 in
set_option maxRecDepth 100000 in
theorem impl_TroubleAt.calls (k : Nat) (a0_0 : Int) (A0_1 : Option Addr) (c0_1 : Nat) (l0_1 : List Bool) (A0_2 : Option Addr) (c0_2 : Nat) (l0_2 : List (S78)) (a1_0 : Int) (A1_1 : Option Addr) (c1_1 : Nat) (l1_1 : List Bool) (A1_2 : Option Addr) (c1_2 : Nat) (l1_2 : List (S78)) (a2 : Int) (a3 : Int) (r : Int) (w : World) (hr0_1 : Kd.C Kd.bool w A0_1 l0_1.length l0_1) (hc0_1 : l0_1.length ≤ c0_1) (hr0_2 : Kd.C k78 w A0_2 l0_2.length l0_2) (hc0_2 : l0_2.length ≤ c0_2) (hr1_1 : Kd.C Kd.bool w A1_1 l1_1.length l1_1) (hc1_1 : l1_1.length ≤ c1_1) (hr1_2 : Kd.C k78 w A1_2 l1_2.length l1_2) (hc1_2 : l1_2.length ≤ c1_2) (h : impl_TroubleAt.f k a0_0 l0_1 l0_2 a1_0 l1_1 l1_2 a2 a3 = some r) :
    Calls Try.prog 74 #[.agg #[.int .i64 a0_0, .slice A0_1 l0_1.length c0_1, .slice A0_2 l0_2.length c0_2], .agg #[.int .i64 a1_0, .slice A1_1 l1_1.length c1_1, .slice A1_2 l1_2.length c1_2], .int .i64 a2, .int .i64 a3] w fun e w' => e = .returned (.int .i64 r) ∧ Below w.heap.size w w' := by
  have hu34 := Try.underlying34
  have HR0_1 := Q_ hr0_1
  have HC0_1 := Q_ hc0_1
  clear hr0_1 hc0_1
  have HR0_2 := Q_ hr0_2
  have HC0_2 := Q_ hc0_2
  clear hr0_2 hc0_2
  have HR1_1 := Q_ hr1_1
  have HC1_1 := Q_ hc1_1
  clear hr1_1 hc1_1
  have HR1_2 := Q_ hr1_2
  have HC1_2 := Q_ hc1_2
  clear hr1_2 hc1_2
  have HB := Q_ (Below.refl w.heap.size w)
  have H : ((impl_MovesFrom.f k a0_0 l0_1 l0_2 a2 true).bind fun t442 => ((impl_MovesFrom.f k a1_0 l1_1 l1_2 a3 false).bind fun t445 => ((impl_without.f k t442 t445).bind fun t448 => (if (t448.length : Int) > 0 then (impl_TroubleAt.j0 k a2 a3 true a0_0 l0_1 l0_2 a1_0 l1_1 l1_2) else ((impl_MovesFrom.f k a1_0 l1_1 l1_2 a3 true).bind fun t451 => ((impl_MovesFrom.f k a0_0 l0_1 l0_2 a2 false).bind fun t454 => ((impl_without.f k t451 t454).bind fun t457 => (impl_TroubleAt.j0 k a2 a3 (decide ((t457.length : Int) > 0)) a0_0 l0_1 l0_2 a1_0 l1_1 l1_2)))))))) = some r := h
  clear h
  have HC5 := Q_ H
  clear H
  go_enter Try.func74, Try.ntmps74
  go_upto_region 1 with (first | ((with_reducible refine gate_dst (N := 4) rfl ?_); (try (refine gate_guard (by rfl) ?_; dsimp only)); refine box_event ?hg (N := 4) ?hd (cs := #[.int .i64 a0_0, .slice A0_1 l0_1.length c0_1, .slice A0_2 l0_2.length c0_2]) (t := 34) ?hr ?_; (case hd => rfl); (case hg => rfl); (case hr => first | (go_simp; done) | (go_simp; rfl)); intro gb440 hg w6 hbox hb; have n0_ := Q_ (below_step (pb_ HB.out) hb); have n1_ := Q_ (hbox); have n2_ := Q_ ((by rw [hg]; exact (below_size (pb_ HB.out)) : w.heap.size ≤ gb440)); have n3_ := n2_; clear HB; have HB := n0_; have BK440 := n1_; have GW440 := n2_; have GE440 := n3_; clear n0_ n1_ n2_ n3_; clear hb hbox hg) | ((with_reducible refine gate_dst (N := 5) rfl ?_); (try (refine gate_guard (by rfl) ?_; dsimp only)); refine box_event ?hg (N := 5) ?hd (cs := #[.int .i64 a1_0, .slice A1_1 l1_1.length c1_1, .slice A1_2 l1_2.length c1_2]) (t := 34) ?hr ?_; (case hd => rfl); (case hg => rfl); (case hr => first | (go_simp; done) | (go_simp; rfl)); intro gb441 hg w7 hbox hb; have n0_ := Q_ (bb_ BK440.out hb); have n1_ := Q_ (below_step (pb1_ HB.out GE440.out) hb); have n2_ := Q_ (hbox); have n3_ := Q_ ((by rw [hg]; exact (below_size (pb1_ HB.out GE440.out)) : w.heap.size ≤ gb441)); have n4_ := n3_; have n5_ := Q_ ((by rw [hg]; exact Nat.ne_of_lt (blk_lt (pk_ BK440.out)) : gb440 ≠ gb441)); have n6_ := Q_ ((by rw [hg]; exact Nat.ne_of_gt (blk_lt (pk_ BK440.out)) : gb441 ≠ gb440)); clear BK440; clear HB; have BK440 := n0_; have HB := n1_; have BK441 := n2_; have GW441 := n3_; have GE441 := n4_; have NB440_441 := n5_; have NB441_440 := n6_; clear n0_ n1_ n2_ n3_ n4_ n5_ n6_; clear hb hbox hg))
  (try simp only [Act.put, List.setIfInBounds_toArray, List.set_cons_zero, List.set_cons_succ])
  go_cut [9] (fun v9 wc => ∃ (kq : Nat) (x9_4 : Bool), v9 = .bool x9_4 ∧ Aside0 (impl_TroubleAt.j0 kq a2 a3 x9_4 a0_0 l0_1 l0_2 a1_0 l1_1 l1_2 = some r) ∧ Aside0 (kq ≤ k) ∧ Aside0 (wc.heap[gb440]? = some (.cells #[.int .i64 a0_0, (.slice A0_1 l0_1.length c0_1), (.slice A0_2 l0_2.length c0_2)] 34 (0, 0))) ∧ Aside0 (wc.heap[gb441]? = some (.cells #[.int .i64 a1_0, (.slice A1_1 l1_1.length c1_1), (.slice A1_2 l1_2.length c1_2)] 34 (0, 0))) ∧ Aside0 (Below w.heap.size w wc))
  case first =>
    have H := HC5.out
    clear HC5
    replace H := Option.bind_eq_some_iff.mp H
    obtain ⟨t442, A80, H⟩ := H
    (try dsimp only at H)
    have A8 := Q_ A80
    clear A80
    replace H := Option.bind_eq_some_iff.mp H
    obtain ⟨t445, A90, H⟩ := H
    (try dsimp only at H)
    have A9 := Q_ A90
    clear A90
    replace H := Option.bind_eq_some_iff.mp H
    obtain ⟨t448, A100, H⟩ := H
    (try dsimp only at H)
    have A10 := Q_ A100
    clear A100
    by_cases c11 : (t448.length : Int) > 0
    · rw [if_pos c11] at H
      have c11b0 : decide (0 < (t448.length : Int)) = true := decide_eq_true c11
      have c11b1 : decide (0 < t448.length) = true := decide_eq_true (by omega)
      clear c11
      (first | rw [c11b0] | (simp only [i64_w, i32_w]; rw [c11b0]) | rw [c11b1] | skip)
      have H' := Q_ H
      clear H
      try go_wp2
      have _ := Q_ (blk_drew BK440.out)
      have _ := Q_ (blk_drew BK441.out)
      have _ := Q_ (below_drew1 HB.out)
      clear BK440 BK441 HB
      rename_i BK440 BK441 HB
      refine start_ (n := 21) (S := fun w' => w'.cell? ⟨gb440, 0, none⟩ = some (.int .i64 a0_0) ∧ w'.cell? ⟨gb440, 1, none⟩ = some (.slice A0_1 l0_1.length c0_1) ∧ w'.cell? ⟨gb440, 2, none⟩ = some (.slice A0_2 l0_2.length c0_2) ∧ w'.cell? ⟨gb441, 0, none⟩ = some (.int .i64 a1_0) ∧ w'.cell? ⟨gb441, 1, none⟩ = some (.slice A1_1 l1_1.length c1_1) ∧ w'.cell? ⟨gb441, 2, none⟩ = some (.slice A1_2 l1_2.length c1_2)) (ds := []) (tf_ 0 21) (by kernel_rfl) rfl rfl ⟨(blk_cell BK440.out 0).trans rfl, (blk_cell BK440.out 1).trans rfl, (blk_cell BK440.out 2).trans rfl, (blk_cell BK441.out 0).trans rfl, (blk_cell BK441.out 1).trans rfl, (blk_cell BK441.out 2).trans rfl⟩ (fun hHeld => ?_); refine with_tabW impl_TroubleAt.tab1 impl_TroubleAt.bits1 (fun HT_ HW_ => ?_)
      generalize w7.drew = w12 at BK440 BK441 HB hHeld ⊢
      refine pu_ 1 (some 11) (tm_ 21 2) HT_ ?_
      refine pu_ 4 (some 14) (tm_ 21 18) HT_ ?_
      refine ta_ 0 (some 10) (tm_ 21 19) HT_ HW_ hHeld ?_
      refine ta_ 3 (some 13) (tm_ 21 27) HT_ HW_ hHeld ?_
      refine on_ 2 (some 12) (tf_ 5 21) HT_ (fun K hK => ?_)
      refine goes_ Try.func81 (by kernel_rfl) rfl #[.agg #[.int .i64 a0_0, .slice A0_1 l0_1.length c0_1, .slice A0_2 l0_2.length c0_2], .int .i64 a2, .bool true] (by rfl) rfl rfl mp_ ?_
      with_reducible refine (impl_MovesFrom.calls k a0_0 _ _ l0_1 _ _ l0_2 a2 true t442 _ ?side1 ?side2 ?side3 ?side4 A8.out).mono ?_
      (case side1 => exact cb_ HR0_1 HB)
      (case side2 => exact HC0_1.out)
      (case side3 => exact cb_ HR0_2 HB)
      (case side4 => exact HC0_2.out)
      rintro e w13 ⟨v443, rfl, ho0, hb⟩
      refine ⟨_, rfl, ?_⟩
      have _ := Q_ (Kd.R_lower ho0 (below_size (pb2_ HB.out GE440.out GE441.out)))
      have _ := Q_ (bb_ BK440.out hb)
      have _ := Q_ (bb_ BK441.out hb)
      have _ := Q_ (below_step (pb2_ HB.out GE440.out GE441.out) hb)
      clear BK440 BK441 HB
      rename_i HO444 BK440 BK441 HB
      (try clear hb)
      (try clear hb2)
      (try clear hk)
      (try clear hi)
      (try clear ho0)
      refine hK.out _ _ ⟨(blk_cell BK440.out 0).trans rfl, (blk_cell BK440.out 1).trans rfl, (blk_cell BK440.out 2).trans rfl, (blk_cell BK441.out 0).trans rfl, (blk_cell BK441.out 1).trans rfl, (blk_cell BK441.out 2).trans rfl⟩ (fun hHeld => ?_)
      clear hK K
      refine no_ (some 12) ?_
      refine on_ 5 (some 15) (tf_ 6 21) HT_ (fun K hK => ?_)
      refine goes_ Try.func81 (by kernel_rfl) rfl #[.agg #[.int .i64 a1_0, .slice A1_1 l1_1.length c1_1, .slice A1_2 l1_2.length c1_2], .int .i64 a3, .bool false] (by rfl) rfl rfl mp_ ?_
      with_reducible refine (impl_MovesFrom.calls k a1_0 _ _ l1_1 _ _ l1_2 a3 false t445 _ ?side1 ?side2 ?side3 ?side4 A9.out).mono ?_
      (case side1 => exact cb_ HR1_1 HB)
      (case side2 => exact HC1_1.out)
      (case side3 => exact cb_ HR1_2 HB)
      (case side4 => exact HC1_2.out)
      rintro e w14 ⟨v446, rfl, ho0, hb⟩
      refine ⟨_, rfl, ?_⟩
      have _ := Q_ (Kd.R_elder' (pr_ HO444.out) (Kd.R_base ho0) hb)
      have _ := Q_ (Kd.R_lower (Kd.R_new' ho0 (Kd.R_lt (pr_ HO444.out))) (below_size (pb2_ HB.out GE440.out GE441.out)))
      have _ := Q_ (bb_ BK440.out hb)
      have _ := Q_ (bb_ BK441.out hb)
      have _ := Q_ (below_step (pb2_ HB.out GE440.out GE441.out) hb)
      clear HO444 BK440 BK441 HB
      rename_i HO444 HO447 BK440 BK441 HB
      (try clear hb)
      (try clear hb2)
      (try clear hk)
      (try clear hi)
      (try clear ho0)
      obtain ⟨Ao15, co15, eo15⟩ := Kd.R_slice HO444.out
      (first | subst eo15 | (injection eo15 with f1_ f2_ f3_; have f4_ := f1_.symm; have f5_ := f3_.symm; clear f1_ f2_ f3_; subst f4_; subst f5_))
      obtain ⟨Ao16, co16, eo16⟩ := Kd.R_slice HO447.out
      (first | subst eo16 | (injection eo16 with f1_ f2_ f3_; have f4_ := f1_.symm; have f5_ := f3_.symm; clear f1_ f2_ f3_; subst f4_; subst f5_))
      refine hK.out _ _ ⟨(blk_cell BK440.out 0).trans rfl, (blk_cell BK440.out 1).trans rfl, (blk_cell BK440.out 2).trans rfl, (blk_cell BK441.out 0).trans rfl, (blk_cell BK441.out 1).trans rfl, (blk_cell BK441.out 2).trans rfl⟩ (fun hHeld => ?_)
      clear hK K
      refine no_ (some 15) ?_
      refine on_ 6 (some 16) (tf_ 7 21) HT_ (fun K hK => ?_)
      refine goes_ Try.func82 (by kernel_rfl) rfl #[.slice Ao15 t442.length co15, .slice Ao16 t445.length co16] (by rfl) rfl rfl mp_ ?_
      with_reducible refine (impl_without.calls k _ _ t442 _ _ t445 t448 _ ?side1 ?side2 ?side3 ?side4 A10.out).mono ?_
      (case side1 => exact pc_ ((Kd.R_reads' HO444.out).2.2))
      (case side2 => exact (Kd.R_reads' HO444.out).2.1)
      (case side3 => exact pc_ ((Kd.R_reads' HO447.out).2.2))
      (case side4 => exact (Kd.R_reads' HO447.out).2.1)
      rintro e w17 ⟨v449, rfl, ho0, hb⟩
      refine ⟨_, rfl, ?_⟩
      have _ := Q_ (Kd.R_elder' (pr_ HO444.out) (Kd.R_base ho0) hb)
      have _ := Q_ (Kd.R_elder' (pr_ HO447.out) (Kd.R_base ho0) hb)
      have _ := Q_ (Kd.R_lower (Kd.R_new' (Kd.R_new' ho0 (Kd.R_lt (pr_ HO444.out))) (Kd.R_lt (pr_ HO447.out))) (below_size (pb2_ HB.out GE440.out GE441.out)))
      have _ := Q_ (bb_ BK440.out hb)
      have _ := Q_ (bb_ BK441.out hb)
      have _ := Q_ (below_step (pb2_ HB.out GE440.out GE441.out) hb)
      clear HO444 HO447 BK440 BK441 HB
      rename_i HO444 HO447 HO450 BK440 BK441 HB
      (try clear hb)
      (try clear hb2)
      (try clear hk)
      (try clear hi)
      (try clear ho0)
      obtain ⟨Ao18, co18, eo18⟩ := Kd.R_slice HO450.out
      (first | subst eo18 | (injection eo18 with f1_ f2_ f3_; have f4_ := f1_.symm; have f5_ := f3_.symm; clear f1_ f2_ f3_; subst f4_; subst f5_))
      refine hK.out _ _ ⟨(blk_cell BK440.out 0).trans rfl, (blk_cell BK440.out 1).trans rfl, (blk_cell BK440.out 2).trans rfl, (blk_cell BK441.out 0).trans rfl, (blk_cell BK441.out 1).trans rfl, (blk_cell BK441.out 2).trans rfl⟩ (fun hHeld => ?_)
      clear hK K
      refine no_ (some 16) ?_
      refine pu_ 7 (some 17) (tf_ 8 21) HT_ ?_
      refine pu_ 8 (some 18) (tf_ 9 21) HT_ ?_
      refine pu_ 9 (some 19) (tf_ 10 21) HT_ ?_
      refine pn_ 10 (some 20) (tf_ 11 21) HT_ ?_
      refine pn_ 11 (some 21) (tf_ 12 21) HT_ ?_
      refine pn_ 12 (some 22) (tf_ 13 21) HT_ ?_
      refine pn_ 13 (some 23) (tf_ 14 21) HT_ ?_
      refine pn_ 14 (some 24) (tf_ 15 21) HT_ ?_
      refine pn_ 15 (some 25) (tf_ 16 21) HT_ ?_
      refine pn_ 16 (some 26) (tf_ 17 21) HT_ ?_
      refine pn_ 17 (some 27) (tf_ 18 21) HT_ ?_
      refine pn_ 18 (some 28) (tf_ 19 21) HT_ ?_
      refine pu_ 19 (some 29) (tf_ 20 21) HT_ ?_
      refine pu_ 20 (some 9) (tf_ 21 21) HT_ ?_
      refine done_ (done_of HT_.out (by kernel_rfl)) ?_
      try go_wp2
      go_meet
      case rel => exact ⟨_, (true), el_, H', ⟨by first | omega | exact Nat.le_refl _⟩, ⟨pk_ BK440.out⟩, ⟨pk_ BK441.out⟩, ⟨pb2_ HB.out GE440.out GE441.out⟩⟩
    rw [if_neg c11] at H
    have c11b0 : decide (0 < (t448.length : Int)) = false := decide_eq_false c11
    have c11b1 : decide (0 < t448.length) = false := decide_eq_false (by omega)
    clear c11
    (first | rw [c11b0] | (simp only [i64_w, i32_w]; rw [c11b0]) | rw [c11b1] | skip)
    replace H := Option.bind_eq_some_iff.mp H
    obtain ⟨t451, A190, H⟩ := H
    (try dsimp only at H)
    have A19 := Q_ A190
    clear A190
    replace H := Option.bind_eq_some_iff.mp H
    obtain ⟨t454, A200, H⟩ := H
    (try dsimp only at H)
    have A20 := Q_ A200
    clear A200
    replace H := Option.bind_eq_some_iff.mp H
    obtain ⟨t457, A210, H⟩ := H
    (try dsimp only at H)
    have A21 := Q_ A210
    clear A210
    have H' := Q_ H
    clear H
    try go_wp2
    have _ := Q_ (blk_drew BK440.out)
    have _ := Q_ (blk_drew BK441.out)
    have _ := Q_ (below_drew1 HB.out)
    clear BK440 BK441 HB
    rename_i BK440 BK441 HB
    refine start_ (n := 21) (S := fun w' => w'.cell? ⟨gb440, 0, none⟩ = some (.int .i64 a0_0) ∧ w'.cell? ⟨gb440, 1, none⟩ = some (.slice A0_1 l0_1.length c0_1) ∧ w'.cell? ⟨gb440, 2, none⟩ = some (.slice A0_2 l0_2.length c0_2) ∧ w'.cell? ⟨gb441, 0, none⟩ = some (.int .i64 a1_0) ∧ w'.cell? ⟨gb441, 1, none⟩ = some (.slice A1_1 l1_1.length c1_1) ∧ w'.cell? ⟨gb441, 2, none⟩ = some (.slice A1_2 l1_2.length c1_2)) (ds := []) (tf_ 0 21) (by kernel_rfl) rfl rfl ⟨(blk_cell BK440.out 0).trans rfl, (blk_cell BK440.out 1).trans rfl, (blk_cell BK440.out 2).trans rfl, (blk_cell BK441.out 0).trans rfl, (blk_cell BK441.out 1).trans rfl, (blk_cell BK441.out 2).trans rfl⟩ (fun hHeld => ?_); refine with_tabW impl_TroubleAt.tab1 impl_TroubleAt.bits1 (fun HT_ HW_ => ?_)
    generalize w7.drew = w22 at BK440 BK441 HB hHeld ⊢
    refine pu_ 1 (some 11) (tm_ 21 2) HT_ ?_
    refine pu_ 4 (some 14) (tm_ 21 18) HT_ ?_
    refine ta_ 0 (some 10) (tm_ 21 19) HT_ HW_ hHeld ?_
    refine ta_ 3 (some 13) (tm_ 21 27) HT_ HW_ hHeld ?_
    refine on_ 2 (some 12) (tf_ 5 21) HT_ (fun K hK => ?_)
    refine goes_ Try.func81 (by kernel_rfl) rfl #[.agg #[.int .i64 a0_0, .slice A0_1 l0_1.length c0_1, .slice A0_2 l0_2.length c0_2], .int .i64 a2, .bool true] (by rfl) rfl rfl mp_ ?_
    with_reducible refine (impl_MovesFrom.calls k a0_0 _ _ l0_1 _ _ l0_2 a2 true t442 _ ?side1 ?side2 ?side3 ?side4 A8.out).mono ?_
    (case side1 => exact cb_ HR0_1 HB)
    (case side2 => exact HC0_1.out)
    (case side3 => exact cb_ HR0_2 HB)
    (case side4 => exact HC0_2.out)
    rintro e w23 ⟨v443, rfl, ho0, hb⟩
    refine ⟨_, rfl, ?_⟩
    have _ := Q_ (Kd.R_lower ho0 (below_size (pb2_ HB.out GE440.out GE441.out)))
    have _ := Q_ (bb_ BK440.out hb)
    have _ := Q_ (bb_ BK441.out hb)
    have _ := Q_ (below_step (pb2_ HB.out GE440.out GE441.out) hb)
    clear BK440 BK441 HB
    rename_i HO444 BK440 BK441 HB
    (try clear hb)
    (try clear hb2)
    (try clear hk)
    (try clear hi)
    (try clear ho0)
    (try (obtain ⟨Ao_, co_, eo_⟩ := Kd.R_slice HO444.out; subst eo_))
    refine hK.out _ _ ⟨(blk_cell BK440.out 0).trans rfl, (blk_cell BK440.out 1).trans rfl, (blk_cell BK440.out 2).trans rfl, (blk_cell BK441.out 0).trans rfl, (blk_cell BK441.out 1).trans rfl, (blk_cell BK441.out 2).trans rfl⟩ (fun hHeld => ?_)
    clear hK K
    refine no_ (some 12) ?_
    refine on_ 5 (some 15) (tf_ 6 21) HT_ (fun K hK => ?_)
    refine goes_ Try.func81 (by kernel_rfl) rfl #[.agg #[.int .i64 a1_0, .slice A1_1 l1_1.length c1_1, .slice A1_2 l1_2.length c1_2], .int .i64 a3, .bool false] (by rfl) rfl rfl mp_ ?_
    with_reducible refine (impl_MovesFrom.calls k a1_0 _ _ l1_1 _ _ l1_2 a3 false t445 _ ?side1 ?side2 ?side3 ?side4 A9.out).mono ?_
    (case side1 => exact cb_ HR1_1 HB)
    (case side2 => exact HC1_1.out)
    (case side3 => exact cb_ HR1_2 HB)
    (case side4 => exact HC1_2.out)
    rintro e w24 ⟨v446, rfl, ho0, hb⟩
    refine ⟨_, rfl, ?_⟩
    have _ := Q_ (Kd.R_elder' (pr_ HO444.out) (Kd.R_base ho0) hb)
    have _ := Q_ (Kd.R_lower (Kd.R_new' ho0 (Kd.R_lt (pr_ HO444.out))) (below_size (pb2_ HB.out GE440.out GE441.out)))
    have _ := Q_ (bb_ BK440.out hb)
    have _ := Q_ (bb_ BK441.out hb)
    have _ := Q_ (below_step (pb2_ HB.out GE440.out GE441.out) hb)
    clear HO444 BK440 BK441 HB
    rename_i HO444 HO447 BK440 BK441 HB
    (try clear hb)
    (try clear hb2)
    (try clear hk)
    (try clear hi)
    (try clear ho0)
    obtain ⟨Ao25, co25, eo25⟩ := Kd.R_slice HO444.out
    (first | subst eo25 | (injection eo25 with f1_ f2_ f3_; have f4_ := f1_.symm; have f5_ := f3_.symm; clear f1_ f2_ f3_; subst f4_; subst f5_))
    obtain ⟨Ao26, co26, eo26⟩ := Kd.R_slice HO447.out
    (first | subst eo26 | (injection eo26 with f1_ f2_ f3_; have f4_ := f1_.symm; have f5_ := f3_.symm; clear f1_ f2_ f3_; subst f4_; subst f5_))
    refine hK.out _ _ ⟨(blk_cell BK440.out 0).trans rfl, (blk_cell BK440.out 1).trans rfl, (blk_cell BK440.out 2).trans rfl, (blk_cell BK441.out 0).trans rfl, (blk_cell BK441.out 1).trans rfl, (blk_cell BK441.out 2).trans rfl⟩ (fun hHeld => ?_)
    clear hK K
    refine no_ (some 15) ?_
    refine on_ 6 (some 16) (tf_ 7 21) HT_ (fun K hK => ?_)
    refine goes_ Try.func82 (by kernel_rfl) rfl #[.slice Ao25 t442.length co25, .slice Ao26 t445.length co26] (by rfl) rfl rfl mp_ ?_
    with_reducible refine (impl_without.calls k _ _ t442 _ _ t445 t448 _ ?side1 ?side2 ?side3 ?side4 A10.out).mono ?_
    (case side1 => exact pc_ ((Kd.R_reads' HO444.out).2.2))
    (case side2 => exact (Kd.R_reads' HO444.out).2.1)
    (case side3 => exact pc_ ((Kd.R_reads' HO447.out).2.2))
    (case side4 => exact (Kd.R_reads' HO447.out).2.1)
    rintro e w27 ⟨v449, rfl, ho0, hb⟩
    refine ⟨_, rfl, ?_⟩
    have _ := Q_ (Kd.R_elder' (pr_ HO444.out) (Kd.R_base ho0) hb)
    have _ := Q_ (Kd.R_elder' (pr_ HO447.out) (Kd.R_base ho0) hb)
    have _ := Q_ (Kd.R_lower (Kd.R_new' (Kd.R_new' ho0 (Kd.R_lt (pr_ HO444.out))) (Kd.R_lt (pr_ HO447.out))) (below_size (pb2_ HB.out GE440.out GE441.out)))
    have _ := Q_ (bb_ BK440.out hb)
    have _ := Q_ (bb_ BK441.out hb)
    have _ := Q_ (below_step (pb2_ HB.out GE440.out GE441.out) hb)
    clear HO444 HO447 BK440 BK441 HB
    rename_i HO444 HO447 HO450 BK440 BK441 HB
    (try clear hb)
    (try clear hb2)
    (try clear hk)
    (try clear hi)
    (try clear ho0)
    obtain ⟨Ao28, co28, eo28⟩ := Kd.R_slice HO450.out
    (first | subst eo28 | (injection eo28 with f1_ f2_ f3_; have f4_ := f1_.symm; have f5_ := f3_.symm; clear f1_ f2_ f3_; subst f4_; subst f5_))
    refine hK.out _ _ ⟨(blk_cell BK440.out 0).trans rfl, (blk_cell BK440.out 1).trans rfl, (blk_cell BK440.out 2).trans rfl, (blk_cell BK441.out 0).trans rfl, (blk_cell BK441.out 1).trans rfl, (blk_cell BK441.out 2).trans rfl⟩ (fun hHeld => ?_)
    clear hK K
    refine no_ (some 16) ?_
    refine pu_ 7 (some 17) (tf_ 8 21) HT_ ?_
    refine pu_ 8 (some 18) (tf_ 9 21) HT_ ?_
    refine pu_ 9 (some 19) (tf_ 10 21) HT_ ?_
    refine pu_ 11 (some 21) (tm_ 21 3071) HT_ ?_
    refine pu_ 14 (some 24) (tm_ 21 19455) HT_ ?_
    refine ta_ 10 (some 20) (tm_ 21 20479) HT_ HW_ hHeld ?_
    refine ta_ 13 (some 23) (tm_ 21 28671) HT_ HW_ hHeld ?_
    refine on_ 12 (some 22) (tf_ 15 21) HT_ (fun K hK => ?_)
    refine goes_ Try.func81 (by kernel_rfl) rfl #[.agg #[.int .i64 a1_0, .slice A1_1 l1_1.length c1_1, .slice A1_2 l1_2.length c1_2], .int .i64 a3, .bool true] (by rfl) rfl rfl mp_ ?_
    with_reducible refine (impl_MovesFrom.calls k a1_0 _ _ l1_1 _ _ l1_2 a3 true t451 _ ?side1 ?side2 ?side3 ?side4 A19.out).mono ?_
    (case side1 => exact cb_ HR1_1 HB)
    (case side2 => exact HC1_1.out)
    (case side3 => exact cb_ HR1_2 HB)
    (case side4 => exact HC1_2.out)
    rintro e w29 ⟨v452, rfl, ho0, hb⟩
    refine ⟨_, rfl, ?_⟩
    have _ := Q_ (Kd.R_elder' (pr_ HO444.out) (Kd.R_base ho0) hb)
    have _ := Q_ (Kd.R_elder' (pr_ HO447.out) (Kd.R_base ho0) hb)
    have _ := Q_ (Kd.R_elder' (pr_ HO450.out) (Kd.R_base ho0) hb)
    have _ := Q_ (Kd.R_lower (Kd.R_new' (Kd.R_new' (Kd.R_new' ho0 (Kd.R_lt (pr_ HO444.out))) (Kd.R_lt (pr_ HO447.out))) (Kd.R_lt (pr_ HO450.out))) (below_size (pb2_ HB.out GE440.out GE441.out)))
    have _ := Q_ (bb_ BK440.out hb)
    have _ := Q_ (bb_ BK441.out hb)
    have _ := Q_ (below_step (pb2_ HB.out GE440.out GE441.out) hb)
    clear HO444 HO447 HO450 BK440 BK441 HB
    rename_i HO444 HO447 HO450 HO453 BK440 BK441 HB
    (try clear hb)
    (try clear hb2)
    (try clear hk)
    (try clear hi)
    (try clear ho0)
    refine hK.out _ _ ⟨(blk_cell BK440.out 0).trans rfl, (blk_cell BK440.out 1).trans rfl, (blk_cell BK440.out 2).trans rfl, (blk_cell BK441.out 0).trans rfl, (blk_cell BK441.out 1).trans rfl, (blk_cell BK441.out 2).trans rfl⟩ (fun hHeld => ?_)
    clear hK K
    refine no_ (some 22) ?_
    refine on_ 15 (some 25) (tf_ 16 21) HT_ (fun K hK => ?_)
    refine goes_ Try.func81 (by kernel_rfl) rfl #[.agg #[.int .i64 a0_0, .slice A0_1 l0_1.length c0_1, .slice A0_2 l0_2.length c0_2], .int .i64 a2, .bool false] (by rfl) rfl rfl mp_ ?_
    with_reducible refine (impl_MovesFrom.calls k a0_0 _ _ l0_1 _ _ l0_2 a2 false t454 _ ?side1 ?side2 ?side3 ?side4 A20.out).mono ?_
    (case side1 => exact cb_ HR0_1 HB)
    (case side2 => exact HC0_1.out)
    (case side3 => exact cb_ HR0_2 HB)
    (case side4 => exact HC0_2.out)
    rintro e w30 ⟨v455, rfl, ho0, hb⟩
    refine ⟨_, rfl, ?_⟩
    have _ := Q_ (Kd.R_elder' (pr_ HO444.out) (Kd.R_base ho0) hb)
    have _ := Q_ (Kd.R_elder' (pr_ HO447.out) (Kd.R_base ho0) hb)
    have _ := Q_ (Kd.R_elder' (pr_ HO450.out) (Kd.R_base ho0) hb)
    have _ := Q_ (Kd.R_elder' (pr_ HO453.out) (Kd.R_base ho0) hb)
    have _ := Q_ (Kd.R_lower (Kd.R_new' (Kd.R_new' (Kd.R_new' (Kd.R_new' ho0 (Kd.R_lt (pr_ HO444.out))) (Kd.R_lt (pr_ HO447.out))) (Kd.R_lt (pr_ HO450.out))) (Kd.R_lt (pr_ HO453.out))) (below_size (pb2_ HB.out GE440.out GE441.out)))
    have _ := Q_ (bb_ BK440.out hb)
    have _ := Q_ (bb_ BK441.out hb)
    have _ := Q_ (below_step (pb2_ HB.out GE440.out GE441.out) hb)
    clear HO444 HO447 HO450 HO453 BK440 BK441 HB
    rename_i HO444 HO447 HO450 HO453 HO456 BK440 BK441 HB
    (try clear hb)
    (try clear hb2)
    (try clear hk)
    (try clear hi)
    (try clear ho0)
    obtain ⟨Ao31, co31, eo31⟩ := Kd.R_slice HO453.out
    (first | subst eo31 | (injection eo31 with f1_ f2_ f3_; have f4_ := f1_.symm; have f5_ := f3_.symm; clear f1_ f2_ f3_; subst f4_; subst f5_))
    obtain ⟨Ao32, co32, eo32⟩ := Kd.R_slice HO456.out
    (first | subst eo32 | (injection eo32 with f1_ f2_ f3_; have f4_ := f1_.symm; have f5_ := f3_.symm; clear f1_ f2_ f3_; subst f4_; subst f5_))
    refine hK.out _ _ ⟨(blk_cell BK440.out 0).trans rfl, (blk_cell BK440.out 1).trans rfl, (blk_cell BK440.out 2).trans rfl, (blk_cell BK441.out 0).trans rfl, (blk_cell BK441.out 1).trans rfl, (blk_cell BK441.out 2).trans rfl⟩ (fun hHeld => ?_)
    clear hK K
    refine no_ (some 25) ?_
    refine on_ 16 (some 26) (tf_ 17 21) HT_ (fun K hK => ?_)
    refine goes_ Try.func82 (by kernel_rfl) rfl #[.slice Ao31 t451.length co31, .slice Ao32 t454.length co32] (by rfl) rfl rfl mp_ ?_
    with_reducible refine (impl_without.calls k _ _ t451 _ _ t454 t457 _ ?side1 ?side2 ?side3 ?side4 A21.out).mono ?_
    (case side1 => exact pc_ ((Kd.R_reads' HO453.out).2.2))
    (case side2 => exact (Kd.R_reads' HO453.out).2.1)
    (case side3 => exact pc_ ((Kd.R_reads' HO456.out).2.2))
    (case side4 => exact (Kd.R_reads' HO456.out).2.1)
    rintro e w33 ⟨v458, rfl, ho0, hb⟩
    refine ⟨_, rfl, ?_⟩
    have _ := Q_ (Kd.R_elder' (pr_ HO444.out) (Kd.R_base ho0) hb)
    have _ := Q_ (Kd.R_elder' (pr_ HO447.out) (Kd.R_base ho0) hb)
    have _ := Q_ (Kd.R_elder' (pr_ HO450.out) (Kd.R_base ho0) hb)
    have _ := Q_ (Kd.R_elder' (pr_ HO453.out) (Kd.R_base ho0) hb)
    have _ := Q_ (Kd.R_elder' (pr_ HO456.out) (Kd.R_base ho0) hb)
    have _ := Q_ (Kd.R_lower (Kd.R_new' (Kd.R_new' (Kd.R_new' (Kd.R_new' (Kd.R_new' ho0 (Kd.R_lt (pr_ HO444.out))) (Kd.R_lt (pr_ HO447.out))) (Kd.R_lt (pr_ HO450.out))) (Kd.R_lt (pr_ HO453.out))) (Kd.R_lt (pr_ HO456.out))) (below_size (pb2_ HB.out GE440.out GE441.out)))
    have _ := Q_ (bb_ BK440.out hb)
    have _ := Q_ (bb_ BK441.out hb)
    have _ := Q_ (below_step (pb2_ HB.out GE440.out GE441.out) hb)
    clear HO444 HO447 HO450 HO453 HO456 BK440 BK441 HB
    rename_i HO444 HO447 HO450 HO453 HO456 HO459 BK440 BK441 HB
    (try clear hb)
    (try clear hb2)
    (try clear hk)
    (try clear hi)
    (try clear ho0)
    obtain ⟨Ao34, co34, eo34⟩ := Kd.R_slice HO459.out
    (first | subst eo34 | (injection eo34 with f1_ f2_ f3_; have f4_ := f1_.symm; have f5_ := f3_.symm; clear f1_ f2_ f3_; subst f4_; subst f5_))
    refine hK.out _ _ ⟨(blk_cell BK440.out 0).trans rfl, (blk_cell BK440.out 1).trans rfl, (blk_cell BK440.out 2).trans rfl, (blk_cell BK441.out 0).trans rfl, (blk_cell BK441.out 1).trans rfl, (blk_cell BK441.out 2).trans rfl⟩ (fun hHeld => ?_)
    clear hK K
    refine no_ (some 26) ?_
    refine pu_ 17 (some 27) (tf_ 18 21) HT_ ?_
    refine pu_ 18 (some 28) (tf_ 19 21) HT_ ?_
    refine pu_ 19 (some 29) (tf_ 20 21) HT_ ?_
    refine pu_ 20 (some 9) (tf_ 21 21) HT_ ?_
    refine done_ (done_of HT_.out (by kernel_rfl)) ?_
    try go_wp2
    go_meet
    case rel => exact ⟨_, (decide ((t457.length : Int) > 0)), el_, H', ⟨by first | omega | exact Nat.le_refl _⟩, ⟨pk_ BK440.out⟩, ⟨pk_ BK441.out⟩, ⟨pb2_ HB.out GE440.out GE441.out⟩⟩
  clear HC5
  try clear c1
  try clear p2
  try clear c8
  try clear c11
  try clear c11b0
  try clear c11b1
  obtain ⟨kq, x9_4, rfl, HA, HJ4, BK440, BK441, HB⟩ := hcut
  rcases kq with _ | kj4
  · exact absurd HA.out (by simp [impl_TroubleAt.j0])
  have H := HA.out
  clear HA
  simp only [impl_TroubleAt.j0] at H
  by_cases c35 : x9_4 = true
  · subst c35
    rw [if_pos rfl] at H
    obtain rfl := Option.some.inj H
    go_wp2
    go_ret
    exact ⟨er_, pb2_ HB.out GE440.out GE441.out⟩
  replace c35 := Bool.eq_false_iff.mpr c35
  subst c35
  rw [if_neg (show ¬ (false = true) by decide)] at H
  replace H := Option.bind_eq_some_iff.mp H
  obtain ⟨t460, A360, H⟩ := H
  (try dsimp only at H)
  have A36 := Q_ A360
  clear A360
  by_cases c37 : (t460.length : Int) = 0
  rotate_left
  · rw [if_neg c37] at H
    have c37b0 : ((t460.length : Int) == 0) = false := beq_eq_false_iff_ne.mpr c37
    have c37b1 : ((t460.length : Int) != 0) = true := bne_iff_ne.mpr c37
    have c37b2 : ¬ (t460 = []) := fun h_ => c37 (by rw [h_]; rfl)
    obtain rfl := Option.some.inj H
    have hnb38 := NB440_441.out
    have hnc38 := NB441_440.out
    have hcz39 := bc3_ BK440.out
    have hcz40 := bc3_ BK441.out
    go_wp2_with (first | ((with_reducible refine gate_callee (f := 88) rfl ?_); refine gl_ (some 35) Try.func88 #[.agg #[.int .i64 a0_0, .slice A0_1 l0_1.length c0_1, .slice A0_2 l0_2.length c0_2], .agg #[.int .i64 a1_0, .slice A1_1 l1_1.length c1_1, .slice A1_2 l1_2.length c1_2], .int .i64 a2, .int .i64 a3] ?_; (with_reducible refine (impl_NextPairs.calls kj4 a0_0 _ _ l0_1 _ _ l0_2 a1_0 _ _ l1_1 _ _ l1_2 a2 a3 t460 _ ?side1 ?side2 ?side3 ?side4 ?side5 ?side6 ?side7 ?side8 A36.out).mono ?_); (case side1 => exact cb_ HR0_1 HB); (case side2 => exact HC0_1.out); (case side3 => exact cb_ HR0_2 HB); (case side4 => exact HC0_2.out); (case side5 => exact cb_ HR1_1 HB); (case side6 => exact HC1_1.out); (case side7 => exact cb_ HR1_2 HB); (case side8 => exact HC1_2.out); rintro e w41 ⟨v461, rfl, ho0, hb⟩; refine ⟨_, rfl, ?_⟩; have _ := Q_ (Kd.S_lower ho0 (below_size (pb2_ HB.out GE440.out GE441.out))); have _ := Q_ (bb_ BK440.out hb); have _ := Q_ (bb_ BK441.out hb); have _ := Q_ (below_step (pb2_ HB.out GE440.out GE441.out) hb); clear BK440 BK441 HB; rename_i HO462 BK440 BK441 HB; (try clear hb); (try clear hb2); (try clear hk); (try clear hi); (try clear ho0); obtain ⟨Ao42, co42, eo42⟩ := Kd.S_slice HO462.out; subst eo42))
    go_ret
    exact ⟨er_, pb2_ HB.out GE440.out GE441.out⟩
  rw [if_pos c37] at H
  have c37b0 : ((t460.length : Int) == 0) = true := beq_iff_eq.mpr c37
  have c37b1 : ((t460.length : Int) != 0) = false := bne_eq_false_iff_eq.mpr c37
  clear c37
  replace H := Option.bind_eq_some_iff.mp H
  obtain ⟨t463, A430, H⟩ := H
  (try dsimp only at H)
  have A43 := Q_ A430
  clear A430
  by_cases c44 : t463 = true
  rotate_left
  · replace c44 := Bool.eq_false_iff.mpr c44
    subst c44
    rw [if_neg (show ¬ (false = true) by decide)] at H
    obtain rfl := Option.some.inj H
    have hnb45 := NB440_441.out
    have hnc45 := NB441_440.out
    have hcz46 := bc3_ BK440.out
    have hcz47 := bc3_ BK441.out
    go_wp2_with (first | ((with_reducible refine gate_callee (f := 88) rfl ?_); refine gl_ (some 35) Try.func88 #[.agg #[.int .i64 a0_0, .slice A0_1 l0_1.length c0_1, .slice A0_2 l0_2.length c0_2], .agg #[.int .i64 a1_0, .slice A1_1 l1_1.length c1_1, .slice A1_2 l1_2.length c1_2], .int .i64 a2, .int .i64 a3] ?_; (with_reducible refine (impl_NextPairs.calls kj4 a0_0 _ _ l0_1 _ _ l0_2 a1_0 _ _ l1_1 _ _ l1_2 a2 a3 t460 _ ?side1 ?side2 ?side3 ?side4 ?side5 ?side6 ?side7 ?side8 A36.out).mono ?_); (case side1 => exact cb_ HR0_1 HB); (case side2 => exact HC0_1.out); (case side3 => exact cb_ HR0_2 HB); (case side4 => exact HC0_2.out); (case side5 => exact cb_ HR1_1 HB); (case side6 => exact HC1_1.out); (case side7 => exact cb_ HR1_2 HB); (case side8 => exact HC1_2.out); rintro e w48 ⟨v461, rfl, ho0, hb⟩; refine ⟨_, rfl, ?_⟩; have _ := Q_ (Kd.S_lower ho0 (below_size (pb2_ HB.out GE440.out GE441.out))); have _ := Q_ (bb_ BK440.out hb); have _ := Q_ (bb_ BK441.out hb); have _ := Q_ (below_step (pb2_ HB.out GE440.out GE441.out) hb); clear BK440 BK441 HB; rename_i HO462 BK440 BK441 HB; (try clear hb); (try clear hb2); (try clear hk); (try clear hi); (try clear ho0); obtain ⟨Ao49, co49, eo49⟩ := Kd.S_slice HO462.out; subst eo49; have hcz50 := bc3_ BK440.out) | (go_at_call 83; (with_reducible refine (impl_isEnd.calls a0_0 _ _ l0_1 _ _ l0_2 a2 false _ ?side1 ?side2 ?side3 ?side4 A43.out).mono ?_); (case side1 => exact cb_ HR0_1 HB); (case side2 => exact HC0_1.out); (case side3 => exact cb_ HR0_2 HB); (case side4 => exact HC0_2.out); rintro e w51 ⟨rfl, hb⟩; have _ := Q_ (Kd.S_below (ps_ HO462.out) hb); have _ := Q_ (bb_ BK440.out hb); have _ := Q_ (bb_ BK441.out hb); have _ := Q_ (below_step (pb2_ HB.out GE440.out GE441.out) hb); clear HO462 BK440 BK441 HB; rename_i HO462 BK440 BK441 HB; (try clear hb); (try clear hb2); (try clear hk); (try clear hi)))
    go_ret
    exact ⟨er_, pb2_ HB.out GE440.out GE441.out⟩
  subst c44
  rw [if_pos rfl] at H
  replace H := Option.bind_eq_some_iff.mp H
  obtain ⟨t464, A520, H⟩ := H
  replace H : (if t464 = true then (some 0) else (some 2)) = some r := H
  have A52 := Q_ A520
  clear A520
  have HS_ := Q_ H
  clear H
  have hnb53 := NB440_441.out
  have hnc53 := NB441_440.out
  have hcz54 := bc3_ BK440.out
  have hcz55 := bc3_ BK441.out
  go_upto_if 30 with (first | ((with_reducible refine gate_callee (f := 88) rfl ?_); refine gl_ (some 35) Try.func88 #[.agg #[.int .i64 a0_0, .slice A0_1 l0_1.length c0_1, .slice A0_2 l0_2.length c0_2], .agg #[.int .i64 a1_0, .slice A1_1 l1_1.length c1_1, .slice A1_2 l1_2.length c1_2], .int .i64 a2, .int .i64 a3] ?_; (with_reducible refine (impl_NextPairs.calls kj4 a0_0 _ _ l0_1 _ _ l0_2 a1_0 _ _ l1_1 _ _ l1_2 a2 a3 t460 _ ?side1 ?side2 ?side3 ?side4 ?side5 ?side6 ?side7 ?side8 A36.out).mono ?_); (case side1 => exact cb_ HR0_1 HB); (case side2 => exact HC0_1.out); (case side3 => exact cb_ HR0_2 HB); (case side4 => exact HC0_2.out); (case side5 => exact cb_ HR1_1 HB); (case side6 => exact HC1_1.out); (case side7 => exact cb_ HR1_2 HB); (case side8 => exact HC1_2.out); rintro e w56 ⟨v461, rfl, ho0, hb⟩; refine ⟨_, rfl, ?_⟩; have _ := Q_ (Kd.S_lower ho0 (below_size (pb2_ HB.out GE440.out GE441.out))); have _ := Q_ (bb_ BK440.out hb); have _ := Q_ (bb_ BK441.out hb); have _ := Q_ (below_step (pb2_ HB.out GE440.out GE441.out) hb); clear BK440 BK441 HB; rename_i HO462 BK440 BK441 HB; (try clear hb); (try clear hb2); (try clear hk); (try clear hi); (try clear ho0); obtain ⟨Ao57, co57, eo57⟩ := Kd.S_slice HO462.out; subst eo57; have hcz58 := bc3_ BK440.out) | (go_at_call 83; (with_reducible refine (impl_isEnd.calls a0_0 _ _ l0_1 _ _ l0_2 a2 true _ ?side1 ?side2 ?side3 ?side4 A43.out).mono ?_); (case side1 => exact cb_ HR0_1 HB); (case side2 => exact HC0_1.out); (case side3 => exact cb_ HR0_2 HB); (case side4 => exact HC0_2.out); rintro e w59 ⟨rfl, hb⟩; have _ := Q_ (Kd.S_below (ps_ HO462.out) hb); have _ := Q_ (bb_ BK440.out hb); have _ := Q_ (bb_ BK441.out hb); have _ := Q_ (below_step (pb2_ HB.out GE440.out GE441.out) hb); clear HO462 BK440 BK441 HB; rename_i HO462 BK440 BK441 HB; (try clear hb); (try clear hb2); (try clear hk); (try clear hi); have hcz60 := bc3_ BK441.out) | (go_at_call 83; (with_reducible refine (impl_isEnd.calls a1_0 _ _ l1_1 _ _ l1_2 a3 t464 _ ?side1 ?side2 ?side3 ?side4 A52.out).mono ?_); (case side1 => exact cb_ HR1_1 HB); (case side2 => exact HC1_1.out); (case side3 => exact cb_ HR1_2 HB); (case side4 => exact HC1_2.out); rintro e w61 ⟨rfl, hb⟩; have _ := Q_ (Kd.S_below (ps_ HO462.out) hb); have _ := Q_ (bb_ BK440.out hb); have _ := Q_ (bb_ BK441.out hb); have _ := Q_ (below_step (pb2_ HB.out GE440.out GE441.out) hb); clear HO462 BK440 BK441 HB; rename_i HO462 BK440 BK441 HB; (try clear hb); (try clear hb2); (try clear hk); (try clear hi)))
  (try simp only [Act.put, List.setIfInBounds_toArray, List.set_cons_zero, List.set_cons_succ])
  have H := HS_.out
  clear HS_
  by_cases c62 : t464 = true
  rotate_left
  · replace c62 := Bool.eq_false_iff.mpr c62
    subst c62
    rw [if_neg (show ¬ (false = true) by decide)] at H
    obtain rfl := Option.some.inj H
    go_wp2
    go_ret
    exact ⟨er_, pb2_ HB.out GE440.out GE441.out⟩
  subst c62
  rw [if_pos rfl] at H
  obtain rfl := Option.some.inj H
  go_wp2
  go_ret
  exact ⟨er_, pb2_ HB.out GE440.out GE441.out⟩

/-! ### impl_FirstTrouble: function 61 -/
def impl_FirstTrouble.l0 : Nat → List (List Int) → Int → Int → Int → List Bool → List (S78) → Int → List Bool → List (S78) → Option (List Int)
  | 0, _, _, _, _, _, _, _, _, _ => none
  | k + 1, x9, x10, x11, x466000, x466001, x466002, x467000, x467001, x467002 => if x11 < x10 then (if 0 ≤ x11 then (if x11 < (x9.length : Int) then (if 0 < ((rd_L9 x9 x11).length : Int) then (if 1 < ((rd_L9 x9 x11).length : Int) then ((impl_TroubleAt.f k x466000 x466001 x466002 x467000 x467001 x467002 (rd (rd_L9 x9 x11) 0) (rd (rd_L9 x9 x11) 1)).bind fun t473 => (if t473 = 0 then (impl_FirstTrouble.l0 k x9 x10 (wrap64 (x11 + 1)) x466000 x466001 x466002 x467000 x467001 x467002) else (some (rd_L9 x9 x11)))) else (none)) else (none)) else (none)) else (none)) else (some ([] : List Int))
def impl_FirstTrouble.f (k : Nat) (a0_0 : Int) (l0_1 : List Bool) (l0_2 : List (S78)) (a1_0 : Int) (l1_1 : List Bool) (l1_2 : List (S78)) : Option (List Int) := (impl_PairsOf.f k a0_0 l0_1 l0_2 a1_0 l1_1 l1_2).bind fun t467 => (impl_FirstTrouble.l0 k t467 (t467.length : Int) 0 a0_0 l0_1 l0_2 a1_0 l1_1 l1_2)
theorem impl_FirstTrouble.mono_l : ∀ k, (∀ y0 y1 y2 y3 y4 y5 y6 y7 y8, LeO (impl_FirstTrouble.l0 k y0 y1 y2 y3 y4 y5 y6 y7 y8) (impl_FirstTrouble.l0 (k + 1) y0 y1 y2 y3 y4 y5 y6 y7 y8))
  | 0 => fun _ _ _ _ _ _ _ _ _ r h => by simp [impl_FirstTrouble.l0] at h
  | k + 1 => by
    have ih0 := impl_FirstTrouble.mono_l k
    · intro y0 y1 y2 y3 y4 y5 y6 y7 y8
      unfold impl_FirstTrouble.l0
      exact mo3_ ih0 impl_PairsOf.mono impl_TroubleAt.mono
theorem impl_FirstTrouble.mono : ∀ a0 a1 a2 a3 a4 a5 k, LeO (impl_FirstTrouble.f k a0 a1 a2 a3 a4 a5) (impl_FirstTrouble.f (k + 1) a0 a1 a2 a3 a4 a5) := by
  intro a0 a1 a2 a3 a4 a5 k
  have ih0 := impl_FirstTrouble.mono_l k
  unfold impl_FirstTrouble.f
  exact mo3_ ih0 impl_PairsOf.mono impl_TroubleAt.mono
def impl_FirstTrouble.T4 : Bool × List (List Nat × List Nat) := (true, [([], []), ([], []), ([], []), ([2], [2]), ([3], [3]), ([], []), ([5], [5]), ([6], [6]), ([0, 1, 4, 7], [0, 1, 4, 7]), ([8], [8])])
def impl_FirstTrouble.B4 : List Nat := [0, 0, 0, 4, 12, 0, 32, 96, 255, 511]
theorem impl_FirstTrouble.tab4 : rtab .any (opsOf Try.f61 4) = impl_FirstTrouble.T4 := by kernel_rfl
theorem impl_FirstTrouble.bits4 : waitsOk impl_FirstTrouble.T4.2 impl_FirstTrouble.B4 = true := by kernel_rfl
set_option maxHeartbeats 8000000 in
set_option maxRecDepth 100000 in
theorem impl_FirstTrouble.calls (k : Nat) (a0_0 : Int) (A0_1 : Option Addr) (c0_1 : Nat) (l0_1 : List Bool) (A0_2 : Option Addr) (c0_2 : Nat) (l0_2 : List (S78)) (a1_0 : Int) (A1_1 : Option Addr) (c1_1 : Nat) (l1_1 : List Bool) (A1_2 : Option Addr) (c1_2 : Nat) (l1_2 : List (S78)) (r : List Int) (w : World) (hr0_1 : Kd.C Kd.bool w A0_1 l0_1.length l0_1) (hc0_1 : l0_1.length ≤ c0_1) (hr0_2 : Kd.C k78 w A0_2 l0_2.length l0_2) (hc0_2 : l0_2.length ≤ c0_2) (hr1_1 : Kd.C Kd.bool w A1_1 l1_1.length l1_1) (hc1_1 : l1_1.length ≤ c1_1) (hr1_2 : Kd.C k78 w A1_2 l1_2.length l1_2) (hc1_2 : l1_2.length ≤ c1_2) (h : impl_FirstTrouble.f k a0_0 l0_1 l0_2 a1_0 l1_1 l1_2 = some r) :
    Calls Try.prog 61 #[.agg #[.int .i64 a0_0, .slice A0_1 l0_1.length c0_1, .slice A0_2 l0_2.length c0_2], .agg #[.int .i64 a1_0, .slice A1_1 l1_1.length c1_1, .slice A1_2 l1_2.length c1_2]] w fun e w' => ∃ v0_ : Value, e = .returned (v0_) ∧ Kd.V (Kd.int .i64) 3 w' w.heap.size (fun k_ => (w.heap.size ≤ k_)) v0_ r ∧ Below w.heap.size w w' := by
  have hu34 := Try.underlying34
  have HR0_1 := Q_ hr0_1
  have HC0_1 := Q_ hc0_1
  clear hr0_1 hc0_1
  have HR0_2 := Q_ hr0_2
  have HC0_2 := Q_ hc0_2
  clear hr0_2 hc0_2
  have HR1_1 := Q_ hr1_1
  have HC1_1 := Q_ hc1_1
  clear hr1_1 hc1_1
  have HR1_2 := Q_ hr1_2
  have HC1_2 := Q_ hc1_2
  clear hr1_2 hc1_2
  have HB := Q_ (Below.refl w.heap.size w)
  have H : ((impl_PairsOf.f k a0_0 l0_1 l0_2 a1_0 l1_1 l1_2).bind fun t467 => (impl_FirstTrouble.l0 k t467 (t467.length : Int) 0 a0_0 l0_1 l0_2 a1_0 l1_1 l1_2)) = some r := h
  clear h
  replace H := Option.bind_eq_some_iff.mp H
  obtain ⟨t467, A30, H⟩ := H
  (try dsimp only at H)
  have A3 := Q_ A30
  clear A30
  have H' := Q_ H
  clear H
  go_enter Try.func61, Try.ntmps61
  go_wp2_with (first | ((with_reducible refine gate_dst (N := 2) rfl ?_); refine box_event ?hg (N := 2) ?hd (cs := #[.int .i64 a0_0, .slice A0_1 l0_1.length c0_1, .slice A0_2 l0_2.length c0_2]) (t := 34) ?hr ?_; (case hd => rfl); (case hg => rfl); (case hr => first | (go_simp; done) | (go_simp; rfl)); intro gb465 hg w4 hbox hb; have n0_ := Q_ (below_step (pb_ HB.out) hb); have n1_ := Q_ (hbox); have n2_ := Q_ ((by rw [hg]; exact (below_size (pb_ HB.out)) : w.heap.size ≤ gb465)); have n3_ := n2_; clear HB; have HB := n0_; have BK465 := n1_; have GW465 := n2_; have GE465 := n3_; clear n0_ n1_ n2_ n3_; clear hb hbox hg) | ((with_reducible refine gate_dst (N := 3) rfl ?_); refine box_event ?hg (N := 3) ?hd (cs := #[.int .i64 a1_0, .slice A1_1 l1_1.length c1_1, .slice A1_2 l1_2.length c1_2]) (t := 34) ?hr ?_; (case hd => rfl); (case hg => rfl); (case hr => first | (go_simp; done) | (go_simp; rfl)); intro gb466 hg w5 hbox hb; have n0_ := Q_ (bb_ BK465.out hb); have n1_ := Q_ (below_step (pb1_ HB.out GE465.out) hb); have n2_ := Q_ (hbox); have n3_ := Q_ ((by rw [hg]; exact (below_size (pb1_ HB.out GE465.out)) : w.heap.size ≤ gb466)); have n4_ := n3_; have n5_ := Q_ ((by rw [hg]; exact Nat.ne_of_lt (blk_lt (pk_ BK465.out)) : gb465 ≠ gb466)); have n6_ := Q_ ((by rw [hg]; exact Nat.ne_of_gt (blk_lt (pk_ BK465.out)) : gb466 ≠ gb465)); clear BK465; clear HB; have BK465 := n0_; have HB := n1_; have BK466 := n2_; have GW466 := n3_; have GE466 := n4_; have NB465_466 := n5_; have NB466_465 := n6_; clear n0_ n1_ n2_ n3_ n4_ n5_ n6_; clear hb hbox hg; have hnb6 := NB465_466.out; have hnc6 := NB466_465.out; have hcz7 := bc3_ BK465.out; have hcz8 := bc3_ BK466.out) | ((with_reducible refine gate_callee (f := 73) rfl ?_); refine gl_ (some 9) Try.func73 #[.agg #[.int .i64 a0_0, .slice A0_1 l0_1.length c0_1, .slice A0_2 l0_2.length c0_2], .agg #[.int .i64 a1_0, .slice A1_1 l1_1.length c1_1, .slice A1_2 l1_2.length c1_2]] ?_; (with_reducible refine (impl_PairsOf.calls k a0_0 _ _ l0_1 _ _ l0_2 a1_0 _ _ l1_1 _ _ l1_2 t467 _ ?side1 ?side2 ?side3 ?side4 ?side5 ?side6 ?side7 ?side8 A3.out).mono ?_); (case side1 => exact cb_ HR0_1 HB); (case side2 => exact HC0_1.out); (case side3 => exact cb_ HR0_2 HB); (case side4 => exact HC0_2.out); (case side5 => exact cb_ HR1_1 HB); (case side6 => exact HC1_1.out); (case side7 => exact cb_ HR1_2 HB); (case side8 => exact HC1_2.out); rintro e w9 ⟨v468, rfl, ho0, hb⟩; refine ⟨_, rfl, ?_⟩; have _ := Q_ (Kd.N_lower (Kd.N_mono (ok' := fun k_ => (w.heap.size ≤ k_) ∧ k_ ≠ gb465 ∧ k_ ≠ gb466) ho0 (fun k_ hk_ => ⟨(Nat.le_trans (below_size (pb2_ HB.out GE465.out GE466.out)) hk_), (Kd.freshB (g := gb465) (o := .cells #[.int .i64 a0_0, .slice A0_1 l0_1.length c0_1, .slice A0_2 l0_2.length c0_2] 34 (0, 0)) (pk_ BK465.out) k_ hk_), (Kd.freshB (g := gb466) (o := .cells #[.int .i64 a1_0, .slice A1_1 l1_1.length c1_1, .slice A1_2 l1_2.length c1_2] 34 (0, 0)) (pk_ BK466.out) k_ hk_)⟩)) (below_size (pb2_ HB.out GE465.out GE466.out))); have _ := Q_ (bb_ BK465.out hb); have _ := Q_ (bb_ BK466.out hb); have _ := Q_ (below_step (pb2_ HB.out GE465.out GE466.out) hb); clear BK465 BK466 HB; rename_i HO469 BK465 BK466 HB; (try clear hb); (try clear hb2); (try clear hk); (try clear hi); (try clear ho0); obtain ⟨Ao10, co10, eo10⟩ := Kd.N_slice HO469.out; subst eo10))
  (try simp only [Act.put, List.setIfInBounds_toArray, List.set_cons_zero, List.set_cons_succ])
  go_loopg [11] k (fun kq v11 w' => ∃ (x11_1 : Int), v11 = .int .i64 x11_1 ∧ Aside0 (impl_FirstTrouble.l0 kq t467 (t467.length : Int) x11_1 a0_0 l0_1 l0_2 a1_0 l1_1 l1_2 = some r) ∧ Aside0 (kq ≤ k) ∧ Aside0 (Kd.N (Kd.slice 3 (Kd.int .i64)) 39 w' w.heap.size (fun k_ => (w.heap.size ≤ k_) ∧ k_ ≠ gb465 ∧ k_ ≠ gb466) (.slice Ao10 t467.length co10) t467) ∧ Aside0 (w'.heap[gb465]? = some (.cells #[.int .i64 a0_0, (.slice A0_1 l0_1.length c0_1), (.slice A0_2 l0_2.length c0_2)] 34 (0, 0))) ∧ Aside0 (w'.heap[gb466]? = some (.cells #[.int .i64 a1_0, (.slice A1_1 l1_1.length c1_1), (.slice A1_2 l1_2.length c1_2)] 34 (0, 0))) ∧ Aside0 (Below w.heap.size w w'))
  case atStart => exact ⟨(0), el_, H', ⟨Nat.le_refl _⟩, ⟨by (with_reducible repeat (first | apply Kd.N_alloc | apply Kd.N_drewN | apply Kd.N_drew)); exact HO469.out⟩, ⟨pk_ BK465.out⟩, ⟨pk_ BK466.out⟩, ⟨pb2_ HB.out GE465.out GE466.out⟩⟩
  clear H'
  try clear c1
  try clear p2
  try clear c6
  try clear c7
  try clear hcz7
  try clear hcz8
  obtain ⟨x11_1, rfl, HA, HK1, HO_9, BK465, BK466, HB⟩ := hrel
  rcases gk with _ | k1
  · exact absurd HA.out (by simp [impl_FirstTrouble.l0])
  have H := HA.out
  clear HA
  simp only [impl_FirstTrouble.l0] at H
  by_cases c11 : x11_1 < (t467.length : Int)
  rotate_left
  · rw [if_neg c11] at H
    have c11b0 : decide (x11_1 < (t467.length : Int)) = false := decide_eq_false c11
    clear c11
    obtain rfl := Option.some.inj H
    go_wp2
    go_ret
    exact ⟨_, er_, (by exact Kd.V_nil _ _ _ _ _), pb2_ HB.out GE465.out GE466.out⟩
  rw [if_pos c11] at H
  have c11b0 : decide (x11_1 < (t467.length : Int)) = true := decide_eq_true c11
  clear c11
  by_cases c12 : 0 ≤ x11_1
  rotate_left
  · rw [if_neg c12] at H
    exact absurd H (by simp)
  rw [if_pos c12] at H
  have c12b0 : decide (0 ≤ x11_1) = true := decide_eq_true c12
  clear c12
  by_cases c13 : x11_1 < (t467.length : Int)
  rotate_left
  · rw [if_neg c13] at H
    exact absurd H (by simp)
  rw [if_pos c13] at H
  have c13b0 : decide (x11_1 < (t467.length : Int)) = true := decide_eq_true c13
  clear c13
  by_cases c14 : 0 < ((rd_L9 t467 x11_1).length : Int)
  rotate_left
  · rw [if_neg c14] at H
    exact absurd H (by simp)
  rw [if_pos c14] at H
  have c14b0 : decide (0 < ((rd_L9 t467 x11_1).length : Int)) = true := decide_eq_true c14
  have c14b1 : decide (0 < (rd_L9 t467 x11_1).length) = true := decide_eq_true (by omega)
  clear c14
  by_cases c15 : 1 < ((rd_L9 t467 x11_1).length : Int)
  rotate_left
  · rw [if_neg c15] at H
    exact absurd H (by simp)
  rw [if_pos c15] at H
  have c15b0 : decide (1 < ((rd_L9 t467 x11_1).length : Int)) = true := decide_eq_true c15
  have c15b1 : decide (1 < (rd_L9 t467 x11_1).length) = true := decide_eq_true (by omega)
  clear c15
  replace H := Option.bind_eq_some_iff.mp H
  obtain ⟨t473, A160, H⟩ := H
  (try dsimp only at H)
  have A16 := Q_ A160
  clear A160
  have HS_ := Q_ H
  clear H
  have p470 : 0 ≤ (x11_1 : Int) := dt_
  have q470 : x11_1 < (t467.length : Int) := dt_
  obtain ⟨ad470, A470_0, c470_0, e470, hx470_0, hl470_0, hi470_0⟩ := at_L9 (Kd.N_reads' HO_9.out).2.2 x11_1 p470 q470
  cases e470
  obtain ⟨ce470, hce470, hMe470, hcc470⟩ := Kd.N_get HO_9.out [] x11_1 p470 (by first | exact q470 | exact dt_ | (have e_ := (Kd.N_reads' HO_9.out).1; omega))
  obtain ⟨ua470_0, uc470_0, rfl, ul470_0, ge470_0⟩ := Kd.FK_slice_open hMe470
  have hv470_0 := hcc470 0 _ rfl
  rw [Nat.add_zero, show ((Kd.slice 3 (Kd.int .i64))).sz = 1 from rfl, Nat.mul_one] at hv470_0
  replace hv470_0 := Option.some.inj (hv470_0.symm.trans hx470_0)
  injection hv470_0 with hva_ hvn_ hvc_
  rw [hva_] at ge470_0
  rw [hvc_] at ul470_0
  have HL470_0 := Q_ (show Kd.V (Kd.int .i64) 3 _ w.heap.size _ _ (rd_L9 t467 x11_1) from Kd.V_mk ul470_0 ge470_0)
  clear hva_ hvn_ hvc_ ge470_0 ul470_0
  clear hcc470 hce470
  have HR470_0 := Q_ hi470_0
  have HC470_0 := Q_ hl470_0
  clear hi470_0 hl470_0
  replace p470 := eq_true p470
  replace q470 := eq_true q470
  try go_wp2
  have _ := Q_ (Kd.N_drew HO_9.out)
  have _ := Q_ (Kd.V_drew HL470_0.out)
  have _ := Q_ (blk_drew BK465.out)
  have _ := Q_ (blk_drew BK466.out)
  have _ := Q_ (Kd.C_drew HR470_0.out)
  have _ := Q_ (below_drew1 HB.out)
  clear HO_9 HL470_0 BK465 BK466 HR470_0 HB
  rename_i HO_9 HL470_0 BK465 BK466 HR470_0 HB
  have p471 : 0 ≤ (0 : Int) := (by omega)
  have q471 : 0 < ((rd_L9 t467 x11_1).length : Int) := dt_
  obtain ⟨ad471, e471, hx471_0⟩ := Kd.at_int (by repeat (first | (with_reducible exact HR470_0.out) | (with_reducible refine Kd.C_alloc ?_ _) | (with_reducible refine Kd.C_drewN ?_ _) | (with_reducible refine Kd.C_drew ?_) | exact HR470_0.out)) 0 p471 q471
  cases e471
  have qi471 : (0 < (rd_L9 t467 x11_1).length) = True := eq_true (by omega)
  (try rw [show ((0 : Int)).toNat = 0 from rfl] at hx471_0)
  (try rw [Addr.add_zero'] at hx471_0)
  replace p471 := eq_true p471
  replace q471 := eq_true q471
  have p472 : 0 ≤ (1 : Int) := (by omega)
  have q472 : 1 < ((rd_L9 t467 x11_1).length : Int) := dt_
  obtain ⟨ad472, e472, hx472_0⟩ := Kd.at_int (by repeat (first | (with_reducible exact HR470_0.out) | (with_reducible refine Kd.C_alloc ?_ _) | (with_reducible refine Kd.C_drewN ?_ _) | (with_reducible refine Kd.C_drew ?_) | exact HR470_0.out)) 1 p472 q472
  obtain rfl : ad471 = ad472 := (by injection e472)
  (try simp only [show (1 : Int).toNat = 1 from rfl, Nat.reduceMul, Nat.reduceEqDiff, Go.Addr.add, ↓reduceIte] at hx472_0)
  have qi472 : (1 < (rd_L9 t467 x11_1).length) = True := eq_true (by omega)
  (try rw [show ((1 : Int)).toNat = 1 from rfl] at hx472_0)
  replace p472 := eq_true p472
  replace q472 := eq_true q472
  refine start_ (n := 10) (S := fun w' => w'.cell? ⟨gb465, 0, none⟩ = some (.int .i64 a0_0) ∧ w'.cell? ⟨gb465, 1, none⟩ = some (.slice A0_1 l0_1.length c0_1) ∧ w'.cell? ⟨gb465, 2, none⟩ = some (.slice A0_2 l0_2.length c0_2) ∧ w'.cell? ⟨gb466, 0, none⟩ = some (.int .i64 a1_0) ∧ w'.cell? ⟨gb466, 1, none⟩ = some (.slice A1_1 l1_1.length c1_1) ∧ w'.cell? ⟨gb466, 2, none⟩ = some (.slice A1_2 l1_2.length c1_2) ∧ w'.cell? ad471 = some (.int .i64 (rd (rd_L9 t467 x11_1) 0)) ∧ w'.cell? ⟨ad471.block, ad471.off + 1, none⟩ = some (.int .i64 (rd (rd_L9 t467 x11_1) 1))) (ds := []) (tf_ 0 10) (by kernel_rfl) rfl rfl ⟨(blk_cell BK465.out 0).trans rfl, (blk_cell BK465.out 1).trans rfl, (blk_cell BK465.out 2).trans rfl, (blk_cell BK466.out 0).trans rfl, (blk_cell BK466.out 1).trans rfl, (blk_cell BK466.out 2).trans rfl, hx471_0, hx472_0⟩ (fun hHeld => ?_); refine with_tabW impl_FirstTrouble.tab4 impl_FirstTrouble.bits4 (fun HT_ HW_ => ?_)
  generalize wr.drew = w17 at HO_9 HL470_0 BK465 BK466 HR470_0 HB hx471_0 hx472_0 hHeld ⊢
  refine pu_ 2 (some 17) (tm_ 10 4) HT_ ?_
  refine pu_ 3 (some 18) (tm_ 10 12) HT_ ?_
  refine pu_ 5 (some 20) (tm_ 10 44) HT_ ?_
  refine pu_ 6 (some 21) (tm_ 10 108) HT_ ?_
  refine ta_ 0 (some 15) (tm_ 10 109) HT_ HW_ hHeld ?_
  refine ta_ 1 (some 16) (tm_ 10 111) HT_ HW_ hHeld ?_
  refine ta_ 4 (some 19) (tf_ 7 10) HT_ HW_ hHeld ?_
  refine ta_ 7 (some 22) (tf_ 8 10) HT_ HW_ hHeld ?_
  refine on_ 8 (some 23) (tf_ 9 10) HT_ (fun K hK => ?_)
  refine goes_ Try.func74 (by kernel_rfl) rfl #[.agg #[.int .i64 a0_0, .slice A0_1 l0_1.length c0_1, .slice A0_2 l0_2.length c0_2], .agg #[.int .i64 a1_0, .slice A1_1 l1_1.length c1_1, .slice A1_2 l1_2.length c1_2], .int .i64 (rd (rd_L9 t467 x11_1) 0), .int .i64 (rd (rd_L9 t467 x11_1) 1)] (by rfl) rfl rfl mp_ ?_
  with_reducible refine (impl_TroubleAt.calls k1 a0_0 _ _ l0_1 _ _ l0_2 a1_0 _ _ l1_1 _ _ l1_2 (rd (rd_L9 t467 x11_1) 0) (rd (rd_L9 t467 x11_1) 1) t473 _ ?side1 ?side2 ?side3 ?side4 ?side5 ?side6 ?side7 ?side8 A16.out).mono ?_
  (case side1 => exact cb_ HR0_1 HB)
  (case side2 => exact HC0_1.out)
  (case side3 => exact cb_ HR0_2 HB)
  (case side4 => exact HC0_2.out)
  (case side5 => exact cb_ HR1_1 HB)
  (case side6 => exact HC1_1.out)
  (case side7 => exact cb_ HR1_2 HB)
  (case side8 => exact HC1_2.out)
  rintro e w18 ⟨rfl, hb⟩
  have HS6_ := (hb.cell (World.block_lt_of_cell? _ _ (hHeld.2.2.2.2.2.2.1))).trans (hHeld.2.2.2.2.2.2.1)
  have HS7_ := (hb.cell (World.block_lt_of_cell? _ _ (hHeld.2.2.2.2.2.2.2))).trans (hHeld.2.2.2.2.2.2.2)
  refine ⟨_, rfl, ?_⟩
  have _ := Q_ (Kd.N_below (by (with_reducible repeat (first | apply Kd.N_alloc | apply Kd.N_drewN | apply Kd.N_drew)); exact HO_9.out) hb)
  have _ := Q_ (Kd.V_below (by (with_reducible repeat (first | apply Kd.V_alloc | apply Kd.V_drewN | apply Kd.V_drew)); exact HL470_0.out) hb)
  have _ := Q_ (bb_ BK465.out hb)
  have _ := Q_ (bb_ BK466.out hb)
  have _ := Q_ (Kd.C_below (by repeat (first | (with_reducible exact HR470_0.out) | (with_reducible refine Kd.C_alloc ?_ _) | (with_reducible refine Kd.C_drewN ?_ _) | (with_reducible refine Kd.C_drew ?_) | exact HR470_0.out)) hb)
  have _ := Q_ (below_step (pb2_ HB.out GE465.out GE466.out) hb)
  clear HO_9 HL470_0 BK465 BK466 HR470_0 HB
  rename_i HO_9 HL470_0 BK465 BK466 HR470_0 HB
  (try clear hb)
  (try clear hb2)
  (try clear hk)
  (try clear hi)
  refine hK.out _ _ ⟨(blk_cell BK465.out 0).trans rfl, (blk_cell BK465.out 1).trans rfl, (blk_cell BK465.out 2).trans rfl, (blk_cell BK466.out 0).trans rfl, (blk_cell BK466.out 1).trans rfl, (blk_cell BK466.out 2).trans rfl, HS6_, HS7_⟩ (fun hHeld => ?_)
  clear hK K
  refine no_ (some 23) ?_
  refine pu_ 9 (some 24) (tf_ 10 10) HT_ ?_
  refine done_ (done_of HT_.out (by kernel_rfl)) ?_
  go_upto_if 24 with (fail)
  have H := HS_.out
  clear HS_
  by_cases c19 : t473 = 0
  rotate_left
  · rw [if_neg c19] at H
    have c19b0 : (t473 == 0) = false := beq_eq_false_iff_ne.mpr c19
    have c19b1 : (t473 != 0) = true := bne_iff_ne.mpr c19
    (first | rw [c19b0] | (simp only [i64_w, i32_w]; rw [c19b0]) | rw [c19b1] | (have c_ := c19b1; rw [bne] at c_; rw [c_]; clear c_) | skip)
    obtain rfl := Option.some.inj H
    go_wp2
    go_ret
    exact ⟨_, er_, by (with_reducible repeat (first | apply Kd.V_alloc | apply Kd.V_drewN | apply Kd.V_drew)); exact Kd.V_mono HL470_0.out (fun _ hk => hk.1.1), pb2_ HB.out GE465.out GE466.out⟩
  rw [if_pos c19] at H
  have c19b0 : (t473 == 0) = true := beq_iff_eq.mpr c19
  have c19b1 : (t473 != 0) = false := bne_eq_false_iff_eq.mpr c19
  clear c19
  (first | rw [c19b0] | (simp only [i64_w, i32_w]; rw [c19b0]) | rw [c19b1] | (have c_ := c19b1; rw [bne] at c_; rw [c_]; clear c_) | skip)
  have H' := Q_ H
  clear H
  go_wp2
  go_roundg k1
  case measure => have := HK1.out; omega
  case rel => exact ⟨(wrap64 (x11_1 + 1)), el_, H', ⟨by have := HK1.out; omega⟩, ⟨by (with_reducible repeat (first | apply Kd.N_alloc | apply Kd.N_drewN | apply Kd.N_drew)); exact HO_9.out⟩, ⟨pk_ BK465.out⟩, ⟨pk_ BK466.out⟩, ⟨pb2_ HB.out GE465.out GE466.out⟩⟩

/-! ### impl_IsSafe: function 42 -/
def impl_IsSafe.f (k : Nat) (a0_0 : Int) (l0_1 : List Bool) (l0_2 : List (S78)) (a1_0 : Int) (l1_1 : List Bool) (l1_2 : List (S78)) : Option (Bool) := (impl_IsMachine.f k a0_0 l0_1 l0_2).bind fun t476 => (if t476 = true then ((impl_IsMachine.f k a1_0 l1_1 l1_2).bind fun t477 => (if t477 = true then ((impl_FirstTrouble.f k a0_0 l0_1 l0_2 a1_0 l1_1 l1_2).bind fun t478 => (some ((t478.length : Int) == 0))) else (some false))) else (some false))
theorem impl_IsSafe.mono : ∀ a0 a1 a2 a3 a4 a5 k, LeO (impl_IsSafe.f k a0 a1 a2 a3 a4 a5) (impl_IsSafe.f (k + 1) a0 a1 a2 a3 a4 a5) := by
  intro a0 a1 a2 a3 a4 a5 k
  unfold impl_IsSafe.f
  exact mo2_ impl_FirstTrouble.mono impl_IsMachine.mono
set_option maxHeartbeats 8000000 in
set_option maxRecDepth 100000 in
theorem impl_IsSafe.calls (k : Nat) (a0_0 : Int) (A0_1 : Option Addr) (c0_1 : Nat) (l0_1 : List Bool) (A0_2 : Option Addr) (c0_2 : Nat) (l0_2 : List (S78)) (a1_0 : Int) (A1_1 : Option Addr) (c1_1 : Nat) (l1_1 : List Bool) (A1_2 : Option Addr) (c1_2 : Nat) (l1_2 : List (S78)) (r : Bool) (w : World) (hr0_1 : Kd.C Kd.bool w A0_1 l0_1.length l0_1) (hc0_1 : l0_1.length ≤ c0_1) (hr0_2 : Kd.C k78 w A0_2 l0_2.length l0_2) (hc0_2 : l0_2.length ≤ c0_2) (hr1_1 : Kd.C Kd.bool w A1_1 l1_1.length l1_1) (hc1_1 : l1_1.length ≤ c1_1) (hr1_2 : Kd.C k78 w A1_2 l1_2.length l1_2) (hc1_2 : l1_2.length ≤ c1_2) (h : impl_IsSafe.f k a0_0 l0_1 l0_2 a1_0 l1_1 l1_2 = some r) :
    Calls Try.prog 42 #[.agg #[.int .i64 a0_0, .slice A0_1 l0_1.length c0_1, .slice A0_2 l0_2.length c0_2], .agg #[.int .i64 a1_0, .slice A1_1 l1_1.length c1_1, .slice A1_2 l1_2.length c1_2]] w fun e w' => e = .returned (.bool r) ∧ Below w.heap.size w w' := by
  have hu34 := Try.underlying34
  have HR0_1 := Q_ hr0_1
  have HC0_1 := Q_ hc0_1
  clear hr0_1 hc0_1
  have HR0_2 := Q_ hr0_2
  have HC0_2 := Q_ hc0_2
  clear hr0_2 hc0_2
  have HR1_1 := Q_ hr1_1
  have HC1_1 := Q_ hc1_1
  clear hr1_1 hc1_1
  have HR1_2 := Q_ hr1_2
  have HC1_2 := Q_ hc1_2
  clear hr1_2 hc1_2
  have HB := Q_ (Below.refl w.heap.size w)
  have H : ((impl_IsMachine.f k a0_0 l0_1 l0_2).bind fun t476 => (if t476 = true then ((impl_IsMachine.f k a1_0 l1_1 l1_2).bind fun t477 => (if t477 = true then ((impl_FirstTrouble.f k a0_0 l0_1 l0_2 a1_0 l1_1 l1_2).bind fun t478 => (some ((t478.length : Int) == 0))) else (some false))) else (some false))) = some r := h
  clear h
  have HS_ := Q_ H
  clear H
  go_enter Try.func42, Try.ntmps42
  go_upto_region 1 with (first | ((with_reducible refine gate_dst (N := 2) rfl ?_); (try (refine gate_guard (by rfl) ?_; dsimp only)); refine box_event ?hg (N := 2) ?hd (cs := #[.int .i64 a0_0, .slice A0_1 l0_1.length c0_1, .slice A0_2 l0_2.length c0_2]) (t := 34) ?hr ?_; (case hd => rfl); (case hg => rfl); (case hr => first | (go_simp; done) | (go_simp; rfl)); intro gb474 hg w3 hbox hb; have n0_ := Q_ (below_step (pb_ HB.out) hb); have n1_ := Q_ (hbox); have n2_ := Q_ ((by rw [hg]; exact (below_size (pb_ HB.out)) : w.heap.size ≤ gb474)); have n3_ := n2_; clear HB; have HB := n0_; have BK474 := n1_; have GW474 := n2_; have GE474 := n3_; clear n0_ n1_ n2_ n3_; clear hb hbox hg) | ((with_reducible refine gate_dst (N := 3) rfl ?_); (try (refine gate_guard (by rfl) ?_; dsimp only)); refine box_event ?hg (N := 3) ?hd (cs := #[.int .i64 a1_0, .slice A1_1 l1_1.length c1_1, .slice A1_2 l1_2.length c1_2]) (t := 34) ?hr ?_; (case hd => rfl); (case hg => rfl); (case hr => first | (go_simp; done) | (go_simp; rfl)); intro gb475 hg w4 hbox hb; have n0_ := Q_ (bb_ BK474.out hb); have n1_ := Q_ (below_step (pb1_ HB.out GE474.out) hb); have n2_ := Q_ (hbox); have n3_ := Q_ ((by rw [hg]; exact (below_size (pb1_ HB.out GE474.out)) : w.heap.size ≤ gb475)); have n4_ := n3_; have n5_ := Q_ ((by rw [hg]; exact Nat.ne_of_lt (blk_lt (pk_ BK474.out)) : gb474 ≠ gb475)); have n6_ := Q_ ((by rw [hg]; exact Nat.ne_of_gt (blk_lt (pk_ BK474.out)) : gb475 ≠ gb474)); clear BK474; clear HB; have BK474 := n0_; have HB := n1_; have BK475 := n2_; have GW475 := n3_; have GE475 := n4_; have NB474_475 := n5_; have NB475_474 := n6_; clear n0_ n1_ n2_ n3_ n4_ n5_ n6_; clear hb hbox hg))
  (try simp only [Act.put, List.setIfInBounds_toArray, List.set_cons_zero, List.set_cons_succ])
  have H := HS_.out
  clear HS_
  replace H := Option.bind_eq_some_iff.mp H
  obtain ⟨t476, A50, H⟩ := H
  (try dsimp only at H)
  have A5 := Q_ A50
  clear A50
  by_cases c6 : t476 = true
  rotate_left
  · replace c6 := Bool.eq_false_iff.mpr c6
    subst c6
    rw [if_neg (show ¬ (false = true) by decide)] at H
    obtain rfl := Option.some.inj H
    have hnb7 := NB474_475.out
    have hnc7 := NB475_474.out
    have hcz8 := bc3_ BK474.out
    go_wp2_with (first | ((with_reducible refine gate_callee (f := 55) rfl ?_); refine gl_ (some 6) Try.func55 #[.agg #[.int .i64 a0_0, .slice A0_1 l0_1.length c0_1, .slice A0_2 l0_2.length c0_2]] ?_; (with_reducible refine (impl_IsMachine.calls k a0_0 _ _ l0_1 _ _ l0_2 false _ ?side1 ?side2 ?side3 ?side4 A5.out).mono ?_); (case side1 => exact cb_ HR0_1 HB); (case side2 => exact HC0_1.out); (case side3 => exact cb_ HR0_2 HB); (case side4 => exact HC0_2.out); rintro e w9 ⟨rfl, hb⟩; refine ⟨_, rfl, ?_⟩; have _ := Q_ (bb_ BK474.out hb); have _ := Q_ (bb_ BK475.out hb); have _ := Q_ (below_step (pb2_ HB.out GE474.out GE475.out) hb); clear BK474 BK475 HB; rename_i BK474 BK475 HB; (try clear hb); (try clear hb2); (try clear hk); (try clear hi)))
    go_ret
    exact ⟨er_, pb2_ HB.out GE474.out GE475.out⟩
  subst c6
  rw [if_pos rfl] at H
  replace H := Option.bind_eq_some_iff.mp H
  obtain ⟨t477, A100, H⟩ := H
  (try dsimp only at H)
  have A10 := Q_ A100
  clear A100
  by_cases c11 : t477 = true
  rotate_left
  · replace c11 := Bool.eq_false_iff.mpr c11
    subst c11
    rw [if_neg (show ¬ (false = true) by decide)] at H
    obtain rfl := Option.some.inj H
    have hnb12 := NB474_475.out
    have hnc12 := NB475_474.out
    have hcz13 := bc3_ BK474.out
    go_wp2_with (first | ((with_reducible refine gate_callee (f := 55) rfl ?_); refine gl_ (some 6) Try.func55 #[.agg #[.int .i64 a0_0, .slice A0_1 l0_1.length c0_1, .slice A0_2 l0_2.length c0_2]] ?_; (with_reducible refine (impl_IsMachine.calls k a0_0 _ _ l0_1 _ _ l0_2 true _ ?side1 ?side2 ?side3 ?side4 A5.out).mono ?_); (case side1 => exact cb_ HR0_1 HB); (case side2 => exact HC0_1.out); (case side3 => exact cb_ HR0_2 HB); (case side4 => exact HC0_2.out); rintro e w14 ⟨rfl, hb⟩; refine ⟨_, rfl, ?_⟩; have _ := Q_ (bb_ BK474.out hb); have _ := Q_ (bb_ BK475.out hb); have _ := Q_ (below_step (pb2_ HB.out GE474.out GE475.out) hb); clear BK474 BK475 HB; rename_i BK474 BK475 HB; (try clear hb); (try clear hb2); (try clear hk); (try clear hi); have hcz15 := bc3_ BK475.out) | (go_at_call 55; (with_reducible refine (impl_IsMachine.calls k a1_0 _ _ l1_1 _ _ l1_2 false _ ?side1 ?side2 ?side3 ?side4 A10.out).mono ?_); (case side1 => exact cb_ HR1_1 HB); (case side2 => exact HC1_1.out); (case side3 => exact cb_ HR1_2 HB); (case side4 => exact HC1_2.out); rintro e w16 ⟨rfl, hb⟩; have _ := Q_ (bb_ BK474.out hb); have _ := Q_ (bb_ BK475.out hb); have _ := Q_ (below_step (pb2_ HB.out GE474.out GE475.out) hb); clear BK474 BK475 HB; rename_i BK474 BK475 HB; (try clear hb); (try clear hb2); (try clear hk); (try clear hi)))
    go_ret
    exact ⟨er_, pb2_ HB.out GE474.out GE475.out⟩
  subst c11
  rw [if_pos rfl] at H
  replace H := Option.bind_eq_some_iff.mp H
  obtain ⟨t478, A170, H⟩ := H
  replace H : (some ((t478.length : Int) == 0)) = some r := H
  have A17 := Q_ A170
  clear A170
  obtain rfl := Option.some.inj H
  have hnb18 := NB474_475.out
  have hnc18 := NB475_474.out
  have hcz19 := bc3_ BK474.out
  go_wp2_with (first | ((with_reducible refine gate_callee (f := 55) rfl ?_); refine gl_ (some 6) Try.func55 #[.agg #[.int .i64 a0_0, .slice A0_1 l0_1.length c0_1, .slice A0_2 l0_2.length c0_2]] ?_; (with_reducible refine (impl_IsMachine.calls k a0_0 _ _ l0_1 _ _ l0_2 true _ ?side1 ?side2 ?side3 ?side4 A5.out).mono ?_); (case side1 => exact cb_ HR0_1 HB); (case side2 => exact HC0_1.out); (case side3 => exact cb_ HR0_2 HB); (case side4 => exact HC0_2.out); rintro e w20 ⟨rfl, hb⟩; refine ⟨_, rfl, ?_⟩; have _ := Q_ (bb_ BK474.out hb); have _ := Q_ (bb_ BK475.out hb); have _ := Q_ (below_step (pb2_ HB.out GE474.out GE475.out) hb); clear BK474 BK475 HB; rename_i BK474 BK475 HB; (try clear hb); (try clear hb2); (try clear hk); (try clear hi); have hcz21 := bc3_ BK475.out) | (go_at_call 55; (with_reducible refine (impl_IsMachine.calls k a1_0 _ _ l1_1 _ _ l1_2 true _ ?side1 ?side2 ?side3 ?side4 A10.out).mono ?_); (case side1 => exact cb_ HR1_1 HB); (case side2 => exact HC1_1.out); (case side3 => exact cb_ HR1_2 HB); (case side4 => exact HC1_2.out); rintro e w22 ⟨rfl, hb⟩; have _ := Q_ (bb_ BK474.out hb); have _ := Q_ (bb_ BK475.out hb); have _ := Q_ (below_step (pb2_ HB.out GE474.out GE475.out) hb); clear BK474 BK475 HB; rename_i BK474 BK475 HB; (try clear hb); (try clear hb2); (try clear hk); (try clear hi); have hcz23 := bc3_ BK474.out; have hcz24 := bc3_ BK475.out) | (go_at_call 61; (with_reducible refine (impl_FirstTrouble.calls k a0_0 _ _ l0_1 _ _ l0_2 a1_0 _ _ l1_1 _ _ l1_2 t478 _ ?side1 ?side2 ?side3 ?side4 ?side5 ?side6 ?side7 ?side8 A17.out).mono ?_); (case side1 => exact cb_ HR0_1 HB); (case side2 => exact HC0_1.out); (case side3 => exact cb_ HR0_2 HB); (case side4 => exact HC0_2.out); (case side5 => exact cb_ HR1_1 HB); (case side6 => exact HC1_1.out); (case side7 => exact cb_ HR1_2 HB); (case side8 => exact HC1_2.out); rintro e w25 ⟨v479, rfl, ho0, hb⟩; have _ := Q_ (Kd.V_lower (Kd.V_mono (ok' := fun k_ => k_ ≠ gb474 ∧ k_ ≠ gb475) ho0 (fun k_ hk_ => ⟨(Kd.freshB (g := gb474) (o := .cells #[.int .i64 a0_0, .slice A0_1 l0_1.length c0_1, .slice A0_2 l0_2.length c0_2] 34 (0, 0)) (pk_ BK474.out) k_ hk_), (Kd.freshB (g := gb475) (o := .cells #[.int .i64 a1_0, .slice A1_1 l1_1.length c1_1, .slice A1_2 l1_2.length c1_2] 34 (0, 0)) (pk_ BK475.out) k_ hk_)⟩)) (below_size (pb2_ HB.out GE474.out GE475.out))); have _ := Q_ (bb_ BK474.out hb); have _ := Q_ (bb_ BK475.out hb); have _ := Q_ (below_step (pb2_ HB.out GE474.out GE475.out) hb); clear BK474 BK475 HB; rename_i HO480 BK474 BK475 HB; (try clear hb); (try clear hb2); (try clear hk); (try clear hi); (try clear ho0); obtain ⟨Ao26, co26, eo26⟩ := Kd.V_slice HO480.out; subst eo26))
  go_ret
  exact ⟨er_, pb2_ HB.out GE474.out GE475.out⟩

end Go.Proofs.Ytldcchjbaglppaa.Print
