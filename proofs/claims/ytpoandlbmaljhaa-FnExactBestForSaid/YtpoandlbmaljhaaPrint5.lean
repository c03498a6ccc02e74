-- Written by a program of this session (printx.py) out of the translation; Lean checks it.
import Derived.Test.YtpoandlbmaljhaaPrint0
import Derived.Test.YtpoandlbmaljhaaPrint3
namespace Go.Proofs.Ytpoandlbmaljhaa.Print
open Go.RowKit Go.Proofs.YtpoandlbmaljhaaW.PrintWords Go.Proofs.YtpoandlbmaljhaaW.PrintLast Go.Proofs.YtpoandlbmaljhaaW.PrintMore Go.Proofs.Ytpoandlbmaljhaa.Short
attribute [local go_sem] max2_int min2_int max_two min_two max_three min_three max_four min_four   -- for this text's walks alone
set_option linter.unusedVariables false
set_option linter.unusedSimpArgs false

/-! ### spec_KnownOf: function 97 -/
def spec_KnownOf.l0 : Nat → List (S69) → List Int → List (S69) → Int → Option ((List (S69)))
  | 0, _, _, _, _ => none
  | k + 1, x0, x1, x5, x6 => if x6 < (x0.length : Int) then (if 0 ≤ x6 then ((spec_l9Has.f k x1 ((rd_T69 x0 x6).f0)).bind fun t186 => (if t186 = true then ((some (([] : List Int) : List Int)).bind fun y188 => (if y188.length + ((rd_T69 x0 x6).f1).length < 17592186044416 then (if x5.length < 4398046511104 then (spec_KnownOf.l0 k x0 x1 (x5 ++ [(⟨(rd_T69 x0 x6).f0, (y188 ++ ((rd_T69 x0 x6).f1))⟩ : S69)]) (wrap64 (x6 + 1))) else (none)) else (none))) else (spec_KnownOf.l0 k x0 x1 x5 (wrap64 (x6 + 1))))) else (none)) else (some x5)
def spec_KnownOf.f (k : Nat) (l0 : List (S69)) (l1 : List Int) : Option ((List (S69))) := spec_KnownOf.l0 k l0 l1 (([] : List (S69))) 0
theorem spec_KnownOf.mono_l : ∀ k, (∀ y0 y1 y2 y3, LeO (spec_KnownOf.l0 k y0 y1 y2 y3) (spec_KnownOf.l0 (k + 1) y0 y1 y2 y3))
  | 0 => fun _ _ _ _ r h => by simp [spec_KnownOf.l0] at h
  | k + 1 => by
    have ih0 := spec_KnownOf.mono_l k
    · intro y0 y1 y2 y3
      unfold spec_KnownOf.l0
      repeat' first
      | (with_reducible exact ih0 _ _ _ _)
      | (with_reducible exact spec_l9Has.mono _ _ _)
      | (with_reducible exact LeO.refl _)
      | (with_reducible exact LeO.none _)
      | (with_reducible refine LeO.ite ?_ ?_)
      | (with_reducible refine LeO.bind ?_ (fun _ => ?_))
      | exact ih0 _ _ _ _
      | exact spec_l9Has.mono _ _ _
      | exact LeO.none _
      | refine LeO.ite ?_ ?_
      | refine LeO.bind ?_ (fun _ => ?_)
theorem spec_KnownOf.mono : ∀ a0 a1 k, LeO (spec_KnownOf.f k a0 a1) (spec_KnownOf.f (k + 1) a0 a1) := by
  intro a0 a1 k
  have ih0 := spec_KnownOf.mono_l k
  unfold spec_KnownOf.f
  repeat' first
      | (with_reducible exact ih0 _ _ _ _)
      | (with_reducible exact spec_l9Has.mono _ _ _)
      | (with_reducible exact LeO.refl _)
      | (with_reducible exact LeO.none _)
      | (with_reducible refine LeO.ite ?_ ?_)
      | (with_reducible refine LeO.bind ?_ (fun _ => ?_))
      | exact ih0 _ _ _ _
      | exact spec_l9Has.mono _ _ _
      | exact LeO.none _
      | refine LeO.ite ?_ ?_
      | refine LeO.bind ?_ (fun _ => ?_)
def spec_KnownOf.T6 : Bool × List (List Nat × List Nat) := (true, [([], []), ([], []), ([], []), ([1, 2], [1, 2]), ([3], [3]), ([4], [4]), ([], []), ([], []), ([], []), ([7, 8], [7, 8]), ([9], [9]), ([10], [10]), ([6, 11], [6, 11]), ([5, 12], [5, 12]), ([13], [13]), ([0, 14, 12], [0, 14]), ([15, 15, 0, 1, 2, 3, 4, 5, 6, 7, 8, 9, 10, 11, 12, 13, 14, 15], [0, 15])])
def spec_KnownOf.B6 : List Nat := [0, 0, 0, 6, 14, 30, 0, 0, 0, 384, 896, 1920, 4032, 8190, 16382, 32767, 65535]
theorem spec_KnownOf.tab6 : rtab .any (opsOf Try.f97 6) = spec_KnownOf.T6 := by kernel_rfl
theorem spec_KnownOf.bits6 : waitsOk spec_KnownOf.T6.2 spec_KnownOf.B6 = true := by kernel_rfl
set_option maxHeartbeats 8000000 in
set_option maxRecDepth 100000 in
theorem spec_KnownOf.calls (k : Nat) (A0 : Option Addr) (c0 : Nat) (l0 : List (S69)) (A1 : Option Addr) (c1 : Nat) (l1 : List Int) (r : List (S69)) (w : World) (hr0 : Kd.C k69 w A0 l0.length l0) (hc0 : l0.length ≤ c0) (hr1 : Kd.C (Kd.int .i64) w A1 l1.length l1) (hc1 : l1.length ≤ c1) (h : spec_KnownOf.f k l0 l1 = some r) :
    Calls Try.prog 97 #[.slice A0 l0.length c0, .slice A1 l1.length c1] w fun e w' => ∃ v0_ : Value, e = .returned (v0_) ∧ Kd.S k69 69 w' w.heap.size (fun _ => True) v0_ r ∧ Below w.heap.size w w' := by
  have hu69 := Try.underlying69
  have HR0 := Aside0.mk hr0
  have HC0 := Aside0.mk hc0
  clear hr0 hc0
  have HR1 := Aside0.mk hr1
  have HC1 := Aside0.mk hc1
  clear hr1 hc1
  have HB := Aside0.mk (Below.refl w.heap.size w)
  have H : (spec_KnownOf.l0 k l0 l1 (([] : List (S69))) 0) = some r := h
  clear h
  obtain ⟨y182, hy182⟩ : ∃ y_ : List (S69), y_ = (([] : List (S69))) := ⟨_, rfl⟩
  replace H : (spec_KnownOf.l0 k l0 l1 y182 0) = some r := by first | (rw [hy182]; with_reducible exact H) | (have H2_ := (Option.bind_some _ _).symm.trans H; rw [hy182]; with_reducible exact H2_) | (have H2_ := (Option.bind_some _ _).symm.trans H; with_reducible exact H2_) | with_reducible exact H | (rw [hy182]; exact H) | exact H
  have Ny182 := Aside0.mk hy182
  clear hy182
  have H' := Aside0.mk H
  clear H
  go_enter Try.func97, Try.ntmps97
  go_wp2_with (first | ((with_reducible refine gate_dst (N := 7) rfl ?_); refine Kd.S_lit k69 _ 69 ?hg (N := 7) ?hd (xs := ([] : List (S69))) (inner := []) (ok := fun _ => True) (okp := fun _ => True) ?hr ?hp (fun _ hk => hk) trivial (Below.refl _ _) (Nat.le_refl _) (by simp) ?_; (case hd => rfl); (case hg => rfl); (case hr => first | (go_simp; done) | (go_simp; rfl)); (case hp => exact (Reps.none _ _)); intro v183 w3 ho4 hb hg_ hnew_; clear hg_ hnew_; (first | rw [← Ny182.out] at ho4 | (simp only [Int.reduceToNat] at ho4; rw [← Ny182.out] at ho4)); have n0_ := Aside0.mk (Kd.S_lower ho4 (below_size (pb_ HB.out))); have n1_ := Aside0.mk (below_step (pb_ HB.out) hb); clear HB; have HO184 := n0_; have HB := n1_; clear n0_ n1_; clear hb ho4))
  (try simp only [Act.put, List.setIfInBounds_toArray, List.set_cons_zero, List.set_cons_succ])
  go_loopg [5, 6] k (fun kq v5 v6 w' => ∃ (x5_1 : List (S69)) (x6_1 : Int), v6 = .int .i64 x6_1 ∧ Aside0 (spec_KnownOf.l0 kq l0 l1 x5_1 x6_1 = some r) ∧ Aside0 (kq ≤ k) ∧ Aside0 (Kd.S k69 69 w' w.heap.size (fun _ => True) v5 x5_1) ∧ Aside0 (Below w.heap.size w w'))
  case atStart => exact ⟨(y182), (0), el_, H', ⟨Nat.le_refl _⟩, ⟨ps_ HO184.out⟩, ⟨pb_ HB.out⟩⟩
  clear H'
  try clear c1
  try clear p2
  obtain ⟨x5_1, x6_1, rfl, HA, HK1, HO_5, HB⟩ := hrel
  rcases gk with _ | k1
  · exact absurd HA.out (by simp [spec_KnownOf.l0])
  have H := HA.out
  clear HA
  simp only [spec_KnownOf.l0] at H
  by_cases c5 : x6_1 < (l0.length : Int)
  rotate_left
  · rw [if_neg c5] at H
    have c5b0 : decide (x6_1 < (l0.length : Int)) = false := decide_eq_false c5
    clear c5
    obtain rfl := Option.some.inj H
    go_wp2
    go_ret
    exact ⟨_, er_, ps_ HO_5.out, pb_ HB.out⟩
  rw [if_pos c5] at H
  have c5b0 : decide (x6_1 < (l0.length : Int)) = true := decide_eq_true c5
  clear c5
  by_cases c6 : 0 ≤ x6_1
  rotate_left
  · rw [if_neg c6] at H
    exact absurd H (by simp)
  rw [if_pos c6] at H
  have c6b0 : decide (0 ≤ x6_1) = true := decide_eq_true c6
  clear c6
  replace H := Option.bind_eq_some_iff.mp H
  obtain ⟨t186, A70, H⟩ := H
  (try dsimp only at H)
  have A7 := Aside0.mk A70
  clear A70
  have HS_ := Aside0.mk H
  clear H
  have p185 : 0 ≤ (x6_1 : Int) := dt_
  have q185 : x6_1 < (l0.length : Int) := dt_
  obtain ⟨ad185, A185_1, c185_1, e185, hx185_0, hx185_1, hl185_1, hi185_1⟩ := at_T69 HR0.out x6_1 p185 q185
  cases e185
  replace hx185_0 := (HB.out.cell (World.block_lt_of_cell? w _ hx185_0)).trans hx185_0
  replace hx185_1 := (HB.out.cell (World.block_lt_of_cell? w _ hx185_1)).trans hx185_1
  have HR185_1 := Aside0.mk hi185_1
  have HC185_1 := Aside0.mk hl185_1
  clear hi185_1 hl185_1
  replace p185 := eq_true p185
  replace q185 := eq_true q185
  go_upto_if 20 with (first | ((with_reducible refine gate_callee (f := 54) rfl ?_); refine goesL_ (some 20) rfl rfl Try.func54 (by kernel_rfl) rfl #[.slice A1 l1.length c1, .int .i64 ((rd_T69 l0 x6_1).f0)] rfl mp_ ?_; (with_reducible refine (spec_l9Has.calls k1 _ _ l1 ((rd_T69 l0 x6_1).f0) t186 _ ?side1 ?side2 A7.out).mono ?_); (case side1 => exact pc_ (Kd.C_below HR1.out HB.out)); (case side2 => exact HC1.out); rintro e w' ⟨rfl, ⟨nd, rfl⟩⟩; refine ⟨_, rfl, ?_⟩))
  (try simp only [Act.put, List.setIfInBounds_toArray, List.set_cons_zero, List.set_cons_succ])
  have H := HS_.out
  clear HS_
  by_cases c8 : t186 = true
  rotate_left
  · replace c8 := Bool.eq_false_iff.mpr c8
    subst c8
    rw [if_neg (show ¬ (false = true) by decide)] at H
    have H' := Aside0.mk H
    clear H
    go_wp2
    go_roundg k1
    case measure => have := HK1.out; omega
    case rel => exact ⟨(x5_1), (wrap64 (x6_1 + 1)), el_, H', ⟨by have := HK1.out; omega⟩, ⟨ps_ HO_5.out⟩, ⟨pb_ HB.out⟩⟩
  subst c8
  rw [if_pos rfl] at H
  obtain ⟨y188, hy188⟩ : ∃ y_ : List Int, y_ = (([] : List Int)) := ⟨_, rfl⟩
  replace H : (if y188.length + ((rd_T69 l0 x6_1).f1).length < 17592186044416 then (if x5_1.length < 4398046511104 then (spec_KnownOf.l0 k1 l0 l1 (x5_1 ++ [(⟨(rd_T69 l0 x6_1).f0, (y188 ++ ((rd_T69 l0 x6_1).f1))⟩ : S69)]) (wrap64 (x6_1 + 1))) else (none)) else (none)) = some r := by first | (rw [hy188]; with_reducible exact H) | (have H2_ := (Option.bind_some _ _).symm.trans H; rw [hy188]; with_reducible exact H2_) | (have H2_ := (Option.bind_some _ _).symm.trans H; with_reducible exact H2_) | with_reducible exact H | (rw [hy188]; exact H) | exact H
  have Ny188 := Aside0.mk hy188
  clear hy188
  by_cases c9 : y188.length + ((rd_T69 l0 x6_1).f1).length < 17592186044416
  rotate_left
  · rw [if_neg c9] at H
    exact absurd H (by simp)
  rw [if_pos c9] at H
  have LMc9 := Aside0.mk c9
  clear c9
  obtain ⟨y192, hy192⟩ : ∃ y_ : List Int, y_ = (y188 ++ ((rd_T69 l0 x6_1).f1)) := ⟨_, rfl⟩
  replace H : (if x5_1.length < 4398046511104 then (spec_KnownOf.l0 k1 l0 l1 (x5_1 ++ [(⟨(rd_T69 l0 x6_1).f0, y192⟩ : S69)]) (wrap64 (x6_1 + 1))) else (none)) = some r := by first | (rw [hy192]; with_reducible exact H) | (have H2_ := (Option.bind_some _ _).symm.trans H; rw [hy192]; with_reducible exact H2_) | (have H2_ := (Option.bind_some _ _).symm.trans H; with_reducible exact H2_) | with_reducible exact H | (rw [hy192]; exact H) | exact H
  have Ny192 := Aside0.mk hy192
  clear hy192
  by_cases c10 : x5_1.length < 4398046511104
  rotate_left
  · rw [if_neg c10] at H
    exact absurd H (by simp)
  rw [if_pos c10] at H
  have LMc10 := Aside0.mk c10
  clear c10
  obtain ⟨y195, hy195⟩ : ∃ y_ : List (S69), y_ = (x5_1 ++ [(⟨(rd_T69 l0 x6_1).f0, y192⟩ : S69)]) := ⟨_, rfl⟩
  replace H : (spec_KnownOf.l0 k1 l0 l1 y195 (wrap64 (x6_1 + 1))) = some r := by first | (rw [hy195]; with_reducible exact H) | (have H2_ := (Option.bind_some _ _).symm.trans H; rw [hy195]; with_reducible exact H2_) | (have H2_ := (Option.bind_some _ _).symm.trans H; with_reducible exact H2_) | with_reducible exact H | (rw [hy195]; exact H) | exact H
  have Ny195 := Aside0.mk hy195
  clear hy195
  have H' := Aside0.mk H
  clear H
  try go_wp2
  (try (rw [drewN_self wr]; generalize hq_ : World.drewN wr _ = wr; have n0_ : Aside0 (Kd.S k69 69 wr w.heap.size (fun _ => True) u5 x5_1) := ⟨by rw [← hq_]; exact (ps_ HO_5.out)⟩; have n1_ : Aside0 (Below w.heap.size w wr) := ⟨by rw [← hq_]; exact (pb_ HB.out)⟩; clear HO_5 HB hq_; have HO_5 := n0_; have HB := n1_; clear n0_ n1_))
  have n0_ := Aside0.mk (Kd.S_drew HO_5.out)
  have n1_ := Aside0.mk (below_drew1 HB.out)
  clear HO_5
  clear HB
  have HO_5 := n0_
  have HB := n1_
  clear n0_ n1_
  have p187 : 0 ≤ (x6_1 : Int) := dt_
  have q187 : x6_1 < (l0.length : Int) := dt_
  obtain ⟨ad187, A187_1, c187_1, e187, hx187_0, hx187_1, hl187_1, hi187_1⟩ := at_T69 HR0.out x6_1 p187 q187
  have hw187_1 := hx187_1
  have hw187_0 := hx187_0
  obtain rfl : ad185 = ad187 := (by injection e187)
  replace hx187_0 := (HB.out.cell (World.block_lt_of_cell? w _ hx187_0)).trans hx187_0
  replace hx187_1 := (HB.out.cell (World.block_lt_of_cell? w _ hx187_1)).trans hx187_1
  have HR187_1 := Aside0.mk hi187_1
  have HC187_1 := Aside0.mk hl187_1
  clear hi187_1 hl187_1
  replace p187 := eq_true p187
  replace q187 := eq_true q187
  have p191 : 0 ≤ (x6_1 : Int) := dt_
  have q191 : x6_1 < (l0.length : Int) := dt_
  obtain ⟨ad191, A191_1, c191_1, e191, hx191_0, hx191_1, hl191_1, hi191_1⟩ := at_T69 HR0.out x6_1 p191 q191
  have hw191_1 := hx191_1
  have hw191_0 := hx191_0
  obtain rfl : ad185 = ad191 := (by injection e191)
  replace hx191_0 := (HB.out.cell (World.block_lt_of_cell? w _ hx191_0)).trans hx191_0
  replace hx191_1 := (HB.out.cell (World.block_lt_of_cell? w _ hx191_1)).trans hx191_1
  have HR191_1 := Aside0.mk hi191_1
  have HC191_1 := Aside0.mk hl191_1
  clear hi191_1 hl191_1
  replace p191 := eq_true p191
  replace q191 := eq_true q191
  have ea_ := Option.some.inj (hx187_1.symm.trans hx191_1)
  injection ea_ with ea_ en_ ec_
  subst ea_
  subst ec_
  clear en_
  refine start_ (n := 17) (S := fun w' => w'.cell? (ad185.add ((x6_1).toNat * 2)) = some (.int .i64 ((rd_T69 l0 x6_1).f0)) ∧ w'.cell? ⟨(ad185.add ((x6_1).toNat * 2)).block, (ad185.add ((x6_1).toNat * 2)).off + 1, none⟩ = some (.slice A187_1 ((rd_T69 l0 x6_1).f1).length c187_1) ∧ w'.cell? (ad185.add ((x6_1).toNat * 2)) = some (.int .i64 ((rd_T69 l0 x6_1).f0)) ∧ w'.cell? ⟨(ad185.add ((x6_1).toNat * 2)).block, (ad185.add ((x6_1).toNat * 2)).off + 1, none⟩ = some (.slice A187_1 ((rd_T69 l0 x6_1).f1).length c187_1)) (ds := []) #[false, false, false, false, false, false, false, false, false, false, false, false, false, false, false, false, false] (by kernel_rfl) rfl rfl ⟨((HB.out.cell (World.block_lt_of_cell? w _ hw187_0)).trans hw187_0), ((HB.out.cell (World.block_lt_of_cell? w _ hw187_1)).trans hw187_1), ((HB.out.cell (World.block_lt_of_cell? w _ hw191_0)).trans hw191_0), ((HB.out.cell (World.block_lt_of_cell? w _ hw191_1)).trans hw191_1)⟩ (fun hHeld => ?_); refine with_tabW spec_KnownOf.tab6 spec_KnownOf.bits6 (fun HT_ HW_ => ?_)
  generalize wr.drew = w11 at HO_5 HB HR187_1 HR191_1 hx187_0 hx187_1 hx191_0 hx191_1 hHeld ⊢
  refine pu_ 0 (some 21) (tf_ 1 17) HT_ ?_
  refine pu_ 1 (some 22) (tf_ 2 17) HT_ ?_
  refine pu_ 2 (some 23) (tf_ 3 17) HT_ ?_
  refine pu_ 3 (some 24) (tf_ 4 17) HT_ ?_
  refine pu_ 4 (some 25) (tf_ 5 17) HT_ ?_
  refine pu_ 7 (some 28) #[true, true, true, true, true, false, false, true, false, false, false, false, false, false, false, false, false] HT_ ?_
  refine pu_ 8 (some 29) #[true, true, true, true, true, false, false, true, true, false, false, false, false, false, false, false, false] HT_ ?_
  refine pu_ 9 (some 30) #[true, true, true, true, true, false, false, true, true, true, false, false, false, false, false, false, false] HT_ ?_
  refine pu_ 10 (some 31) #[true, true, true, true, true, false, false, true, true, true, true, false, false, false, false, false, false] HT_ ?_
  refine ta_ 5 (some 26) #[true, true, true, true, true, true, false, true, true, true, true, false, false, false, false, false, false] HT_ HW_ hHeld ?_
  refine ta_ 11 (some 32) #[true, true, true, true, true, true, false, true, true, true, true, true, false, false, false, false, false] HT_ HW_ hHeld ?_
  refine on_ 6 (some 27) (tf_ 12 17) HT_ (fun K hK => ?_)
  refine Kd.R_lit_step (Kd.int .i64) _ 3 ?hg (N := 27) ?hd (xs := ([] : List Int)) (inner := []) (ok := fun _ => True) (okp := fun _ => True) ?hr ?hp (fun _ hk => hk) trivial (Below.refl _ _) (Nat.le_refl _) (by simp) ?_; (case hd => rfl); (case hg => rfl); (case hr => first | (go_simp; done) | (go_simp; rfl)); (case hp => exact (Reps.none _ _))
  intro v189 w12 ho13 hb hg_ hnew_
  clear hg_ hnew_
  (first | rw [← Ny188.out] at ho13 | (simp only [Int.reduceToNat] at ho13; rw [← Ny188.out] at ho13))
  have n0_ := Aside0.mk (Kd.S_elder' (ps_ HO_5.out) (Kd.R_base ho13) hb)
  have n1_ := Aside0.mk (Kd.R_lower ho13 (below_size (pb_ HB.out)))
  have n2_ := Aside0.mk (below_step (pb_ HB.out) hb)
  clear HO_5
  clear HB
  have HO_5 := n0_
  have HO190 := n1_
  have HB := n2_
  clear n0_ n1_ n2_
  clear hb ho13
  refine hK.out _ _ ⟨((HB.out.cell (World.block_lt_of_cell? w _ hw187_0)).trans hw187_0), ((HB.out.cell (World.block_lt_of_cell? w _ hw187_1)).trans hw187_1), ((HB.out.cell (World.block_lt_of_cell? w _ hw191_0)).trans hw191_0), ((HB.out.cell (World.block_lt_of_cell? w _ hw191_1)).trans hw191_1)⟩ (fun hHeld => ?_)
  clear hK K
  refine no_ (some 27) ?_
  refine on_ 12 (some 33) (tf_ 13 17) HT_ (fun K hK => ?_)
  refine Kd.R_append_rows_step (Kd.int .i64) (w0 := w) w.heap.size (by rfl) (.tmp 27) (.tmp 32) 23 3 (.int .i64 0) 8 rfl Try.underlying23 info3 rfl (by decide) (by omega) v189 y188 ((rd_T69 l0 x6_1).f1) _ _ _ (fun _ => True) (fun _ => False) rfl rfl ?aO ?aR (fun _ _ h => h) (fun _ h => h.elim) ?aF ?aB ?aS ?aL ?_
  (case aR => exact pc_ (Kd.C_below HR191_1.out HB.out))
  (case aB => exact (pb_ HB.out))
  (case aF => exact (fun _ _ => trivial))
  (case aO => exact (pr_ HO190.out))
  (case aS => exact (below_size (pb_ HB.out)))
  (case aL => have := LMc9.out; omega)
  intro v193 w14 ho hb hg hat
  rw [← Ny192.out] at ho
  have n0_ := Aside0.mk (Kd.S_after (ok := (fun _ => True)) (ps_ HO_5.out) hg hat)
  have n1_ := Aside0.mk (hb)
  have n2_ := Aside0.mk (ho)
  clear HO_5
  clear HB
  clear HO190
  have HO_5 := n0_
  have HB := n1_
  have HO194 := n2_
  clear n0_ n1_ n2_
  clear ho hb hg hat
  obtain ⟨Ao15, co15, eo15⟩ := Kd.R_slice HO194.out
  (first | subst eo15 | (injection eo15 with f1_ f2_ f3_; have f4_ := f1_.symm; have f5_ := f3_.symm; clear f1_ f2_ f3_; subst f4_; subst f5_))
  refine hK.out _ _ ⟨((HB.out.cell (World.block_lt_of_cell? w _ hw187_0)).trans hw187_0), ((HB.out.cell (World.block_lt_of_cell? w _ hw187_1)).trans hw187_1), ((HB.out.cell (World.block_lt_of_cell? w _ hw191_0)).trans hw191_0), ((HB.out.cell (World.block_lt_of_cell? w _ hw191_1)).trans hw191_1)⟩ (fun hHeld => ?_)
  clear hK K
  refine no_ (some 33) ?_
  refine pu_ 13 (some 34) (tf_ 14 17) HT_ ?_
  refine on_ 14 (some 35) (tf_ 15 17) HT_ (fun K hK => ?_)
  refine value_ (w1 := ?_) (v := ?_) (by rfl) rfl ?_ ?_
  rotate_left 2
  · go_simp
    constructor
    · rfl
    · rfl
  refine hK.out _ _ ⟨(World.cell?_alloc_lt _ _ _ (World.block_lt_of_cell? _ _ (((HB.out.cell (World.block_lt_of_cell? w _ hw187_0)).trans hw187_0)))).trans (((HB.out.cell (World.block_lt_of_cell? w _ hw187_0)).trans hw187_0)), (World.cell?_alloc_lt _ _ _ (World.block_lt_of_cell? _ _ (((HB.out.cell (World.block_lt_of_cell? w _ hw187_1)).trans hw187_1)))).trans (((HB.out.cell (World.block_lt_of_cell? w _ hw187_1)).trans hw187_1)), (World.cell?_alloc_lt _ _ _ (World.block_lt_of_cell? _ _ (((HB.out.cell (World.block_lt_of_cell? w _ hw191_0)).trans hw191_0)))).trans (((HB.out.cell (World.block_lt_of_cell? w _ hw191_0)).trans hw191_0)), (World.cell?_alloc_lt _ _ _ (World.block_lt_of_cell? _ _ (((HB.out.cell (World.block_lt_of_cell? w _ hw191_1)).trans hw191_1)))).trans (((HB.out.cell (World.block_lt_of_cell? w _ hw191_1)).trans hw191_1))⟩ (fun hHeld => ?_)
  clear hK K
  refine no_ (some 35) ?_
  refine on_ 15 (some 36) (tf_ 16 17) HT_ (fun K hK => ?_)
  refine Kd.S_append_step k69 (w0 := w) w.heap.size (by rfl) (.tmp 21) (.tmp 35) 48 69 (.agg #[(.int .i64 0), (.slice none 0 0)]) 32 rfl Try.underlying48 info69 rfl (by decide) (by omega) u5 x5_1 (⟨(rd_T69 l0 x6_1).f0, y192⟩ : S69) [.int .i64 ((rd_T69 l0 x6_1).f0), .slice Ao15 y192.length co15] (fun _ => True) (fun k_ => some k_ = (.slice Ao15 y192.length co15 : Value).ownBlock) rfl rfl ?aP (fun k_ hk_ => ((Kd.R_mono (ok' := fun k_ => ((fun _ => True)) k_ ∧ some k_ ≠ (u5 : Value).ownBlock) (Kd.R_apart' (HO194.out) (Kd.S_typed HO_5.out) (by decide)) (fun k_ hk => ⟨trivial, hk.2⟩))).1 k_ hk_.symm) ?aF ?aO ?aB ?aS ?aL ?_
  (case aP => exact k69_mkM _ _ _ (⟨(rd_T69 l0 x6_1).f0, y192⟩ : S69) (Kd.R_mono (Kd.R_tight rfl (Kd.R_mono (ok' := fun k_ => ((fun _ => True)) k_ ∧ some k_ ≠ (u5 : Value).ownBlock) (Kd.R_apart' (HO194.out) (Kd.S_typed HO_5.out) (by decide)) (fun k_ hk => ⟨trivial, hk.2⟩))) (fun _ h_ => h_)))
  (case aB => exact (pb_ HB.out))
  (case aF => exact (fun _ _ => trivial))
  (case aO => exact (by (with_reducible repeat (first | apply Kd.S_alloc | apply Kd.S_drewN | apply Kd.S_drew)); exact Kd.S_mono HO_5.out (fun k_ hk => ⟨trivial, fun e_ => hk.2 e_⟩)))
  (case aS => exact (below_size (pb_ HB.out)))
  (case aL => have := LMc10.out; omega)
  intro v196 w16 ho hb hg hat
  rw [← Ny195.out] at ho
  have n0_ := Aside0.mk (hb)
  have n1_ := Aside0.mk (ho)
  clear HB
  clear HO_5
  clear HO194
  have HB := n0_
  have HO197 := n1_
  clear n0_ n1_
  clear ho hb hg hat
  refine hK.out _ _ ⟨((HB.out.cell (World.block_lt_of_cell? w _ hw187_0)).trans hw187_0), ((HB.out.cell (World.block_lt_of_cell? w _ hw187_1)).trans hw187_1), ((HB.out.cell (World.block_lt_of_cell? w _ hw191_0)).trans hw191_0), ((HB.out.cell (World.block_lt_of_cell? w _ hw191_1)).trans hw191_1)⟩ (fun hHeld => ?_)
  clear hK K
  refine no_ (some 36) ?_
  refine pu_ 16 (some 5) (tf_ 17 17) HT_ ?_
  refine done_ (done_of HT_.out (by kernel_rfl)) ?_
  try go_wp2
  go_roundg k1
  case measure => have := HK1.out; omega
  case rel => exact ⟨(y195), (wrap64 (x6_1 + 1)), el_, H', ⟨by have := HK1.out; omega⟩, ⟨ps_ HO197.out⟩, ⟨pb_ HB.out⟩⟩

/-! ### spec_TagsOf: function 98 -/
def spec_TagsOf.l0 : Nat → List (S69) → List Int → Int → Option (List Int)
  | 0, _, _, _ => none
  | k + 1, x0, x3, x4 => if x4 < (x0.length : Int) then (if 0 ≤ x4 then (if x3.length < 17592186044416 then (spec_TagsOf.l0 k x0 (x3 ++ [(rd_T69 x0 x4).f0]) (wrap64 (x4 + 1))) else (none)) else (none)) else (some x3)
def spec_TagsOf.f (k : Nat) (l0 : List (S69)) : Option (List Int) := spec_TagsOf.l0 k l0 (([] : List Int)) 0
theorem spec_TagsOf.mono_l : ∀ k, (∀ y0 y1 y2, LeO (spec_TagsOf.l0 k y0 y1 y2) (spec_TagsOf.l0 (k + 1) y0 y1 y2))
  | 0 => fun _ _ _ r h => by simp [spec_TagsOf.l0] at h
  | k + 1 => by
    have ih0 := spec_TagsOf.mono_l k
    · intro y0 y1 y2
      unfold spec_TagsOf.l0
      repeat' first
      | (with_reducible exact ih0 _ _ _)
      | (with_reducible exact LeO.refl _)
      | (with_reducible exact LeO.none _)
      | (with_reducible refine LeO.ite ?_ ?_)
      | (with_reducible refine LeO.bind ?_ (fun _ => ?_))
      | exact ih0 _ _ _
      | exact LeO.none _
      | refine LeO.ite ?_ ?_
      | refine LeO.bind ?_ (fun _ => ?_)
theorem spec_TagsOf.mono : ∀ a0 k, LeO (spec_TagsOf.f k a0) (spec_TagsOf.f (k + 1) a0) := by
  intro a0 k
  have ih0 := spec_TagsOf.mono_l k
  unfold spec_TagsOf.f
  repeat' first
      | (with_reducible exact ih0 _ _ _)
      | (with_reducible exact LeO.refl _)
      | (with_reducible exact LeO.none _)
      | (with_reducible refine LeO.ite ?_ ?_)
      | (with_reducible refine LeO.bind ?_ (fun _ => ?_))
      | exact ih0 _ _ _
      | exact LeO.none _
      | refine LeO.ite ?_ ?_
      | refine LeO.bind ?_ (fun _ => ?_)
set_option maxHeartbeats 8000000 in
set_option maxRecDepth 100000 in
theorem spec_TagsOf.calls (k : Nat) (A0 : Option Addr) (c0 : Nat) (l0 : List (S69)) (r : List Int) (w : World) (hr0 : Kd.C k69 w A0 l0.length l0) (hc0 : l0.length ≤ c0) (h : spec_TagsOf.f k l0 = some r) :
    Calls Try.prog 98 #[.slice A0 l0.length c0] w fun e w' => ∃ v0_ : Value, e = .returned (v0_) ∧ Kd.R (Kd.int .i64) 3 w' w.heap.size (fun _ => True) v0_ r ∧ Below w.heap.size w w' := by
  have HR0 := Aside0.mk hr0
  have HC0 := Aside0.mk hc0
  clear hr0 hc0
  have HB := Aside0.mk (Below.refl w.heap.size w)
  have H : (spec_TagsOf.l0 k l0 (([] : List Int)) 0) = some r := h
  clear h
  obtain ⟨y198, hy198⟩ : ∃ y_ : List Int, y_ = (([] : List Int)) := ⟨_, rfl⟩
  replace H : (spec_TagsOf.l0 k l0 y198 0) = some r := by first | (rw [hy198]; with_reducible exact H) | (have H2_ := (Option.bind_some _ _).symm.trans H; rw [hy198]; with_reducible exact H2_) | (have H2_ := (Option.bind_some _ _).symm.trans H; with_reducible exact H2_) | with_reducible exact H | (rw [hy198]; exact H) | exact H
  have Ny198 := Aside0.mk hy198
  clear hy198
  have H' := Aside0.mk H
  clear H
  go_enter Try.func98, Try.ntmps98
  go_wp2_with (first | ((with_reducible refine gate_dst (N := 5) rfl ?_); refine Kd.R_lit (Kd.int .i64) _ 3 ?hg (N := 5) ?hd (xs := ([] : List Int)) (inner := []) (ok := fun _ => True) (okp := fun _ => True) ?hr ?hp (fun _ hk => hk) trivial (Below.refl _ _) (Nat.le_refl _) (by simp) ?_; (case hd => rfl); (case hg => rfl); (case hr => first | (go_simp; done) | (go_simp; rfl)); (case hp => exact (Reps.none _ _)); intro v199 w2 ho3 hb hg_ hnew_; clear hg_ hnew_; (first | rw [← Ny198.out] at ho3 | (simp only [Int.reduceToNat] at ho3; rw [← Ny198.out] at ho3)); have n0_ := Aside0.mk (Kd.R_lower ho3 (below_size (pb_ HB.out))); have n1_ := Aside0.mk (below_step (pb_ HB.out) hb); clear HB; have HO200 := n0_; have HB := n1_; clear n0_ n1_; clear hb ho3))
  (try simp only [Act.put, List.setIfInBounds_toArray, List.set_cons_zero, List.set_cons_succ])
  go_loopg [3, 4] k (fun kq v3 v4 w' => ∃ (x3_1 : List Int) (x4_1 : Int), v4 = .int .i64 x4_1 ∧ Aside0 (spec_TagsOf.l0 kq l0 x3_1 x4_1 = some r) ∧ Aside0 (kq ≤ k) ∧ Aside0 (Kd.R (Kd.int .i64) 3 w' w.heap.size (fun _ => True) v3 x3_1) ∧ Aside0 (Below w.heap.size w w'))
  case atStart => exact ⟨(y198), (0), el_, H', ⟨Nat.le_refl _⟩, ⟨pr_ HO200.out⟩, ⟨pb_ HB.out⟩⟩
  clear H'
  try clear p2
  obtain ⟨x3_1, x4_1, rfl, HA, HK1, HO_3, HB⟩ := hrel
  rcases gk with _ | k1
  · exact absurd HA.out (by simp [spec_TagsOf.l0])
  have H := HA.out
  clear HA
  simp only [spec_TagsOf.l0] at H
  by_cases c4 : x4_1 < (l0.length : Int)
  rotate_left
  · rw [if_neg c4] at H
    have c4b0 : decide (x4_1 < (l0.length : Int)) = false := decide_eq_false c4
    clear c4
    obtain rfl := Option.some.inj H
    go_wp2
    go_ret
    exact ⟨_, er_, pr_ HO_3.out, pb_ HB.out⟩
  rw [if_pos c4] at H
  have c4b0 : decide (x4_1 < (l0.length : Int)) = true := decide_eq_true c4
  clear c4
  by_cases c5 : 0 ≤ x4_1
  rotate_left
  · rw [if_neg c5] at H
    exact absurd H (by simp)
  rw [if_pos c5] at H
  have c5b0 : decide (0 ≤ x4_1) = true := decide_eq_true c5
  clear c5
  by_cases c6 : x3_1.length < 17592186044416
  rotate_left
  · rw [if_neg c6] at H
    exact absurd H (by simp)
  rw [if_pos c6] at H
  have LMc6 := Aside0.mk c6
  clear c6
  obtain ⟨y202, hy202⟩ : ∃ y_ : List Int, y_ = (x3_1 ++ [(rd_T69 l0 x4_1).f0]) := ⟨_, rfl⟩
  replace H : (spec_TagsOf.l0 k1 l0 y202 (wrap64 (x4_1 + 1))) = some r := by first | (rw [hy202]; with_reducible exact H) | (have H2_ := (Option.bind_some _ _).symm.trans H; rw [hy202]; with_reducible exact H2_) | (have H2_ := (Option.bind_some _ _).symm.trans H; with_reducible exact H2_) | with_reducible exact H | (rw [hy202]; exact H) | exact H
  have Ny202 := Aside0.mk hy202
  clear hy202
  have H' := Aside0.mk H
  clear H
  have p201 : 0 ≤ (x4_1 : Int) := dt_
  have q201 : x4_1 < (l0.length : Int) := dt_
  obtain ⟨ad201, A201_1, c201_1, e201, hx201_0, hx201_1, hl201_1, hi201_1⟩ := at_T69 HR0.out x4_1 p201 q201
  cases e201
  replace hx201_0 := (HB.out.cell (World.block_lt_of_cell? w _ hx201_0)).trans hx201_0
  replace hx201_1 := (HB.out.cell (World.block_lt_of_cell? w _ hx201_1)).trans hx201_1
  have HR201_1 := Aside0.mk hi201_1
  have HC201_1 := Aside0.mk hl201_1
  clear hi201_1 hl201_1
  replace p201 := eq_true p201
  replace q201 := eq_true q201
  go_wp2_with (first | ((with_reducible refine gate_builtin (b := .append) (xs := #[.tmp 12, .tmp 18]) rfl ?_); at_builtin; refine Kd.R_append (Kd.int .i64) (w0 := w) w.heap.size rfl (.tmp 12) (.tmp 18) 23 3 (.int .i64 0) 8 rfl Try.underlying23 info3 rfl (by decide) (by omega) u3 x3_1 ((rd_T69 l0 x4_1).f0) [.int .i64 ((rd_T69 l0 x4_1).f0)] (fun _ => True) (fun _ => False) rfl rfl ?aP (fun _ hk => hk.elim) ?aF ?aO ?aB ?aS ?aL ?_; (case aP => exact rfl); (case aB => exact (pb_ HB.out)); (case aF => exact (fun _ _ => trivial)); (case aO => exact (pr_ HO_3.out)); (case aS => exact (below_size (pb_ HB.out))); (case aL => have := LMc6.out; omega); intro v203 w7 ho hb hg hat; rw [← Ny202.out] at ho; have n0_ := Aside0.mk (hb); have n1_ := Aside0.mk (ho); clear HB; clear HO_3; have HB := n0_; have HO204 := n1_; clear n0_ n1_; clear ho hb hg hat))
  go_roundg k1
  case measure => have := HK1.out; omega
  case rel => exact ⟨(y202), (wrap64 (x4_1 + 1)), el_, H', ⟨by have := HK1.out; omega⟩, ⟨pr_ HO204.out⟩, ⟨pb_ HB.out⟩⟩

/-! ### spec_l11Copy: function 87 -/
def spec_l11Copy.f (k : Nat) (l0 : List (S69)) : Option ((List (S69))) := (spec_TagsOf.f k l0).bind fun t205 => ((spec_KnownOf.f k l0 t205).bind fun t208 => (some t208))
theorem spec_l11Copy.mono : ∀ a0 k, LeO (spec_l11Copy.f k a0) (spec_l11Copy.f (k + 1) a0) := by
  intro a0 k
  unfold spec_l11Copy.f
  repeat' first
      | (with_reducible exact spec_KnownOf.mono _ _ _)
      | (with_reducible exact spec_TagsOf.mono _ _)
      | (with_reducible exact LeO.refl _)
      | (with_reducible exact LeO.none _)
      | (with_reducible refine LeO.ite ?_ ?_)
      | (with_reducible refine LeO.bind ?_ (fun _ => ?_))
      | exact spec_KnownOf.mono _ _ _
      | exact spec_TagsOf.mono _ _
      | exact LeO.none _
      | refine LeO.ite ?_ ?_
      | refine LeO.bind ?_ (fun _ => ?_)
set_option maxHeartbeats 8000000 in
set_option maxRecDepth 100000 in
theorem spec_l11Copy.calls (k : Nat) (A0 : Option Addr) (c0 : Nat) (l0 : List (S69)) (r : List (S69)) (w : World) (hr0 : Kd.C k69 w A0 l0.length l0) (hc0 : l0.length ≤ c0) (h : spec_l11Copy.f k l0 = some r) :
    Calls Try.prog 87 #[.slice A0 l0.length c0] w fun e w' => ∃ v0_ : Value, e = .returned (v0_) ∧ Kd.S k69 69 w' w.heap.size (fun _ => True) v0_ r ∧ Below w.heap.size w w' := by
  have HR0 := Aside0.mk hr0
  have HC0 := Aside0.mk hc0
  clear hr0 hc0
  have HB := Aside0.mk (Below.refl w.heap.size w)
  have H : ((spec_TagsOf.f k l0).bind fun t205 => ((spec_KnownOf.f k l0 t205).bind fun t208 => (some t208))) = some r := h
  clear h
  replace H := Option.bind_eq_some_iff.mp H
  obtain ⟨t205, A20, H⟩ := H
  replace H : ((spec_KnownOf.f k l0 t205).bind fun t208 => (some t208)) = some r := H
  have A2 := Aside0.mk A20
  clear A20
  replace H := Option.bind_eq_some_iff.mp H
  obtain ⟨t208, A30, H⟩ := H
  replace H : (some t208) = some r := H
  have A3 := Aside0.mk A30
  clear A30
  obtain rfl := Option.some.inj H
  go_enter Try.func87, Try.ntmps87
  go_wp2_with (first | ((with_reducible refine gate_callee (f := 98) rfl ?_); refine goesL_ (some 5) rfl rfl Try.func98 (by kernel_rfl) rfl #[.slice A0 l0.length c0] rfl mp_ ?_; (with_reducible refine (spec_TagsOf.calls k _ _ l0 t205 _ ?side1 ?side2 A2.out).mono ?_); (case side1 => exact pc_ HR0.out); (case side2 => exact HC0.out); rintro e w4 ⟨v206, rfl, ho0, hb⟩; refine ⟨_, rfl, ?_⟩; have n0_ := Aside0.mk (Kd.R_lower ho0 (below_size (pb_ HB.out))); have n1_ := Aside0.mk (below_step (pb_ HB.out) hb); clear HB; have HO207 := n0_; have HB := n1_; clear n0_ n1_; (try clear hb); (try clear hb2); (try clear hk); (try clear hi); (try clear ho0); obtain ⟨Ao5, co5, eo5⟩ := Kd.R_slice HO207.out; subst eo5) | ((with_reducible refine gate_callee (f := 97) rfl ?_); refine goesL_ (some 6) rfl rfl Try.func97 (by kernel_rfl) rfl #[.slice A0 l0.length c0, .slice Ao5 t205.length co5] rfl mp_ ?_; (with_reducible refine (spec_KnownOf.calls k _ _ l0 _ _ t205 t208 _ ?side1 ?side2 ?side3 ?side4 A3.out).mono ?_); (case side1 => exact pc_ (Kd.C_below HR0.out HB.out)); (case side2 => exact HC0.out); (case side3 => exact pc_ ((Kd.R_reads' HO207.out).2.2)); (case side4 => exact (Kd.R_reads' HO207.out).2.1); rintro e w6 ⟨v209, rfl, ho0, hb⟩; refine ⟨_, rfl, ?_⟩; have n0_ := Aside0.mk (Kd.R_below (pr_ HO207.out) hb); have n1_ := Aside0.mk (Kd.S_lower (Kd.S_new' ho0 (Kd.R_lt (pr_ HO207.out))) (below_size (pb_ HB.out))); have n2_ := Aside0.mk (below_step (pb_ HB.out) hb); clear HO207; clear HB; have HO207 := n0_; have HO210 := n1_; have HB := n2_; clear n0_ n1_ n2_; (try clear hb); (try clear hb2); (try clear hk); (try clear hi); (try clear ho0)))
  go_ret
  exact ⟨_, er_, ps_ (Kd.S_mono HO210.out (fun _ hk => trivial)), pb_ HB.out⟩

/-! ### spec_l18Hello: function 69 -/
def spec_l18Hello.f (k : Nat) (l0_0 : List Int) (l0_1 : List (S69)) : Option (List Int × (List (S69))) := (some (([] : List Int) : List Int)).bind fun y213 => (if y213.length + l0_0.length < 17592186044416 then ((spec_l11Copy.f k l0_1).bind fun t219 => (some ((y213 ++ l0_0), t219))) else (none))
theorem spec_l18Hello.mono : ∀ a0 a1 k, LeO (spec_l18Hello.f k a0 a1) (spec_l18Hello.f (k + 1) a0 a1) := by
  intro a0 a1 k
  unfold spec_l18Hello.f
  repeat' first
      | (with_reducible exact spec_l11Copy.mono _ _)
      | (with_reducible exact LeO.refl _)
      | (with_reducible exact LeO.none _)
      | (with_reducible refine LeO.ite ?_ ?_)
      | (with_reducible refine LeO.bind ?_ (fun _ => ?_))
      | exact spec_l11Copy.mono _ _
      | exact LeO.none _
      | refine LeO.ite ?_ ?_
      | refine LeO.bind ?_ (fun _ => ?_)
def spec_l18Hello.T1 : Bool × List (List Nat × List Nat) := (true, [([], []), ([], []), ([1], [1]), ([0, 2], [0, 2]), ([], []), ([4], [4]), ([5, 3], [5]), ([3, 6], [3, 6]), ([7, 6, 0, 1, 2, 3, 4, 5, 6, 7], [7])])
def spec_l18Hello.B1 : List Nat := [0, 0, 2, 7, 0, 16, 63, 127, 255]
theorem spec_l18Hello.tab1 : rtab .any (opsOf Try.f69 1) = spec_l18Hello.T1 := by kernel_rfl
theorem spec_l18Hello.bits1 : waitsOk spec_l18Hello.T1.2 spec_l18Hello.B1 = true := by kernel_rfl
set_option maxHeartbeats 8000000 in
set_option maxRecDepth 100000 in
theorem spec_l18Hello.calls (k : Nat) (A0_0 : Option Addr) (c0_0 : Nat) (l0_0 : List Int) (A0_1 : Option Addr) (c0_1 : Nat) (l0_1 : List (S69)) (r1 : List Int) (r2 : List (S69)) (w : World) (hr0_0 : Kd.C (Kd.int .i64) w A0_0 l0_0.length l0_0) (hc0_0 : l0_0.length ≤ c0_0) (hr0_1 : Kd.C k69 w A0_1 l0_1.length l0_1) (hc0_1 : l0_1.length ≤ c0_1) (h : spec_l18Hello.f k l0_0 l0_1 = some (r1, r2)) :
    Calls Try.prog 69 #[.agg #[.slice A0_0 l0_0.length c0_0, .slice A0_1 l0_1.length c0_1]] w fun e w' => ∃ v0_ v1_ : Value, e = .returned (.agg #[v0_, v1_]) ∧ Kd.R (Kd.int .i64) 3 w' w.heap.size (fun _ => True) v0_ r1 ∧ Kd.S k69 69 w' w.heap.size (fun k_ => some k_ ≠ (v0_ : Value).ownBlock) v1_ r2 ∧ Below w.heap.size w w' := by
  have hu63 := Try.underlying63
  have HR0_0 := Aside0.mk hr0_0
  have HC0_0 := Aside0.mk hc0_0
  clear hr0_0 hc0_0
  have HR0_1 := Aside0.mk hr0_1
  have HC0_1 := Aside0.mk hc0_1
  clear hr0_1 hc0_1
  have HB := Aside0.mk (Below.refl w.heap.size w)
  have H : ((some (([] : List Int) : List Int)).bind fun y213 => (if y213.length + l0_0.length < 17592186044416 then ((spec_l11Copy.f k l0_1).bind fun t219 => (some ((y213 ++ l0_0), t219))) else (none))) = some (r1, r2) := h
  clear h
  obtain ⟨y213, hy213⟩ : ∃ y_ : List Int, y_ = (([] : List Int)) := ⟨_, rfl⟩
  replace H : (if y213.length + l0_0.length < 17592186044416 then ((spec_l11Copy.f k l0_1).bind fun t219 => (some ((y213 ++ l0_0), t219))) else (none)) = some (r1, r2) := by first | (rw [hy213]; with_reducible exact H) | (have H2_ := (Option.bind_some _ _).symm.trans H; rw [hy213]; with_reducible exact H2_) | (have H2_ := (Option.bind_some _ _).symm.trans H; with_reducible exact H2_) | with_reducible exact H | (rw [hy213]; exact H) | exact H
  have Ny213 := Aside0.mk hy213
  clear hy213
  by_cases c2 : y213.length + l0_0.length < 17592186044416
  rotate_left
  · rw [if_neg c2] at H
    exact absurd H (by simp)
  rw [if_pos c2] at H
  have LMc2 := Aside0.mk c2
  clear c2
  obtain ⟨y216, hy216⟩ : ∃ y_ : List Int, y_ = (y213 ++ l0_0) := ⟨_, rfl⟩
  replace H : ((spec_l11Copy.f k l0_1).bind fun t219 => (some (y216, t219))) = some (r1, r2) := by first | (rw [hy216]; with_reducible exact H) | (have H2_ := (Option.bind_some _ _).symm.trans H; rw [hy216]; with_reducible exact H2_) | (have H2_ := (Option.bind_some _ _).symm.trans H; with_reducible exact H2_) | with_reducible exact H | (rw [hy216]; exact H) | exact H
  have Ny216 := Aside0.mk hy216
  clear hy216
  replace H := Option.bind_eq_some_iff.mp H
  obtain ⟨t219, A30, H⟩ := H
  replace H : (some (y216, t219)) = some (r1, r2) := H
  have A3 := Aside0.mk A30
  clear A30
  simp only [Option.some.injEq, Prod.mk.injEq] at H
  obtain ⟨rfl, rfl⟩ := H
  go_enter Try.func69, Try.ntmps69
  try go_wp2_with (first | ((with_reducible refine gate_dst (N := 1) rfl ?_); refine box_event ?hg (N := 1) ?hd (cs := #[.slice A0_0 l0_0.length c0_0, .slice A0_1 l0_1.length c0_1]) (t := 63) ?hr ?_; (case hd => rfl); (case hg => rfl); (case hr => first | (go_simp; done) | (go_simp; rfl)); intro gb211 hg w4 hbox hb; have n0_ := Aside0.mk (below_step (pb_ HB.out) hb); have n1_ := Aside0.mk (hbox); have n2_ := Aside0.mk ((by rw [hg]; exact (below_size (pb_ HB.out)) : w.heap.size ≤ gb211)); have n3_ := Aside0.mk ((by rw [hg]; exact (below_size (pb_ HB.out)) : w.heap.size ≤ gb211)); clear HB; have HB := n0_; have BK211 := n1_; have GW211 := n2_; have GE211 := n3_; clear n0_ n1_ n2_ n3_; clear hb hbox hg) | ((with_reducible refine gate_dst (N := 2) rfl ?_); refine box_event ?hg (N := 2) ?hd (cs := #[.slice none 0 0, .slice none 0 0]) (t := 63) ?hr ?_; (case hd => rfl); (case hg => rfl); (case hr => first | (go_simp; done) | (go_simp; rfl)); intro gb212 hg w5 hbox hb; have n0_ := Aside0.mk (bb_ BK211.out hb); have n1_ := Aside0.mk (below_step (pb1_ HB.out GE211.out) hb); have n2_ := Aside0.mk (hbox); have n3_ := Aside0.mk ((by rw [hg]; exact (below_size (pb1_ HB.out GE211.out)) : w.heap.size ≤ gb212)); have n4_ := Aside0.mk ((by rw [hg]; exact (below_size (pb1_ HB.out GE211.out)) : w.heap.size ≤ gb212)); have n5_ := Aside0.mk ((by rw [hg]; exact Nat.ne_of_lt (blk_lt (pk_ BK211.out)) : gb211 ≠ gb212)); have n6_ := Aside0.mk ((by rw [hg]; exact Nat.ne_of_gt (blk_lt (pk_ BK211.out)) : gb212 ≠ gb211)); clear BK211; clear HB; have BK211 := n0_; have HB := n1_; have BK212 := n2_; have GW212 := n3_; have GE212 := n4_; have NB211_212 := n5_; have NB212_211 := n6_; clear n0_ n1_ n2_ n3_ n4_ n5_ n6_; clear hb hbox hg))
  have n0_ := Aside0.mk (blk_drew BK211.out)
  have n1_ := Aside0.mk (blk_drew BK212.out)
  have n2_ := Aside0.mk (below_drew1 HB.out)
  clear BK211
  clear BK212
  clear HB
  have BK211 := n0_
  have BK212 := n1_
  have HB := n2_
  clear n0_ n1_ n2_
  refine start_ (n := 9) (S := fun w' => w'.cell? ⟨gb211, 0, none⟩ = some (.slice A0_0 l0_0.length c0_0) ∧ w'.cell? ⟨gb211, 1, none⟩ = some (.slice A0_1 l0_1.length c0_1)) (ds := []) #[false, false, false, false, false, false, false, false, false] (by kernel_rfl) rfl rfl ⟨(blk_cell BK211.out 0).trans rfl, (blk_cell BK211.out 1).trans rfl⟩ (fun hHeld => ?_); refine with_tabW spec_l18Hello.tab1 spec_l18Hello.bits1 (fun HT_ HW_ => ?_)
  generalize w5.drew = w6 at BK211 BK212 HB hHeld ⊢
  refine pu_ 1 (some 4) #[false, true, false, false, false, false, false, false, false] HT_ ?_
  refine pu_ 4 (some 7) #[false, true, false, false, true, false, false, false, false] HT_ ?_
  refine ta_ 2 (some 5) #[false, true, true, false, true, false, false, false, false] HT_ HW_ hHeld ?_
  refine ta_ 5 (some 8) #[false, true, true, false, true, true, false, false, false] HT_ HW_ hHeld ?_
  refine on_ 0 (some 3) #[true, true, true, false, true, true, false, false, false] HT_ (fun K hK => ?_)
  refine Kd.R_lit_step (Kd.int .i64) _ 3 ?hg (N := 3) ?hd (xs := ([] : List Int)) (inner := []) (ok := fun _ => True) (okp := fun _ => True) ?hr ?hp (fun _ hk => hk) trivial (Below.refl _ _) (Nat.le_refl _) (by simp) ?_; (case hd => rfl); (case hg => rfl); (case hr => first | (go_simp; done) | (go_simp; rfl)); (case hp => exact (Reps.none _ _))
  intro v214 w7 ho8 hb hg_ hnew_
  clear hg_ hnew_
  (first | rw [← Ny213.out] at ho8 | (simp only [Int.reduceToNat] at ho8; rw [← Ny213.out] at ho8))
  have n0_ := Aside0.mk (Kd.R_lower ho8 (below_size (pb2_ HB.out GE211.out GE212.out)))
  have n1_ := Aside0.mk (bb_ BK211.out hb)
  have n2_ := Aside0.mk (bb_ BK212.out hb)
  have n3_ := Aside0.mk (below_step (pb2_ HB.out GE211.out GE212.out) hb)
  clear BK211
  clear BK212
  clear HB
  have HO215 := n0_
  have BK211 := n1_
  have BK212 := n2_
  have HB := n3_
  clear n0_ n1_ n2_ n3_
  clear hb ho8
  refine hK.out _ _ ⟨(blk_cell BK211.out 0).trans rfl, (blk_cell BK211.out 1).trans rfl⟩ (fun hHeld => ?_)
  clear hK K
  refine no_ (some 3) ?_
  refine on_ 3 (some 6) (tf_ 6 9) HT_ (fun K hK => ?_)
  refine Kd.R_append_rows_step (Kd.int .i64) (w0 := w) w.heap.size (by rfl) (.tmp 3) (.tmp 5) 23 3 (.int .i64 0) 8 rfl Try.underlying23 info3 rfl (by decide) (by omega) v214 y213 l0_0 _ _ _ (fun _ => True) (fun _ => False) rfl rfl ?aO ?aR (fun _ _ h => h) (fun _ h => h.elim) ?aF ?aB ?aS ?aL ?_
  (case aR => exact pc_ (Kd.C_below HR0_0.out HB.out))
  (case aB => exact (pb2_ HB.out GE211.out GE212.out))
  (case aF => exact (fun _ _ => trivial))
  (case aO => exact (pr_ HO215.out))
  (case aS => exact (below_size (pb2_ HB.out GE211.out GE212.out)))
  (case aL => have := LMc2.out; omega)
  intro v217 w9 ho hb hg hat
  rw [← Ny216.out] at ho
  have n0_ := Aside0.mk (blk_grown (g := gb211) (o := .cells #[.slice A0_0 l0_0.length c0_0, .slice A0_1 l0_1.length c0_1] 63 (0, 0)) (pk_ BK211.out) hg (Kd.R_ne HO215.out BK211.out (by decide)))
  have n1_ := Aside0.mk (blk_grown (g := gb212) (o := .cells #[.slice none 0 0, .slice none 0 0] 63 (0, 0)) (pk_ BK212.out) hg (Kd.R_ne HO215.out BK212.out (by decide)))
  have n2_ := Aside0.mk (hb)
  have n3_ := Aside0.mk (ho)
  clear BK211
  clear BK212
  clear HB
  clear HO215
  have BK211 := n0_
  have BK212 := n1_
  have HB := n2_
  have HO218 := n3_
  clear n0_ n1_ n2_ n3_
  clear ho hb hg hat
  refine hK.out _ _ ⟨(blk_cell BK211.out 0).trans rfl, (blk_cell BK211.out 1).trans rfl⟩ (fun hHeld => ?_)
  clear hK K
  refine no_ (some 6) ?_
  refine on_ 6 (some 9) (tf_ 7 9) HT_ (fun K hK => ?_)
  refine goes_ Try.func87 (by kernel_rfl) rfl #[.slice A0_1 l0_1.length c0_1] (by rfl) rfl rfl mp_ ?_
  with_reducible refine (spec_l11Copy.calls k _ _ l0_1 t219 _ ?side1 ?side2 A3.out).mono ?_
  (case side1 => exact pc_ (Kd.C_below HR0_1.out HB.out))
  (case side2 => exact HC0_1.out)
  rintro e w10 ⟨v220, rfl, ho0, hb⟩
  refine ⟨_, rfl, ?_⟩
  have n0_ := Aside0.mk (Kd.R_below (pr_ HO218.out) hb)
  have n1_ := Aside0.mk (Kd.S_lower (Kd.S_new' ho0 (Kd.R_lt (pr_ HO218.out))) (below_size (pb2_ HB.out GE211.out GE212.out)))
  have n2_ := Aside0.mk (bb_ BK211.out hb)
  have n3_ := Aside0.mk (bb_ BK212.out hb)
  have n4_ := Aside0.mk (below_step (pb2_ HB.out GE211.out GE212.out) hb)
  clear HO218
  clear BK211
  clear BK212
  clear HB
  have HO218 := n0_
  have HO221 := n1_
  have BK211 := n2_
  have BK212 := n3_
  have HB := n4_
  clear n0_ n1_ n2_ n3_ n4_
  (try clear hb)
  (try clear hb2)
  (try clear hk)
  (try clear hi)
  (try clear ho0)
  obtain ⟨Ao11, co11, eo11⟩ := Kd.S_slice HO221.out
  (first | subst eo11 | (injection eo11 with f1_ f2_ f3_; have f4_ := f1_.symm; have f5_ := f3_.symm; clear f1_ f2_ f3_; subst f4_; subst f5_))
  obtain ⟨Ao12, co12, eo12⟩ := Kd.R_slice HO218.out
  (first | subst eo12 | (injection eo12 with f1_ f2_ f3_; have f4_ := f1_.symm; have f5_ := f3_.symm; clear f1_ f2_ f3_; subst f4_; subst f5_))
  refine hK.out _ _ ⟨(blk_cell BK211.out 0).trans rfl, (blk_cell BK211.out 1).trans rfl⟩ (fun hHeld => ?_)
  clear hK K
  refine no_ (some 9) ?_
  refine pu_ 7 (some 10) (tf_ 8 9) HT_ ?_
  refine on_ 8 (none) (tf_ 9 9) HT_ (fun K hK => ?_)
  have hs13 : w10.cell? ⟨gb212, 0, none⟩ = some (.slice none 0 0) := (blk_cell BK212.out 0).trans rfl
  have hfs13 := blk_frozen BK212.out 0
  have hns13_0 := NB211_212.out
  have hms13_0 := NB212_211.out
  have hs14 : w10.cell? ⟨gb212, 1, none⟩ = some (.slice none 0 0) := (blk_cell BK212.out 1).trans rfl
  have hfs14 := blk_frozen BK212.out 1
  have hns14_0 := NB211_212.out
  have hms14_0 := NB212_211.out
  refine skip_ (w1 := ?_) (by rfl) rfl ?_ ?_
  rotate_left
  · go_simp
    rfl
  refine hK.out _ _ ⟨((cell_far (p := ⟨gb212, _, none⟩) NB211_212.out _).trans (((cell_far (p := ⟨gb212, _, none⟩) NB211_212.out _).trans (hHeld.1)))), ((cell_far (p := ⟨gb212, _, none⟩) NB211_212.out _).trans (((cell_far (p := ⟨gb212, _, none⟩) NB211_212.out _).trans (hHeld.2))))⟩ (fun hHeld => ?_)
  clear hK K
  refine done_ (done_of HT_.out (by kernel_rfl)) ?_
  try go_wp2
  refine bodyPost_ret (results_cell_row rfl _ _ gb212 63 #[.slice Ao12 y216.length co12, .slice Ao11 t219.length co11] (0, 0) _ rfl (pp_ BK212.out) Try.underlying63 rfl (by kernel_rfl)) rfl ?_
  exact ⟨_, _, er_, pr_ (Kd.R_mono (rf2_ HO218.out BK212.out) (fun _ hk => trivial)), ps_ (Kd.S_mono (Kd.S_far (p := ⟨gb212, 1, none⟩) (Kd.S_far (p := ⟨gb212, 0, none⟩) (Kd.S_types HO221.out BK212.out (by decide)) (fun _ hk => hk.2) (.slice Ao12 y216.length co12)) (fun _ hk => hk.2) (.slice Ao11 t219.length co11)) (fun _ hk => hk.1.2)), pb2_ HB.out GE211.out GE212.out⟩

end Go.Proofs.Ytpoandlbmaljhaa.Print
