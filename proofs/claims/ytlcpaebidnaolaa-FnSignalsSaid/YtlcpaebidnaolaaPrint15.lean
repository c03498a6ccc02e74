-- Written by a program of this session (printx.py) out of the translation; Lean checks it.
import Derived.Test.YtlcpaebidnaolaaPrint0
import Derived.Test.YtlcpaebidnaolaaPrint1
namespace Go.Proofs.Ytlcpaebidnaolaa.Print
open Go.RowKit Go.Proofs.YtlcpaebidnaolaaW.PrintWords Go.Proofs.YtlcpaebidnaolaaW.PrintLast Go.Proofs.YtlcpaebidnaolaaW.PrintMore Go.Proofs.Ytlcpaebidnaolaa.Short
attribute [local go_sem] max2_int min2_int max_two min_two max_three min_three max_four min_four   -- for this text's walks alone
set_option linter.unusedVariables false
set_option maxHeartbeats 8000000
set_option maxRecDepth 100000
set_option linter.unusedSimpArgs false

/-! ### spec_l4Put: function 46 -/
def spec_l4Put.l0 : Nat → List Int → Int → Int → Option (List Int)
 | 0, _, _, _ => none
 | k + 1, x0, x1, x5 => if x5 < (x0.length : Int) then (if 0 ≤ x5 then (if (rd x0 x5) < x1 then (spec_l4Put.l0 k x0 x1 (wrap64 (x5 + 1))) else (if (rd x0 x5) = x1 then ((some (([] : List Int) : List Int)).bind fun y647 => (if y647.length + x0.length < 17592186044416 then (some (y647 ++ x0)) else (none))) else ((some (([] : List Int) : List Int)).bind fun y653 => (if x5 ≤ (x0.length : Int) then (if y653.length + (x0.take (x5 : Int).toNat).length < 17592186044416 then ((some (y653 ++ (x0.take (x5 : Int).toNat) : List Int)).bind fun y657 => ((some (([x1] : List Int) : List Int)).bind fun y660 => (if y657.length + y660.length < 17592186044416 then ((some (y657 ++ y660 : List Int)).bind fun y663 => (if y663.length + (x0.drop (x5 : Int).toNat).length < 17592186044416 then (some (y663 ++ (x0.drop (x5 : Int).toNat))) else (none))) else (none)))) else (none)) else (none))))) else (none)) else ((some (([] : List Int) : List Int)).bind fun y670 => (if 0 ≤ x5 then (if x5 ≤ (x0.length : Int) then (if y670.length + (x0.take (x5 : Int).toNat).length < 17592186044416 then ((some (y670 ++ (x0.take (x5 : Int).toNat) : List Int)).bind fun y674 => ((some (([x1] : List Int) : List Int)).bind fun y677 => (if y674.length + y677.length < 17592186044416 then ((some (y674 ++ y677 : List Int)).bind fun y680 => (if y680.length + (x0.drop (x5 : Int).toNat).length < 17592186044416 then (some (y680 ++ (x0.drop (x5 : Int).toNat))) else (none))) else (none)))) else (none)) else (none)) else (none)))
def spec_l4Put.f (k : Nat) (l0 : List Int) (a1 : Int) : Option (List Int) := spec_l4Put.l0 k l0 a1 0
theorem spec_l4Put.mono_l : ∀ k, (∀ y0 y1 y2, LeO (spec_l4Put.l0 k y0 y1 y2) (spec_l4Put.l0 (k + 1) y0 y1 y2))
 | 0 => fun _ _ _ r h => by simp [spec_l4Put.l0] at h
 | k + 1 => by
  have ih0 := spec_l4Put.mono_l k
  ·intro y0 y1 y2
   unfold spec_l4Put.l0
   exact mo1_ ih0
theorem spec_l4Put.mono : ∀ a0 a1 k, LeO (spec_l4Put.f k a0 a1) (spec_l4Put.f (k + 1) a0 a1) := by
 intro a0 a1 k
 have ih0 := spec_l4Put.mono_l k
 unfold spec_l4Put.f
 exact mo1_ ih0
def spec_l4Put.T6 : Bool × List (List Nat × List Nat) := (true, [([], []), ([], []), ([], []), ([1, 2], [1, 2]), ([0, 3], [0, 3]), ([], []), ([5], [5]), ([4, 6, 4], [4, 6]), ([], []), ([], []), ([8, 9], [8, 9]), ([7, 10, 7], [7, 10]), ([11, 11, 0, 1, 2, 3, 4, 5, 6, 7, 8, 9, 10, 11], [11])])
def spec_l4Put.B6 : List Nat := [0, 0, 0, 6, 15, 0, 32, 127, 0, 0, 768, 2047, 4095]
theorem spec_l4Put.tab6 : rtab .any (opsOf Try.f46 6) = spec_l4Put.T6 := by kernel_rfl
theorem spec_l4Put.bits6 : waitsOk spec_l4Put.T6.2 spec_l4Put.B6 = true := by kernel_rfl
theorem spec_l4Put.calls (k : Nat) (A0 : Option Addr) (c0 : Nat) (l0 : List Int) (a1 : Int) (r : List Int) (w : World) (hr0 : Kd.C (Kd.int .i64) w A0 l0.length l0) (hc0 : l0.length ≤ c0) (h : spec_l4Put.f k l0 a1 = some r) :
  Calls Try.prog 46 #[.slice A0 l0.length c0, .int .i64 a1] w fun e w' => ∃ v0_ : Value, e = .returned (v0_) ∧ Kd.R (Kd.int .i64) 3 w' w.heap.size (fun _ => True) v0_ r ∧ Below w.heap.size w w' := by
 have HR0 := Q_ hr0
 have HC0 := Q_ hc0
 clear hr0 hc0
 have HB := Q_ (Below.refl w.heap.size w)
 have H : (spec_l4Put.l0 k l0 a1 0) = some r := h
 clear h
 have H' := Q_ H
 clear H
 go_enter Try.func46, Try.ntmps46
 go_wp2
 go_loopg [5] k (fun kq v5 w' => ∃ (x5_1 : Int), v5 = .int .i64 x5_1 ∧ Aside0 (spec_l4Put.l0 kq l0 a1 x5_1 = some r) ∧ Aside0 (kq ≤ k) ∧ Aside0 (Below w.heap.size w w'))
 case atStart => exact ⟨(0), el_, H', ⟨Nat.le_refl _⟩, ⟨pb_ HB.out⟩⟩
 clear H'
 try clear p2
 obtain ⟨x5_1, rfl, HA, HK1, HB⟩ := hrel
 rcases gk with _ | k1
 ·exact absurd HA.out (by simp [spec_l4Put.l0])
 have H := HA.out
 clear HA
 simp only [spec_l4Put.l0] at H
 by_cases c3 : x5_1 < (l0.length : Int)
 rotate_left
 ·rw [if_neg c3] at H
  have c3b0 : decide (x5_1 < (l0.length : Int)) = false := decide_eq_false c3
  clear c3
  obtain ⟨y670, hy670⟩ : ∃ y_ : List Int, y_ = (([] : List Int)) := ⟨_, rfl⟩
  replace H : (if 0 ≤ x5_1 then (if x5_1 ≤ (l0.length : Int) then (if y670.length + (l0.take (x5_1 : Int).toNat).length < 17592186044416 then ((some (y670 ++ (l0.take (x5_1 : Int).toNat) : List Int)).bind fun y674 => ((some (([a1] : List Int) : List Int)).bind fun y677 => (if y674.length + y677.length < 17592186044416 then ((some (y674 ++ y677 : List Int)).bind fun y680 => (if y680.length + (l0.drop (x5_1 : Int).toNat).length < 17592186044416 then (some (y680 ++ (l0.drop (x5_1 : Int).toNat))) else (none))) else (none)))) else (none)) else (none)) else (none)) = some r := hb_ hy670 H
  have Ny670 := Q_ hy670
  clear hy670
  by_cases c4 : 0 ≤ x5_1
  rotate_left
  ·rw [if_neg c4] at H
   exact absurd H (by simp)
  rw [if_pos c4] at H
  have c4b0 := eq_true c4
  have c4b1 : decide (0 ≤ x5_1) = true := decide_eq_true c4
  clear c4
  by_cases c5 : x5_1 ≤ (l0.length : Int)
  rotate_left
  ·rw [if_neg c5] at H
   exact absurd H (by simp)
  rw [if_pos c5] at H
  have c5b0 := eq_true c5
  have c5b1 : decide (x5_1 ≤ (l0.length : Int)) = true := decide_eq_true c5
  clear c5
  by_cases c6 : y670.length + (l0.take (x5_1 : Int).toNat).length < 17592186044416
  rotate_left
  ·rw [if_neg c6] at H
   exact absurd H (by simp)
  rw [if_pos c6] at H
  have LMc6 := Q_ c6
  clear c6
  obtain ⟨y674, hy674⟩ : ∃ y_ : List Int, y_ = (y670 ++ (l0.take (x5_1 : Int).toNat)) := ⟨_, rfl⟩
  replace H : ((some (([a1] : List Int) : List Int)).bind fun y677 => (if y674.length + y677.length < 17592186044416 then ((some (y674 ++ y677 : List Int)).bind fun y680 => (if y680.length + (l0.drop (x5_1 : Int).toNat).length < 17592186044416 then (some (y680 ++ (l0.drop (x5_1 : Int).toNat))) else (none))) else (none))) = some r := hb_ hy674 H
  have Ny674 := Q_ hy674
  clear hy674
  obtain ⟨y677, hy677⟩ : ∃ y_ : List Int, y_ = (([a1] : List Int)) := ⟨_, rfl⟩
  replace H : (if y674.length + y677.length < 17592186044416 then ((some (y674 ++ y677 : List Int)).bind fun y680 => (if y680.length + (l0.drop (x5_1 : Int).toNat).length < 17592186044416 then (some (y680 ++ (l0.drop (x5_1 : Int).toNat))) else (none))) else (none)) = some r := hb_ hy677 H
  have Ny677 := Q_ hy677
  clear hy677
  by_cases c7 : y674.length + y677.length < 17592186044416
  rotate_left
  ·rw [if_neg c7] at H
   exact absurd H (by simp)
  rw [if_pos c7] at H
  have LMc7 := Q_ c7
  clear c7
  obtain ⟨y680, hy680⟩ : ∃ y_ : List Int, y_ = (y674 ++ y677) := ⟨_, rfl⟩
  replace H : (if y680.length + (l0.drop (x5_1 : Int).toNat).length < 17592186044416 then (some (y680 ++ (l0.drop (x5_1 : Int).toNat))) else (none)) = some r := hb_ hy680 H
  have Ny680 := Q_ hy680
  clear hy680
  have c8b0 := eq_true (dt_ : 0 ≤ x5_1)
  have c9b0 := eq_true (dt_ : x5_1 ≤ (l0.length : Int))
  by_cases c10 : y680.length + (l0.drop (x5_1 : Int).toNat).length < 17592186044416
  rotate_left
  ·rw [if_neg c10] at H
   exact absurd H (by simp)
  rw [if_pos c10] at H
  have LMc10 := Q_ c10
  clear c10
  obtain ⟨y684, hy684⟩ : ∃ y_ : List Int, y_ = (y680 ++ (l0.drop (x5_1 : Int).toNat)) := ⟨_, rfl⟩
  replace H : (some y684) = some r := hb_ hy684 H
  have Ny684 := Q_ hy684
  clear hy684
  obtain rfl := Option.some.inj H
  try go_wp2
  have _ := Q_ (below_drew1 HB.out)
  clear HB
  rename_i HB
  obtain ⟨i012, hi012, _, hsz12, _⟩ := info_parts info3
  obtain ⟨hcut12, hA12, hC12⟩ := print_take_of (P := Try.prog) (Value.int .i64) 0 25 3 .i64 Try.underlying25 hi012 hsz12 A0 c0 l0 x5_1 dt_ dt_ HC0.out
  have HR673 := Q_ (Kd.C_of_reads (h1 := fun _ => rfl) (hA12 _ (Kd.reads_of_C HR0.out)))
  have HC673 := Q_ hC12
  clear hA12 hC12 hi012 hsz12
  obtain ⟨i013, hi013, _, hsz13, _⟩ := info_parts info3
  obtain ⟨A13, hcut13, hA13, hC13⟩ := print_drop_of (P := Try.prog) (Value.int .i64) 0 25 3 .i64 Try.underlying25 hi013 hsz13 A0 c0 l0 x5_1 dt_ dt_ HC0.out
  have HR683 := Q_ (Kd.C_of_reads (h1 := fun _ => rfl) (hA13 _ (Kd.reads_of_C HR0.out)))
  have HC683 := Q_ hC13
  clear hA13 hC13 hi013 hsz13
  refine start_ (n := 13) (S := fun w' => True) (ds := []) (tf_ 0 13) (by kernel_rfl) rfl rfl trivial (fun hHeld => ?_); refine with_tabW spec_l4Put.tab6 spec_l4Put.bits6 (fun HT_ HW_ => ?_)
  generalize wr.drew = w11 at HB HR673 HR683 hHeld ⊢
  refine pu_ 1 (some 36) (tm_ 13 2) HT_ ?_
  refine pu_ 2 (some 37) (tm_ 13 6) HT_ ?_
  refine pu_ 3 (some 38) (tm_ 13 14) HT_ ?_
  refine pu_ 5 (some 40) (tm_ 13 46) HT_ ?_
  refine pu_ 8 (some 43) (tm_ 13 302) HT_ ?_
  refine pu_ 9 (some 44) (tm_ 13 814) HT_ ?_
  refine pu_ 10 (some 45) (tm_ 13 1838) HT_ ?_
  refine join_ (σ := Value × Value × Value) 3 #[true, true, true, true, true, true, true, false, true, true, true, false, false] (fun s_ => [(35, s_.1), (39, s_.2.1), (41, s_.2.2)]) (fun s_ w' => (Kd.R (Kd.int .i64) 3 w' w.heap.size (fun k_ => some k_ ≠ (s_.2.2 : Value).ownBlock) s_.2.1 y674) ∧ (Kd.R (Kd.int .i64) 3 w' w.heap.size (fun k_ => some k_ ≠ (s_.2.1 : Value).ownBlock) s_.2.2 y677) ∧ (Below w.heap.size w w')) ?_ ?_
  rotate_left
  ·intro hCont
   refine two_ (i := 0) (j := 6) (Ni := some 35) (Nj := some 41) #[true, true, true, true, false, true, false, false, true, true, true, false, false] #[false, true, true, true, false, true, true, false, true, true, true, false, false] rfl rfl rfl rfl (two_of HT_.out (by kernel_rfl)) (by decide) (by decide) (fun K hK => ?_) (fun K hK => ?_)
   ·skip
    refine Kd.R_lit_step (Kd.int .i64) _ 3 ?hg (N := 35) ?hd (xs := ([] : List Int)) (inner := []) (ok := fun _ => True) (okp := fun _ => True) ?hr ?hp (fun _ hk => hk) trivial (Below.refl _ _) (Nat.le_refl _) (by simp) ?_; (case hd => rfl); (case hg => rfl); (case hr => first | (go_simp; done) | (go_simp; rfl)); (case hp => exact (Reps.none _ _))
    intro v671 w14 ho15 hb hg_ hnew_
    clear hg_ hnew_
    (first | rw [← Ny670.out] at ho15 | (simp only [Int.reduceToNat] at ho15; rw [← Ny670.out] at ho15))
    have _ := Q_ (Kd.R_lower ho15 (below_size (pb_ HB.out)))
    have _ := Q_ (below_step (pb_ HB.out) hb)
    clear HB
    rename_i HO672 HB
    clear hb ho15
    refine hK.out _ _ trivial (fun hHeld => ?_)
    clear hK K
    refine no_ (some 35) ?_
    refine two_ (i := 4) (j := 6) (Ni := some 39) (Nj := some 41) #[true, true, true, true, true, true, false, false, true, true, true, false, false] #[true, true, true, true, false, true, true, false, true, true, true, false, false] rfl rfl rfl rfl (two_of HT_.out (by kernel_rfl)) (by decide) (by decide) (fun K hK => ?_) (fun K hK => ?_)
    ·skip
     refine Kd.R_append_rows_step (Kd.int .i64) (w0 := w) w.heap.size (by rfl) (.tmp 35) (.tmp 38) 25 3 (.int .i64 0) 8 rfl Try.underlying25 info3 rfl (by decide) (by omega) v671 y670 (l0.take (x5_1 : Int).toNat) _ _ _ (fun _ => True) (fun _ => False) rfl rfl ?aO ?aR (fun _ _ h => h) (fun _ h => h.elim) ?aF ?aB ?aS ?aL ?_
     (case aR => first | ((conv => (arg 5; rw [← show (l0.take (x5_1 : Int).toNat).length = x5_1.toNat from (by rw [List.length_take]; have h_ : (x5_1 : Int) ≤ (l0.length : Int) := dt_; omega)])); exact cb_ HR673 HB) | (rw [← show (l0.take (x5_1 : Int).toNat).length = x5_1.toNat from (by rw [List.length_take]; have h_ : (x5_1 : Int) ≤ (l0.length : Int) := dt_; omega)]; exact cb_ HR673 HB) | (exact cb_ HR673 HB))
     (case aB => exact (pb_ HB.out))
     (case aF => exact (fun _ _ => trivial))
     (case aO => exact (pr_ HO672.out))
     (case aS => exact (below_size (pb_ HB.out)))
     (case aL => have := LMc6.out; have hlx_ := (show (l0.take (x5_1 : Int).toNat).length = x5_1.toNat from (by rw [List.length_take]; have h_ : (x5_1 : Int) ≤ (l0.length : Int) := dt_; omega)); omega)
     intro v675 w16 ho hb hg hat
     rw [← Ny674.out] at ho
     have _ := Q_ (hb)
     have _ := Q_ (ho)
     clear HB HO672
     rename_i HB HO676
     clear ho hb hg hat
     refine hK.out _ _ trivial (fun hHeld => ?_)
     clear hK K
     refine no_ (some 39) ?_
     refine on_ 6 (some 41) (tm_ 13 1919) HT_ (fun K hK => ?_)
     refine Kd.R_lit_step (Kd.int .i64) _ 3 ?hg (N := 41) ?hd (xs := ([a1] : List Int)) (inner := [.int .i64 a1]) (ok := fun _ => True) (okp := fun _ => True) ?hr ?hp (fun _ hk => hk) trivial (Below.refl _ _) (Nat.le_refl _) (by simp) ?_; (case hd => rfl); (case hg => rfl); (case hr => first | (go_simp; done) | (go_simp; rfl)); (case hp => exact (Reps.one (show Kd.M (Kd.int .i64) _ _ _ a1 [.int .i64 a1] from rfl) (Reps.none _ _)))
     intro v678 w17 ho18 hb hg_ hnew_
     clear hg_ hnew_
     (first | rw [← Ny677.out] at ho18 | (simp only [Int.reduceToNat] at ho18; rw [← Ny677.out] at ho18))
     have _ := Q_ (Kd.R_elder' (pr_ HO676.out) (Kd.R_base ho18) hb)
     have _ := Q_ (Kd.R_lower (Kd.R_new' ho18 (Kd.R_lt (pr_ HO676.out))) (below_size (pb_ HB.out)))
     have _ := Q_ (below_step (pb_ HB.out) hb)
     clear HO676 HB
     rename_i HO676 HO679 HB
     clear hb ho18
     refine hK.out _ _ trivial (fun hHeld => ?_)
     clear hK K
     refine no_ (some 41) ?_
     exact norm_ (by simp only [putAll, Act.put, List.setIfInBounds_toArray, List.set_cons_zero, List.set_cons_succ]) (hCont (v671, v675, v678) _ ⟨(pr_ (Kd.R_mono HO676.out (fun _ hk => hk.2))), (pr_ (Kd.R_mono HO679.out (fun _ hk => hk.2))), (pb_ HB.out)⟩)
    ·skip
     refine Kd.R_lit_step (Kd.int .i64) _ 3 ?hg (N := 41) ?hd (xs := ([a1] : List Int)) (inner := [.int .i64 a1]) (ok := fun _ => True) (okp := fun _ => True) ?hr ?hp (fun _ hk => hk) trivial (Below.refl _ _) (Nat.le_refl _) (by simp) ?_; (case hd => rfl); (case hg => rfl); (case hr => first | (go_simp; done) | (go_simp; rfl)); (case hp => exact (Reps.one (show Kd.M (Kd.int .i64) _ _ _ a1 [.int .i64 a1] from rfl) (Reps.none _ _)))
     intro v678 w16 ho17 hb hg_ hnew_
     clear hg_ hnew_
     (first | rw [← Ny677.out] at ho17 | (simp only [Int.reduceToNat] at ho17; rw [← Ny677.out] at ho17))
     have _ := Q_ (Kd.R_elder' (pr_ HO672.out) (Kd.R_base ho17) hb)
     have _ := Q_ (Kd.R_lower (Kd.R_new' ho17 (Kd.R_lt (pr_ HO672.out))) (below_size (pb_ HB.out)))
     have _ := Q_ (below_step (pb_ HB.out) hb)
     clear HO672 HB
     rename_i HO672 HO679 HB
     clear hb ho17
     refine hK.out _ _ trivial (fun hHeld => ?_)
     clear hK K
     refine no_ (some 41) ?_
     refine on_ 4 (some 39) (tm_ 13 1919) HT_ (fun K hK => ?_)
     refine Kd.R_append_rows_step (Kd.int .i64) (w0 := w) w.heap.size (by rfl) (.tmp 35) (.tmp 38) 25 3 (.int .i64 0) 8 rfl Try.underlying25 info3 rfl (by decide) (by omega) v671 y670 (l0.take (x5_1 : Int).toNat) _ _ _ (fun k_ => some k_ ≠ (v678 : Value).ownBlock) (fun _ => False) rfl rfl ?aO ?aR (fun _ _ h => h) (fun _ h => h.elim) ?aF ?aB ?aS ?aL ?_
     (case aR => first | ((conv => (arg 5; rw [← show (l0.take (x5_1 : Int).toNat).length = x5_1.toNat from (by rw [List.length_take]; have h_ : (x5_1 : Int) ≤ (l0.length : Int) := dt_; omega)])); exact cb_ HR673 HB) | (rw [← show (l0.take (x5_1 : Int).toNat).length = x5_1.toNat from (by rw [List.length_take]; have h_ : (x5_1 : Int) ≤ (l0.length : Int) := dt_; omega)]; exact cb_ HR673 HB) | (exact cb_ HR673 HB))
     (case aB => exact (pb_ HB.out))
     (case aF => exact (fun k_ hk => Kd.fresh' (Kd.R_lt (pr_ HO679.out)) k_ hk))
     (case aO => exact (pr_ (Kd.R_mono HO672.out (fun _ hk => hk.2))))
     (case aS => exact (below_size (pb_ HB.out)))
     (case aL => have := LMc6.out; have hlx_ := (show (l0.take (x5_1 : Int).toNat).length = x5_1.toNat from (by rw [List.length_take]; have h_ : (x5_1 : Int) ≤ (l0.length : Int) := dt_; omega)); omega)
     intro v675 w18 ho hb hg hat
     rw [← Ny674.out] at ho
     have _ := Q_ (Kd.R_after (ok := (fun _ => True)) (pr_ HO679.out) hg hat)
     have _ := Q_ (hb)
     have _ := Q_ (ho)
     clear HO679 HB HO672
     rename_i HO679 HB HO676
     clear ho hb hg hat
     refine hK.out _ _ trivial (fun hHeld => ?_)
     clear hK K
     refine no_ (some 39) ?_
     exact norm_ (by simp only [putAll, Act.put, List.setIfInBounds_toArray, List.set_cons_zero, List.set_cons_succ]) (hCont (v671, v675, v678) _ ⟨(pr_ HO676.out), (pr_ (Kd.R_mono HO679.out (fun _ hk => hk.2))), (pb_ HB.out)⟩)
   ·skip
    refine Kd.R_lit_step (Kd.int .i64) _ 3 ?hg (N := 41) ?hd (xs := ([a1] : List Int)) (inner := [.int .i64 a1]) (ok := fun _ => True) (okp := fun _ => True) ?hr ?hp (fun _ hk => hk) trivial (Below.refl _ _) (Nat.le_refl _) (by simp) ?_; (case hd => rfl); (case hg => rfl); (case hr => first | (go_simp; done) | (go_simp; rfl)); (case hp => exact (Reps.one (show Kd.M (Kd.int .i64) _ _ _ a1 [.int .i64 a1] from rfl) (Reps.none _ _)))
    intro v678 w14 ho15 hb hg_ hnew_
    clear hg_ hnew_
    (first | rw [← Ny677.out] at ho15 | (simp only [Int.reduceToNat] at ho15; rw [← Ny677.out] at ho15))
    have _ := Q_ (Kd.R_lower ho15 (below_size (pb_ HB.out)))
    have _ := Q_ (below_step (pb_ HB.out) hb)
    clear HB
    rename_i HO679 HB
    clear hb ho15
    refine hK.out _ _ trivial (fun hHeld => ?_)
    clear hK K
    refine no_ (some 41) ?_
    refine on_ 0 (some 35) (tm_ 13 1903) HT_ (fun K hK => ?_)
    refine Kd.R_lit_step (Kd.int .i64) _ 3 ?hg (N := 35) ?hd (xs := ([] : List Int)) (inner := []) (ok := fun _ => True) (okp := fun _ => True) ?hr ?hp (fun _ hk => hk) trivial (Below.refl _ _) (Nat.le_refl _) (by simp) ?_; (case hd => rfl); (case hg => rfl); (case hr => first | (go_simp; done) | (go_simp; rfl)); (case hp => exact (Reps.none _ _))
    intro v671 w16 ho17 hb hg_ hnew_
    clear hg_ hnew_
    (first | rw [← Ny670.out] at ho17 | (simp only [Int.reduceToNat] at ho17; rw [← Ny670.out] at ho17))
    have _ := Q_ (Kd.R_elder' (pr_ HO679.out) (Kd.R_base ho17) hb)
    have _ := Q_ (Kd.R_lower (Kd.R_new' ho17 (Kd.R_lt (pr_ HO679.out))) (below_size (pb_ HB.out)))
    have _ := Q_ (below_step (pb_ HB.out) hb)
    clear HO679 HB
    rename_i HO679 HO672 HB
    clear hb ho17
    refine hK.out _ _ trivial (fun hHeld => ?_)
    clear hK K
    refine no_ (some 35) ?_
    refine on_ 4 (some 39) (tm_ 13 1919) HT_ (fun K hK => ?_)
    refine Kd.R_append_rows_step (Kd.int .i64) (w0 := w) w.heap.size (by rfl) (.tmp 35) (.tmp 38) 25 3 (.int .i64 0) 8 rfl Try.underlying25 info3 rfl (by decide) (by omega) v671 y670 (l0.take (x5_1 : Int).toNat) _ _ _ (fun k_ => some k_ ≠ (v678 : Value).ownBlock) (fun _ => False) rfl rfl ?aO ?aR (fun _ _ h => h) (fun _ h => h.elim) ?aF ?aB ?aS ?aL ?_
    (case aR => first | ((conv => (arg 5; rw [← show (l0.take (x5_1 : Int).toNat).length = x5_1.toNat from (by rw [List.length_take]; have h_ : (x5_1 : Int) ≤ (l0.length : Int) := dt_; omega)])); exact cb_ HR673 HB) | (rw [← show (l0.take (x5_1 : Int).toNat).length = x5_1.toNat from (by rw [List.length_take]; have h_ : (x5_1 : Int) ≤ (l0.length : Int) := dt_; omega)]; exact cb_ HR673 HB) | (exact cb_ HR673 HB))
    (case aB => exact (pb_ HB.out))
    (case aF => exact (fun k_ hk => Kd.fresh' (Kd.R_lt (pr_ HO679.out)) k_ hk))
    (case aO => exact (pr_ (Kd.R_mono HO672.out (fun _ hk => hk.2))))
    (case aS => exact (below_size (pb_ HB.out)))
    (case aL => have := LMc6.out; have hlx_ := (show (l0.take (x5_1 : Int).toNat).length = x5_1.toNat from (by rw [List.length_take]; have h_ : (x5_1 : Int) ≤ (l0.length : Int) := dt_; omega)); omega)
    intro v675 w18 ho hb hg hat
    rw [← Ny674.out] at ho
    have _ := Q_ (Kd.R_after (ok := (fun _ => True)) (pr_ HO679.out) hg hat)
    have _ := Q_ (hb)
    have _ := Q_ (ho)
    clear HO679 HB HO672
    rename_i HO679 HB HO676
    clear ho hb hg hat
    refine hK.out _ _ trivial (fun hHeld => ?_)
    clear hK K
    refine no_ (some 39) ?_
    exact norm_ (by simp only [putAll, Act.put, List.setIfInBounds_toArray, List.set_cons_zero, List.set_cons_succ]) (hCont (v671, v675, v678) _ ⟨(pr_ HO676.out), (pr_ (Kd.R_mono HO679.out (fun _ hk => hk.2))), (pb_ HB.out)⟩)
  rintro ⟨v671, v675, v678⟩ w19 ⟨h0_, h1_, h2_⟩
  have n0_ : Aside0 (Kd.R (Kd.int .i64) 3 w19 w.heap.size (fun k_ => some k_ ≠ (v678 : Value).ownBlock) v675 y674) := ⟨h0_⟩
  have n1_ : Aside0 (Kd.R (Kd.int .i64) 3 w19 w.heap.size (fun k_ => some k_ ≠ (v675 : Value).ownBlock) v678 y677) := ⟨h1_⟩
  have n2_ : Aside0 (Below w.heap.size w w19) := ⟨h2_⟩
  clear HB
  clear h0_ h1_ h2_
  have HO676 := n0_
  have HO679 := n1_
  have HB := n2_
  clear n0_ n1_ n2_
  have hHeld := trivial
  obtain ⟨Ao21, co21, eo21⟩ := Kd.R_slice HO679.out
  (first | subst eo21 | (injection eo21 with f1_ f2_ f3_; have f4_ := f1_.symm; have f5_ := f3_.symm; clear f1_ f2_ f3_; subst f4_; subst f5_))
  refine norm_ (a' := ?_) ?_ ?_
  rotate_left
  ·simp only [putAll, Act.put, List.setIfInBounds_toArray, List.set_cons_zero, List.set_cons_succ]
   rfl
  refine on_ 7 (some 42) (tf_ 11 13) HT_ (fun K hK => ?_)
  refine Kd.R_append_rows_step (Kd.int .i64) (w0 := w) w.heap.size (by rfl) (.tmp 39) (.tmp 41) 25 3 (.int .i64 0) 8 rfl Try.underlying25 info3 rfl (by decide) (by omega) v675 y674 y677 _ _ _ (fun k_ => some k_ ≠ (.slice Ao21 y677.length co21 : Value).ownBlock) (fun _ => False) rfl rfl ?aO ?aR (fun _ _ h => h) (fun _ h => h.elim) ?aF ?aB ?aS ?aL ?_
  (case aR => exact pc_ ((Kd.R_reads' HO679.out).2.2))
  (case aB => exact (pb_ HB.out))
  (case aF => exact (fun k_ hk => Kd.fresh' (Kd.R_lt (pr_ HO679.out)) k_ hk))
  (case aO => exact (pr_ HO676.out))
  (case aS => exact (below_size (pb_ HB.out)))
  (case aL => have := LMc7.out; omega)
  intro v681 w20 ho hb hg hat
  rw [← Ny680.out] at ho
  have _ := Q_ (Kd.R_after (ok := (fun _ => True)) (by (with_reducible repeat (first | apply Kd.R_alloc | apply Kd.R_drewN | apply Kd.R_drew)); exact Kd.R_mono HO679.out (fun _ hk => ⟨trivial, hk⟩)) hg hat)
  have _ := Q_ (hb)
  have _ := Q_ (ho)
  clear HO679 HB HO676
  rename_i HO679 HB HO682
  clear ho hb hg hat
  refine hK.out _ _ trivial (fun hHeld => ?_)
  clear hK K
  refine no_ (some 42) ?_
  refine on_ 11 (some 46) (tf_ 12 13) HT_ (fun K hK => ?_)
  refine Kd.R_append_rows_step (Kd.int .i64) (w0 := w) w.heap.size (by rfl) (.tmp 42) (.tmp 45) 25 3 (.int .i64 0) 8 rfl Try.underlying25 info3 rfl (by decide) (by omega) v681 y680 (l0.drop (x5_1 : Int).toNat) _ _ _ (fun k_ => some k_ ≠ (.slice Ao21 y677.length co21 : Value).ownBlock) (fun _ => False) rfl rfl ?aO ?aR (fun _ _ h => h) (fun _ h => h.elim) ?aF ?aB ?aS ?aL ?_
  (case aR => first | ((conv => (arg 5; rw [← show (l0.drop (x5_1 : Int).toNat).length = (l0.length - x5_1.toNat) from List.length_drop])); exact cb_ HR683 HB) | (rw [← show (l0.drop (x5_1 : Int).toNat).length = (l0.length - x5_1.toNat) from List.length_drop]; exact cb_ HR683 HB) | (exact cb_ HR683 HB))
  (case aB => exact (pb_ HB.out))
  (case aF => exact (fun k_ hk => Kd.fresh' (Kd.R_lt (pr_ HO679.out)) k_ hk))
  (case aO => exact (pr_ HO682.out))
  (case aS => exact (below_size (pb_ HB.out)))
  (case aL => have := LMc10.out; have hlx_ := (show (l0.drop (x5_1 : Int).toNat).length = (l0.length - x5_1.toNat) from List.length_drop); omega)
  intro v685 w22 ho hb hg hat
  rw [← Ny684.out] at ho
  have _ := Q_ (Kd.R_after (ok := (fun _ => True)) (pr_ HO679.out) hg hat)
  have _ := Q_ (hb)
  have _ := Q_ (ho)
  clear HO679 HB HO682
  rename_i HO679 HB HO686
  clear ho hb hg hat
  refine hK.out _ _ trivial (fun hHeld => ?_)
  clear hK K
  refine no_ (some 46) ?_
  refine pu_ 12 (some 4) (tf_ 13 13) HT_ ?_
  refine done_ (done_of HT_.out (by kernel_rfl)) ?_
  try go_wp2
  go_ret
  exact ⟨_, er_, pr_ (Kd.R_mono HO686.out (fun _ hk => trivial)), pb_ HB.out⟩
 rw [if_pos c3] at H
 have c3b0 : decide (x5_1 < (l0.length : Int)) = true := decide_eq_true c3
 clear c3
 by_cases c23 : 0 ≤ x5_1
 rotate_left
 ·rw [if_neg c23] at H
  exact absurd H (by simp)
 rw [if_pos c23] at H
 have c23b0 : decide (0 ≤ x5_1) = true := decide_eq_true c23
 clear c23
 by_cases c24 : (rd l0 x5_1) < a1
 ·rw [if_pos c24] at H
  have c24b0 : decide ((rd l0 x5_1) < a1) = true := decide_eq_true c24
  clear c24
  have H' := Q_ H
  clear H
  have p645 : 0 ≤ (x5_1 : Int) := dt_
  have q645 : x5_1 < (l0.length : Int) := dt_
  obtain ⟨ad645, e645, hx645_0⟩ := Kd.at_int HR0.out x5_1 p645 q645
  cases e645
  replace hx645_0 := bt_ HB hx645_0
  replace p645 := eq_true p645
  replace q645 := eq_true q645
  go_wp2
  go_roundg k1
  case measure => have := HK1.out; omega
  case rel => exact ⟨(wrap64 (x5_1 + 1)), el_, H', ⟨by have := HK1.out; omega⟩, ⟨pb_ HB.out⟩⟩
 rw [if_neg c24] at H
 have c24b0 : decide ((rd l0 x5_1) < a1) = false := decide_eq_false c24
 clear c24
 by_cases c25 : (rd l0 x5_1) = a1
 ·rw [if_pos c25] at H
  have c25b0 : ((rd l0 x5_1) == a1) = true := beq_iff_eq.mpr c25
  have c25b1 : ((rd l0 x5_1) != a1) = false := bne_eq_false_iff_eq.mpr c25
  clear c25
  obtain ⟨y647, hy647⟩ : ∃ y_ : List Int, y_ = (([] : List Int)) := ⟨_, rfl⟩
  replace H : (if y647.length + l0.length < 17592186044416 then (some (y647 ++ l0)) else (none)) = some r := hb_ hy647 H
  have Ny647 := Q_ hy647
  clear hy647
  by_cases c26 : y647.length + l0.length < 17592186044416
  rotate_left
  ·rw [if_neg c26] at H
   exact absurd H (by simp)
  rw [if_pos c26] at H
  have LMc26 := Q_ c26
  clear c26
  obtain ⟨y650, hy650⟩ : ∃ y_ : List Int, y_ = (y647 ++ l0) := ⟨_, rfl⟩
  replace H : (some y650) = some r := hb_ hy650 H
  have Ny650 := Q_ hy650
  clear hy650
  obtain rfl := Option.some.inj H
  have p645 : 0 ≤ (x5_1 : Int) := dt_
  have q645 : x5_1 < (l0.length : Int) := dt_
  obtain ⟨ad645, e645, hx645_0⟩ := Kd.at_int HR0.out x5_1 p645 q645
  cases e645
  replace hx645_0 := bt_ HB hx645_0
  replace p645 := eq_true p645
  replace q645 := eq_true q645
  have p646 : 0 ≤ (x5_1 : Int) := dt_
  have q646 : x5_1 < (l0.length : Int) := dt_
  obtain ⟨ad646, e646, hx646_0⟩ := Kd.at_int HR0.out x5_1 p646 q646
  obtain rfl : ad645 = ad646 := (by injection e646)
  replace hx646_0 := bt_ HB hx646_0
  replace p646 := eq_true p646
  replace q646 := eq_true q646
  go_wp2_with (first | ((with_reducible refine gate_dst (N := 32) rfl ?_); refine Kd.R_lit (Kd.int .i64) _ 3 ?hg (N := 32) ?hd (xs := ([] : List Int)) (inner := []) (ok := fun _ => True) (okp := fun _ => True) ?hr ?hp (fun _ hk => hk) trivial (Below.refl _ _) (Nat.le_refl _) (by simp) ?_; (case hd => rfl); (case hg => rfl); (case hr => first | (go_simp; done) | (go_simp; rfl)); (case hp => exact (Reps.none _ _)); intro v648 w27 ho28 hb hg_ hnew_; clear hg_ hnew_; (first | rw [← Ny647.out] at ho28 | (simp only [Int.reduceToNat] at ho28; rw [← Ny647.out] at ho28)); have _ := Q_ (Kd.R_lower ho28 (below_size (pb_ HB.out))); have _ := Q_ (below_step (pb_ HB.out) hb); clear HB; rename_i HO649 HB; clear hb ho28) | ((with_reducible refine gate_builtin (b := .append) (xs := #[.tmp 32, .tmp 33]) rfl ?_); at_builtin; refine Kd.R_append_rows (Kd.int .i64) (w0 := w) w.heap.size rfl (.tmp 32) (.tmp 33) 25 3 (.int .i64 0) 8 rfl Try.underlying25 info3 rfl (by decide) (by omega) v648 y647 l0 _ _ _ (fun _ => True) (fun _ => False) rfl rfl ?aO ?aR (fun _ _ h => h) (fun _ h => h.elim) ?aF ?aB ?aS ?aL ?_; (case aR => exact cb_ HR0 HB); (case aB => exact (pb_ HB.out)); (case aF => exact (fun _ _ => trivial)); (case aO => exact (pr_ HO649.out)); (case aS => exact (below_size (pb_ HB.out))); (case aL => have := LMc26.out; omega); intro v651 w29 ho hb hg hat; rw [← Ny650.out] at ho; have _ := Q_ (hb); have _ := Q_ (ho); clear HB HO649; rename_i HB HO652; clear ho hb hg hat))
  go_ret
  exact ⟨_, er_, pr_ HO652.out, pb_ HB.out⟩
 rw [if_neg c25] at H
 have c25b0 : ((rd l0 x5_1) == a1) = false := beq_eq_false_iff_ne.mpr c25
 have c25b1 : ((rd l0 x5_1) != a1) = true := bne_iff_ne.mpr c25
 obtain ⟨y653, hy653⟩ : ∃ y_ : List Int, y_ = (([] : List Int)) := ⟨_, rfl⟩
 replace H : (if x5_1 ≤ (l0.length : Int) then (if y653.length + (l0.take (x5_1 : Int).toNat).length < 17592186044416 then ((some (y653 ++ (l0.take (x5_1 : Int).toNat) : List Int)).bind fun y657 => ((some (([a1] : List Int) : List Int)).bind fun y660 => (if y657.length + y660.length < 17592186044416 then ((some (y657 ++ y660 : List Int)).bind fun y663 => (if y663.length + (l0.drop (x5_1 : Int).toNat).length < 17592186044416 then (some (y663 ++ (l0.drop (x5_1 : Int).toNat))) else (none))) else (none)))) else (none)) else (none)) = some r := hb_ hy653 H
 have Ny653 := Q_ hy653
 clear hy653
 have c30b0 := eq_true (dt_ : 0 ≤ x5_1)
 by_cases c31 : x5_1 ≤ (l0.length : Int)
 rotate_left
 ·rw [if_neg c31] at H
  exact absurd H (by simp)
 rw [if_pos c31] at H
 have c31b0 := eq_true c31
 have c31b1 : decide (x5_1 ≤ (l0.length : Int)) = true := decide_eq_true c31
 clear c31
 by_cases c32 : y653.length + (l0.take (x5_1 : Int).toNat).length < 17592186044416
 rotate_left
 ·rw [if_neg c32] at H
  exact absurd H (by simp)
 rw [if_pos c32] at H
 have LMc32 := Q_ c32
 clear c32
 obtain ⟨y657, hy657⟩ : ∃ y_ : List Int, y_ = (y653 ++ (l0.take (x5_1 : Int).toNat)) := ⟨_, rfl⟩
 replace H : ((some (([a1] : List Int) : List Int)).bind fun y660 => (if y657.length + y660.length < 17592186044416 then ((some (y657 ++ y660 : List Int)).bind fun y663 => (if y663.length + (l0.drop (x5_1 : Int).toNat).length < 17592186044416 then (some (y663 ++ (l0.drop (x5_1 : Int).toNat))) else (none))) else (none))) = some r := hb_ hy657 H
 have Ny657 := Q_ hy657
 clear hy657
 obtain ⟨y660, hy660⟩ : ∃ y_ : List Int, y_ = (([a1] : List Int)) := ⟨_, rfl⟩
 replace H : (if y657.length + y660.length < 17592186044416 then ((some (y657 ++ y660 : List Int)).bind fun y663 => (if y663.length + (l0.drop (x5_1 : Int).toNat).length < 17592186044416 then (some (y663 ++ (l0.drop (x5_1 : Int).toNat))) else (none))) else (none)) = some r := hb_ hy660 H
 have Ny660 := Q_ hy660
 clear hy660
 by_cases c33 : y657.length + y660.length < 17592186044416
 rotate_left
 ·rw [if_neg c33] at H
  exact absurd H (by simp)
 rw [if_pos c33] at H
 have LMc33 := Q_ c33
 clear c33
 obtain ⟨y663, hy663⟩ : ∃ y_ : List Int, y_ = (y657 ++ y660) := ⟨_, rfl⟩
 replace H : (if y663.length + (l0.drop (x5_1 : Int).toNat).length < 17592186044416 then (some (y663 ++ (l0.drop (x5_1 : Int).toNat))) else (none)) = some r := hb_ hy663 H
 have Ny663 := Q_ hy663
 clear hy663
 have c34b0 := eq_true (dt_ : 0 ≤ x5_1)
 have c35b0 := eq_true (dt_ : x5_1 ≤ (l0.length : Int))
 by_cases c36 : y663.length + (l0.drop (x5_1 : Int).toNat).length < 17592186044416
 rotate_left
 ·rw [if_neg c36] at H
  exact absurd H (by simp)
 rw [if_pos c36] at H
 have LMc36 := Q_ c36
 clear c36
 obtain ⟨y667, hy667⟩ : ∃ y_ : List Int, y_ = (y663 ++ (l0.drop (x5_1 : Int).toNat)) := ⟨_, rfl⟩
 replace H : (some y667) = some r := hb_ hy667 H
 have Ny667 := Q_ hy667
 clear hy667
 obtain rfl := Option.some.inj H
 have p645 : 0 ≤ (x5_1 : Int) := dt_
 have q645 : x5_1 < (l0.length : Int) := dt_
 obtain ⟨ad645, e645, hx645_0⟩ := Kd.at_int HR0.out x5_1 p645 q645
 cases e645
 replace hx645_0 := bt_ HB hx645_0
 replace p645 := eq_true p645
 replace q645 := eq_true q645
 have p646 : 0 ≤ (x5_1 : Int) := dt_
 have q646 : x5_1 < (l0.length : Int) := dt_
 obtain ⟨ad646, e646, hx646_0⟩ := Kd.at_int HR0.out x5_1 p646 q646
 obtain rfl : ad645 = ad646 := (by injection e646)
 replace hx646_0 := bt_ HB hx646_0
 replace p646 := eq_true p646
 replace q646 := eq_true q646
 try go_wp2
 have _ := Q_ (below_drew1 HB.out)
 clear HB
 rename_i HB
 obtain ⟨i038, hi038, _, hsz38, _⟩ := info_parts info3
 obtain ⟨hcut38, hA38, hC38⟩ := print_take_of (P := Try.prog) (Value.int .i64) 0 25 3 .i64 Try.underlying25 hi038 hsz38 (some ad645) c0 l0 x5_1 dt_ dt_ HC0.out
 have HR656 := Q_ (Kd.C_of_reads (h1 := fun _ => rfl) (hA38 _ (Kd.reads_of_C HR0.out)))
 have HC656 := Q_ hC38
 clear hA38 hC38 hi038 hsz38
 obtain ⟨i039, hi039, _, hsz39, _⟩ := info_parts info3
 obtain ⟨A39, hcut39, hA39, hC39⟩ := print_drop_of (P := Try.prog) (Value.int .i64) 0 25 3 .i64 Try.underlying25 hi039 hsz39 (some ad645) c0 l0 x5_1 dt_ dt_ HC0.out
 have HR666 := Q_ (Kd.C_of_reads (h1 := fun _ => rfl) (hA39 _ (Kd.reads_of_C HR0.out)))
 have HC666 := Q_ hC39
 clear hA39 hC39 hi039 hsz39
 refine start_ (n := 13) (S := fun w' => True) (ds := []) (tf_ 0 13) (by kernel_rfl) rfl rfl trivial (fun hHeld => ?_); refine with_tabW spec_l4Put.tab6 spec_l4Put.bits6 (fun HT_ HW_ => ?_)
 generalize wr.drew = w37 at HB HR656 HR666 hHeld ⊢
 refine pu_ 1 (some 36) (tm_ 13 2) HT_ ?_
 refine pu_ 2 (some 37) (tm_ 13 6) HT_ ?_
 refine pu_ 3 (some 38) (tm_ 13 14) HT_ ?_
 refine pu_ 5 (some 40) (tm_ 13 46) HT_ ?_
 refine pu_ 8 (some 43) (tm_ 13 302) HT_ ?_
 refine pu_ 9 (some 44) (tm_ 13 814) HT_ ?_
 refine pu_ 10 (some 45) (tm_ 13 1838) HT_ ?_
 refine join_ (σ := Value × Value × Value) 3 #[true, true, true, true, true, true, true, false, true, true, true, false, false] (fun s_ => [(35, s_.1), (39, s_.2.1), (41, s_.2.2)]) (fun s_ w' => (Kd.R (Kd.int .i64) 3 w' w.heap.size (fun k_ => some k_ ≠ (s_.2.2 : Value).ownBlock) s_.2.1 y657) ∧ (Kd.R (Kd.int .i64) 3 w' w.heap.size (fun k_ => some k_ ≠ (s_.2.1 : Value).ownBlock) s_.2.2 y660) ∧ (Below w.heap.size w w')) ?_ ?_
 rotate_left
 ·intro hCont
  refine two_ (i := 0) (j := 6) (Ni := some 35) (Nj := some 41) #[true, true, true, true, false, true, false, false, true, true, true, false, false] #[false, true, true, true, false, true, true, false, true, true, true, false, false] rfl rfl rfl rfl (two_of HT_.out (by kernel_rfl)) (by decide) (by decide) (fun K hK => ?_) (fun K hK => ?_)
  ·skip
   refine Kd.R_lit_step (Kd.int .i64) _ 3 ?hg (N := 35) ?hd (xs := ([] : List Int)) (inner := []) (ok := fun _ => True) (okp := fun _ => True) ?hr ?hp (fun _ hk => hk) trivial (Below.refl _ _) (Nat.le_refl _) (by simp) ?_; (case hd => rfl); (case hg => rfl); (case hr => first | (go_simp; done) | (go_simp; rfl)); (case hp => exact (Reps.none _ _))
   intro v654 w40 ho41 hb hg_ hnew_
   clear hg_ hnew_
   (first | rw [← Ny653.out] at ho41 | (simp only [Int.reduceToNat] at ho41; rw [← Ny653.out] at ho41))
   have _ := Q_ (Kd.R_lower ho41 (below_size (pb_ HB.out)))
   have _ := Q_ (below_step (pb_ HB.out) hb)
   clear HB
   rename_i HO655 HB
   clear hb ho41
   refine hK.out _ _ trivial (fun hHeld => ?_)
   clear hK K
   refine no_ (some 35) ?_
   refine two_ (i := 4) (j := 6) (Ni := some 39) (Nj := some 41) #[true, true, true, true, true, true, false, false, true, true, true, false, false] #[true, true, true, true, false, true, true, false, true, true, true, false, false] rfl rfl rfl rfl (two_of HT_.out (by kernel_rfl)) (by decide) (by decide) (fun K hK => ?_) (fun K hK => ?_)
   ·skip
    refine Kd.R_append_rows_step (Kd.int .i64) (w0 := w) w.heap.size (by rfl) (.tmp 35) (.tmp 38) 25 3 (.int .i64 0) 8 rfl Try.underlying25 info3 rfl (by decide) (by omega) v654 y653 (l0.take (x5_1 : Int).toNat) _ _ _ (fun _ => True) (fun _ => False) rfl rfl ?aO ?aR (fun _ _ h => h) (fun _ h => h.elim) ?aF ?aB ?aS ?aL ?_
    (case aR => first | ((conv => (arg 5; rw [← show (l0.take (x5_1 : Int).toNat).length = x5_1.toNat from (by rw [List.length_take]; have h_ : (x5_1 : Int) ≤ (l0.length : Int) := dt_; omega)])); exact cb_ HR656 HB) | (rw [← show (l0.take (x5_1 : Int).toNat).length = x5_1.toNat from (by rw [List.length_take]; have h_ : (x5_1 : Int) ≤ (l0.length : Int) := dt_; omega)]; exact cb_ HR656 HB) | (exact cb_ HR656 HB))
    (case aB => exact (pb_ HB.out))
    (case aF => exact (fun _ _ => trivial))
    (case aO => exact (pr_ HO655.out))
    (case aS => exact (below_size (pb_ HB.out)))
    (case aL => have := LMc32.out; have hlx_ := (show (l0.take (x5_1 : Int).toNat).length = x5_1.toNat from (by rw [List.length_take]; have h_ : (x5_1 : Int) ≤ (l0.length : Int) := dt_; omega)); omega)
    intro v658 w42 ho hb hg hat
    rw [← Ny657.out] at ho
    have _ := Q_ (hb)
    have _ := Q_ (ho)
    clear HB HO655
    rename_i HB HO659
    clear ho hb hg hat
    refine hK.out _ _ trivial (fun hHeld => ?_)
    clear hK K
    refine no_ (some 39) ?_
    refine on_ 6 (some 41) (tm_ 13 1919) HT_ (fun K hK => ?_)
    refine Kd.R_lit_step (Kd.int .i64) _ 3 ?hg (N := 41) ?hd (xs := ([a1] : List Int)) (inner := [.int .i64 a1]) (ok := fun _ => True) (okp := fun _ => True) ?hr ?hp (fun _ hk => hk) trivial (Below.refl _ _) (Nat.le_refl _) (by simp) ?_; (case hd => rfl); (case hg => rfl); (case hr => first | (go_simp; done) | (go_simp; rfl)); (case hp => exact (Reps.one (show Kd.M (Kd.int .i64) _ _ _ a1 [.int .i64 a1] from rfl) (Reps.none _ _)))
    intro v661 w43 ho44 hb hg_ hnew_
    clear hg_ hnew_
    (first | rw [← Ny660.out] at ho44 | (simp only [Int.reduceToNat] at ho44; rw [← Ny660.out] at ho44))
    have _ := Q_ (Kd.R_elder' (pr_ HO659.out) (Kd.R_base ho44) hb)
    have _ := Q_ (Kd.R_lower (Kd.R_new' ho44 (Kd.R_lt (pr_ HO659.out))) (below_size (pb_ HB.out)))
    have _ := Q_ (below_step (pb_ HB.out) hb)
    clear HO659 HB
    rename_i HO659 HO662 HB
    clear hb ho44
    refine hK.out _ _ trivial (fun hHeld => ?_)
    clear hK K
    refine no_ (some 41) ?_
    exact norm_ (by simp only [putAll, Act.put, List.setIfInBounds_toArray, List.set_cons_zero, List.set_cons_succ]) (hCont (v654, v658, v661) _ ⟨(pr_ (Kd.R_mono HO659.out (fun _ hk => hk.2))), (pr_ (Kd.R_mono HO662.out (fun _ hk => hk.2))), (pb_ HB.out)⟩)
   ·skip
    refine Kd.R_lit_step (Kd.int .i64) _ 3 ?hg (N := 41) ?hd (xs := ([a1] : List Int)) (inner := [.int .i64 a1]) (ok := fun _ => True) (okp := fun _ => True) ?hr ?hp (fun _ hk => hk) trivial (Below.refl _ _) (Nat.le_refl _) (by simp) ?_; (case hd => rfl); (case hg => rfl); (case hr => first | (go_simp; done) | (go_simp; rfl)); (case hp => exact (Reps.one (show Kd.M (Kd.int .i64) _ _ _ a1 [.int .i64 a1] from rfl) (Reps.none _ _)))
    intro v661 w42 ho43 hb hg_ hnew_
    clear hg_ hnew_
    (first | rw [← Ny660.out] at ho43 | (simp only [Int.reduceToNat] at ho43; rw [← Ny660.out] at ho43))
    have _ := Q_ (Kd.R_elder' (pr_ HO655.out) (Kd.R_base ho43) hb)
    have _ := Q_ (Kd.R_lower (Kd.R_new' ho43 (Kd.R_lt (pr_ HO655.out))) (below_size (pb_ HB.out)))
    have _ := Q_ (below_step (pb_ HB.out) hb)
    clear HO655 HB
    rename_i HO655 HO662 HB
    clear hb ho43
    refine hK.out _ _ trivial (fun hHeld => ?_)
    clear hK K
    refine no_ (some 41) ?_
    refine on_ 4 (some 39) (tm_ 13 1919) HT_ (fun K hK => ?_)
    refine Kd.R_append_rows_step (Kd.int .i64) (w0 := w) w.heap.size (by rfl) (.tmp 35) (.tmp 38) 25 3 (.int .i64 0) 8 rfl Try.underlying25 info3 rfl (by decide) (by omega) v654 y653 (l0.take (x5_1 : Int).toNat) _ _ _ (fun k_ => some k_ ≠ (v661 : Value).ownBlock) (fun _ => False) rfl rfl ?aO ?aR (fun _ _ h => h) (fun _ h => h.elim) ?aF ?aB ?aS ?aL ?_
    (case aR => first | ((conv => (arg 5; rw [← show (l0.take (x5_1 : Int).toNat).length = x5_1.toNat from (by rw [List.length_take]; have h_ : (x5_1 : Int) ≤ (l0.length : Int) := dt_; omega)])); exact cb_ HR656 HB) | (rw [← show (l0.take (x5_1 : Int).toNat).length = x5_1.toNat from (by rw [List.length_take]; have h_ : (x5_1 : Int) ≤ (l0.length : Int) := dt_; omega)]; exact cb_ HR656 HB) | (exact cb_ HR656 HB))
    (case aB => exact (pb_ HB.out))
    (case aF => exact (fun k_ hk => Kd.fresh' (Kd.R_lt (pr_ HO662.out)) k_ hk))
    (case aO => exact (pr_ (Kd.R_mono HO655.out (fun _ hk => hk.2))))
    (case aS => exact (below_size (pb_ HB.out)))
    (case aL => have := LMc32.out; have hlx_ := (show (l0.take (x5_1 : Int).toNat).length = x5_1.toNat from (by rw [List.length_take]; have h_ : (x5_1 : Int) ≤ (l0.length : Int) := dt_; omega)); omega)
    intro v658 w44 ho hb hg hat
    rw [← Ny657.out] at ho
    have _ := Q_ (Kd.R_after (ok := (fun _ => True)) (pr_ HO662.out) hg hat)
    have _ := Q_ (hb)
    have _ := Q_ (ho)
    clear HO662 HB HO655
    rename_i HO662 HB HO659
    clear ho hb hg hat
    refine hK.out _ _ trivial (fun hHeld => ?_)
    clear hK K
    refine no_ (some 39) ?_
    exact norm_ (by simp only [putAll, Act.put, List.setIfInBounds_toArray, List.set_cons_zero, List.set_cons_succ]) (hCont (v654, v658, v661) _ ⟨(pr_ HO659.out), (pr_ (Kd.R_mono HO662.out (fun _ hk => hk.2))), (pb_ HB.out)⟩)
  ·skip
   refine Kd.R_lit_step (Kd.int .i64) _ 3 ?hg (N := 41) ?hd (xs := ([a1] : List Int)) (inner := [.int .i64 a1]) (ok := fun _ => True) (okp := fun _ => True) ?hr ?hp (fun _ hk => hk) trivial (Below.refl _ _) (Nat.le_refl _) (by simp) ?_; (case hd => rfl); (case hg => rfl); (case hr => first | (go_simp; done) | (go_simp; rfl)); (case hp => exact (Reps.one (show Kd.M (Kd.int .i64) _ _ _ a1 [.int .i64 a1] from rfl) (Reps.none _ _)))
   intro v661 w40 ho41 hb hg_ hnew_
   clear hg_ hnew_
   (first | rw [← Ny660.out] at ho41 | (simp only [Int.reduceToNat] at ho41; rw [← Ny660.out] at ho41))
   have _ := Q_ (Kd.R_lower ho41 (below_size (pb_ HB.out)))
   have _ := Q_ (below_step (pb_ HB.out) hb)
   clear HB
   rename_i HO662 HB
   clear hb ho41
   refine hK.out _ _ trivial (fun hHeld => ?_)
   clear hK K
   refine no_ (some 41) ?_
   refine on_ 0 (some 35) (tm_ 13 1903) HT_ (fun K hK => ?_)
   refine Kd.R_lit_step (Kd.int .i64) _ 3 ?hg (N := 35) ?hd (xs := ([] : List Int)) (inner := []) (ok := fun _ => True) (okp := fun _ => True) ?hr ?hp (fun _ hk => hk) trivial (Below.refl _ _) (Nat.le_refl _) (by simp) ?_; (case hd => rfl); (case hg => rfl); (case hr => first | (go_simp; done) | (go_simp; rfl)); (case hp => exact (Reps.none _ _))
   intro v654 w42 ho43 hb hg_ hnew_
   clear hg_ hnew_
   (first | rw [← Ny653.out] at ho43 | (simp only [Int.reduceToNat] at ho43; rw [← Ny653.out] at ho43))
   have _ := Q_ (Kd.R_elder' (pr_ HO662.out) (Kd.R_base ho43) hb)
   have _ := Q_ (Kd.R_lower (Kd.R_new' ho43 (Kd.R_lt (pr_ HO662.out))) (below_size (pb_ HB.out)))
   have _ := Q_ (below_step (pb_ HB.out) hb)
   clear HO662 HB
   rename_i HO662 HO655 HB
   clear hb ho43
   refine hK.out _ _ trivial (fun hHeld => ?_)
   clear hK K
   refine no_ (some 35) ?_
   refine on_ 4 (some 39) (tm_ 13 1919) HT_ (fun K hK => ?_)
   refine Kd.R_append_rows_step (Kd.int .i64) (w0 := w) w.heap.size (by rfl) (.tmp 35) (.tmp 38) 25 3 (.int .i64 0) 8 rfl Try.underlying25 info3 rfl (by decide) (by omega) v654 y653 (l0.take (x5_1 : Int).toNat) _ _ _ (fun k_ => some k_ ≠ (v661 : Value).ownBlock) (fun _ => False) rfl rfl ?aO ?aR (fun _ _ h => h) (fun _ h => h.elim) ?aF ?aB ?aS ?aL ?_
   (case aR => first | ((conv => (arg 5; rw [← show (l0.take (x5_1 : Int).toNat).length = x5_1.toNat from (by rw [List.length_take]; have h_ : (x5_1 : Int) ≤ (l0.length : Int) := dt_; omega)])); exact cb_ HR656 HB) | (rw [← show (l0.take (x5_1 : Int).toNat).length = x5_1.toNat from (by rw [List.length_take]; have h_ : (x5_1 : Int) ≤ (l0.length : Int) := dt_; omega)]; exact cb_ HR656 HB) | (exact cb_ HR656 HB))
   (case aB => exact (pb_ HB.out))
   (case aF => exact (fun k_ hk => Kd.fresh' (Kd.R_lt (pr_ HO662.out)) k_ hk))
   (case aO => exact (pr_ (Kd.R_mono HO655.out (fun _ hk => hk.2))))
   (case aS => exact (below_size (pb_ HB.out)))
   (case aL => have := LMc32.out; have hlx_ := (show (l0.take (x5_1 : Int).toNat).length = x5_1.toNat from (by rw [List.length_take]; have h_ : (x5_1 : Int) ≤ (l0.length : Int) := dt_; omega)); omega)
   intro v658 w44 ho hb hg hat
   rw [← Ny657.out] at ho
   have _ := Q_ (Kd.R_after (ok := (fun _ => True)) (pr_ HO662.out) hg hat)
   have _ := Q_ (hb)
   have _ := Q_ (ho)
   clear HO662 HB HO655
   rename_i HO662 HB HO659
   clear ho hb hg hat
   refine hK.out _ _ trivial (fun hHeld => ?_)
   clear hK K
   refine no_ (some 39) ?_
   exact norm_ (by simp only [putAll, Act.put, List.setIfInBounds_toArray, List.set_cons_zero, List.set_cons_succ]) (hCont (v654, v658, v661) _ ⟨(pr_ HO659.out), (pr_ (Kd.R_mono HO662.out (fun _ hk => hk.2))), (pb_ HB.out)⟩)
 rintro ⟨v654, v658, v661⟩ w45 ⟨h0_, h1_, h2_⟩
 have n0_ : Aside0 (Kd.R (Kd.int .i64) 3 w45 w.heap.size (fun k_ => some k_ ≠ (v661 : Value).ownBlock) v658 y657) := ⟨h0_⟩
 have n1_ : Aside0 (Kd.R (Kd.int .i64) 3 w45 w.heap.size (fun k_ => some k_ ≠ (v658 : Value).ownBlock) v661 y660) := ⟨h1_⟩
 have n2_ : Aside0 (Below w.heap.size w w45) := ⟨h2_⟩
 clear HB
 clear h0_ h1_ h2_
 have HO659 := n0_
 have HO662 := n1_
 have HB := n2_
 clear n0_ n1_ n2_
 have hHeld := trivial
 obtain ⟨Ao47, co47, eo47⟩ := Kd.R_slice HO662.out
 (first | subst eo47 | (injection eo47 with f1_ f2_ f3_; have f4_ := f1_.symm; have f5_ := f3_.symm; clear f1_ f2_ f3_; subst f4_; subst f5_))
 refine norm_ (a' := ?_) ?_ ?_
 rotate_left
 ·simp only [putAll, Act.put, List.setIfInBounds_toArray, List.set_cons_zero, List.set_cons_succ]
  rfl
 refine on_ 7 (some 42) (tf_ 11 13) HT_ (fun K hK => ?_)
 refine Kd.R_append_rows_step (Kd.int .i64) (w0 := w) w.heap.size (by rfl) (.tmp 39) (.tmp 41) 25 3 (.int .i64 0) 8 rfl Try.underlying25 info3 rfl (by decide) (by omega) v658 y657 y660 _ _ _ (fun k_ => some k_ ≠ (.slice Ao47 y660.length co47 : Value).ownBlock) (fun _ => False) rfl rfl ?aO ?aR (fun _ _ h => h) (fun _ h => h.elim) ?aF ?aB ?aS ?aL ?_
 (case aR => exact pc_ ((Kd.R_reads' HO662.out).2.2))
 (case aB => exact (pb_ HB.out))
 (case aF => exact (fun k_ hk => Kd.fresh' (Kd.R_lt (pr_ HO662.out)) k_ hk))
 (case aO => exact (pr_ HO659.out))
 (case aS => exact (below_size (pb_ HB.out)))
 (case aL => have := LMc33.out; omega)
 intro v664 w46 ho hb hg hat
 rw [← Ny663.out] at ho
 have _ := Q_ (Kd.R_after (ok := (fun _ => True)) (by (with_reducible repeat (first | apply Kd.R_alloc | apply Kd.R_drewN | apply Kd.R_drew)); exact Kd.R_mono HO662.out (fun _ hk => ⟨trivial, hk⟩)) hg hat)
 have _ := Q_ (hb)
 have _ := Q_ (ho)
 clear HO662 HB HO659
 rename_i HO662 HB HO665
 clear ho hb hg hat
 refine hK.out _ _ trivial (fun hHeld => ?_)
 clear hK K
 refine no_ (some 42) ?_
 refine on_ 11 (some 46) (tf_ 12 13) HT_ (fun K hK => ?_)
 refine Kd.R_append_rows_step (Kd.int .i64) (w0 := w) w.heap.size (by rfl) (.tmp 42) (.tmp 45) 25 3 (.int .i64 0) 8 rfl Try.underlying25 info3 rfl (by decide) (by omega) v664 y663 (l0.drop (x5_1 : Int).toNat) _ _ _ (fun k_ => some k_ ≠ (.slice Ao47 y660.length co47 : Value).ownBlock) (fun _ => False) rfl rfl ?aO ?aR (fun _ _ h => h) (fun _ h => h.elim) ?aF ?aB ?aS ?aL ?_
 (case aR => first | ((conv => (arg 5; rw [← show (l0.drop (x5_1 : Int).toNat).length = (l0.length - x5_1.toNat) from List.length_drop])); exact cb_ HR666 HB) | (rw [← show (l0.drop (x5_1 : Int).toNat).length = (l0.length - x5_1.toNat) from List.length_drop]; exact cb_ HR666 HB) | (exact cb_ HR666 HB))
 (case aB => exact (pb_ HB.out))
 (case aF => exact (fun k_ hk => Kd.fresh' (Kd.R_lt (pr_ HO662.out)) k_ hk))
 (case aO => exact (pr_ HO665.out))
 (case aS => exact (below_size (pb_ HB.out)))
 (case aL => have := LMc36.out; have hlx_ := (show (l0.drop (x5_1 : Int).toNat).length = (l0.length - x5_1.toNat) from List.length_drop); omega)
 intro v668 w48 ho hb hg hat
 rw [← Ny667.out] at ho
 have _ := Q_ (Kd.R_after (ok := (fun _ => True)) (pr_ HO662.out) hg hat)
 have _ := Q_ (hb)
 have _ := Q_ (ho)
 clear HO662 HB HO665
 rename_i HO662 HB HO669
 clear ho hb hg hat
 refine hK.out _ _ trivial (fun hHeld => ?_)
 clear hK K
 refine no_ (some 46) ?_
 refine pu_ 12 (some 4) (tf_ 13 13) HT_ ?_
 refine done_ (done_of HT_.out (by kernel_rfl)) ?_
 try go_wp2
 go_ret
 exact ⟨_, er_, pr_ (Kd.R_mono HO669.out (fun _ hk => trivial)), pb_ HB.out⟩

/-! ### spec_l12Draw: function 42 -/
def spec_l12Draw.l0 : Nat → List Int → Int → List Int → Int → Int → Option (List Int × Int × Int)
 | 0, _, _, _, _, _ => none
 | k + 1, x3, x4, x1000, x1001, x1002 => if x4 > 0 then ((spec_l1Below.f x1000 x1001 x1002 6).bind fun bt696 => ((spec_l4Put.f k x3 (wrap64 (1 + bt696.1))).bind fun t699 => (spec_l12Draw.l0 k t699 (wrap64 (x4 - 1)) x1000 bt696.2.1 bt696.2.2))) else (some (x3, x1001, x1002))
def spec_l12Draw.f (k : Nat) (s0_0 : List Int) (s0_1 : Int) (s0_2 : Int) : Option (List Int × Int × Int) := (spec_l1Below.f s0_0 s0_1 s0_2 4).bind fun bt687 => ((spec_l1Below.f s0_0 bt687.2.1 bt687.2.2 4).bind fun bt693 => (spec_l12Draw.l0 k (([wrap64 (1 + bt687.1)] : List Int)) bt693.1 s0_0 bt693.2.1 bt693.2.2))
theorem spec_l12Draw.mono_l : ∀ k, (∀ y0 y1 y2 y3 y4, LeO (spec_l12Draw.l0 k y0 y1 y2 y3 y4) (spec_l12Draw.l0 (k + 1) y0 y1 y2 y3 y4))
 | 0 => fun _ _ _ _ _ r h => by simp [spec_l12Draw.l0] at h
 | k + 1 => by
  have ih0 := spec_l12Draw.mono_l k
  ·intro y0 y1 y2 y3 y4
   unfold spec_l12Draw.l0
   exact mo2_ ih0 spec_l4Put.mono
theorem spec_l12Draw.mono : ∀ a0 a1 a2 k, LeO (spec_l12Draw.f k a0 a1 a2) (spec_l12Draw.f (k + 1) a0 a1 a2) := by
 intro a0 a1 a2 k
 have ih0 := spec_l12Draw.mono_l k
 unfold spec_l12Draw.f
 exact mo2_ ih0 spec_l4Put.mono
theorem spec_l12Draw.calls (k : Nat) (g : Nat) (s0_0 : List Int) (s0_1 : Int) (s0_2 : Int) (r1 : List Int) (r2 : Int) (r3 : Int) (w0 w : World) (hI : IsS77 w0 w g s0_0 s0_1 s0_2) (hB : Below w0.heap.size w0 w) (h : spec_l12Draw.f k s0_0 s0_1 s0_2 = some (r1, r2, r3)) :
  Calls Try.prog 42 #[.pointer (some ⟨g, 0, none⟩)] w fun e w' => ∃ v0_ : Value, e = .returned (v0_) ∧ Kd.R (Kd.int .i64) 3 w' w.heap.size (fun _ => True) v0_ r1 ∧ IsS77 w0 w' g s0_0 r2 r3 ∧ Below w0.heap.size w0 w' ∧ KeepBut w w' g none := by
 have HI0 := Q_ hI
 have HK := Q_ (KeepBut.refl w g none)
 have HL := Q_ hB.size
 clear hI
 have HW0 := Q_ hB.size
 have HB := Q_ hB
 clear hB
 have H : ((spec_l1Below.f s0_0 s0_1 s0_2 4).bind fun bt687 => ((spec_l1Below.f s0_0 bt687.2.1 bt687.2.2 4).bind fun bt693 => (spec_l12Draw.l0 k (([wrap64 (1 + bt687.1)] : List Int)) bt693.1 s0_0 bt693.2.1 bt693.2.2))) = some (r1, r2, r3) := h
 clear h
 replace H := Option.bind_eq_some_iff.mp H
 obtain ⟨⟨t687, t688, t689⟩, A20, H⟩ := H
 (try dsimp only at H)
 have A2 := Q_ A20
 clear A20
 obtain ⟨y690, hy690⟩ : ∃ y_ : List Int, y_ = (([wrap64 (1 + t687)] : List Int)) := ⟨_, rfl⟩
 replace H : ((spec_l1Below.f s0_0 t688 t689 4).bind fun bt693 => (spec_l12Draw.l0 k y690 bt693.1 s0_0 bt693.2.1 bt693.2.2)) = some (r1, r2, r3) := hb_ hy690 H
 have Ny690 := Q_ hy690
 clear hy690
 replace H := Option.bind_eq_some_iff.mp H
 obtain ⟨⟨t693, t694, t695⟩, A30, H⟩ := H
 replace H : (spec_l12Draw.l0 k y690 t693 s0_0 t694 t695) = some (r1, r2, r3) := H
 have A3 := Q_ A30
 clear A30
 have H' := Q_ H
 clear H
 go_enter Try.func42, Try.ntmps42
 go_wp2_with (first | ((with_reducible refine gate_callee (f := 25) rfl ?_); refine gl_ (some 6) Try.func25 #[.pointer (some ⟨g, 0, none⟩), .int .i64 4] ?_; (with_reducible refine (spec_l1Below.calls g s0_0 s0_1 s0_2 4 t687 t688 t689 w0 _ ?side1 ?side2 A2.out).mono ?_); (case side1 => exact qs77_0_ HI0.out); (case side2 => exact qb1_ HB.out (IsS77.ge HI0.out)); rintro e w4 ⟨rfl, hi, hb, hk⟩; refine ⟨_, rfl, ?_⟩; have _ := Q_ (KeepBut.trans (qk0_ HK.out) hk (.inl rfl)); have _ := Q_ (hb); have _ := Q_ (hi); clear HK HB HI0; rename_i HK HB HI0; (try clear hb); (try clear hb2); (try clear hk); (try clear hi)) | ((with_reducible refine gate_dst (N := 8) rfl ?_); refine Kd.R_lit (Kd.int .i64) _ 3 ?hg (N := 8) ?hd (xs := ([wrap64 (1 + t687)] : List Int)) (inner := [.int .i64 (wrap64 (1 + t687))]) (ok := fun _ => True) (okp := fun _ => True) ?hr ?hp (fun _ hk => hk) trivial (Below.refl _ _) (Nat.le_refl _) (by simp) ?_; (case hd => rfl); (case hg => rfl); (case hr => first | (go_simp; done) | (go_simp; rfl)); (case hp => exact (Reps.one (show Kd.M (Kd.int .i64) _ _ _ (wrap64 (1 + t687)) [.int .i64 (wrap64 (1 + t687))] from rfl) (Reps.none _ _))); intro v691 w5 ho6 hb hg_ hnew_; clear hg_ hnew_; (first | rw [← Ny690.out] at ho6 | (simp only [Int.reduceToNat] at ho6; rw [← Ny690.out] at ho6)); have _ := Q_ (Kd.R_lower ho6 (keep_size (w := w) (g := g) (row := none) (qk0_ HK.out))); have _ := Q_ (IsS77.below (qs77_0_ HI0.out) hb); have _ := Q_ (KeepBut.trans (qk0_ HK.out) (KeepBut.of_below hb g none) (.inl rfl)); have _ := Q_ (below_step (qb1_ HB.out (IsS77.ge HI0.out)) hb); clear HI0 HK HB; rename_i HO692 HI0 HK HB; clear hb ho6) | ((with_reducible refine gate_callee (f := 25) rfl ?_); refine gl_ (some 10) Try.func25 #[.pointer (some ⟨g, 0, none⟩), .int .i64 4] ?_; (with_reducible refine (spec_l1Below.calls g s0_0 t688 t689 4 t693 t694 t695 w0 _ ?side1 ?side2 A3.out).mono ?_); (case side1 => exact qs77_0_ HI0.out); (case side2 => exact qb1_ HB.out (IsS77.ge HI0.out)); rintro e w7 ⟨rfl, hi, hb, hk⟩; refine ⟨_, rfl, ?_⟩; have _ := Q_ (Kd.R_mono (Kd.R_keep (IsS77.apart (show IsS77 w0 _ g s0_0 t688 t689 from qs77_0_ HI0.out) (pr_ HO692.out) (by decide)) hk (fun _ h => h.2)) (fun _ h => h.1)); have _ := Q_ (KeepBut.trans (qk0_ HK.out) hk (.inl rfl)); have _ := Q_ (hb); have _ := Q_ (hi); clear HO692 HK HB HI0; rename_i HO692 HK HB HI0; (try clear hb); (try clear hb2); (try clear hk); (try clear hi)))
 (try simp only [Act.put, List.setIfInBounds_toArray, List.set_cons_zero, List.set_cons_succ])
 go_loopg [3, 4] k (fun kq v3 v4 w' => ∃ (x3_1 : List Int) (x4_1 : Int) (x1001_1 : Int) (x1002_1 : Int), v4 = .int .i64 x4_1 ∧ Aside0 (spec_l12Draw.l0 kq x3_1 x4_1 s0_0 x1001_1 x1002_1 = some (r1, r2, r3)) ∧ Aside0 (kq ≤ k) ∧ Aside0 (Kd.R (Kd.int .i64) 3 w' w.heap.size (fun _ => True) v3 x3_1) ∧ Aside0 (IsS77 w0 w' g s0_0 x1001_1 x1002_1) ∧ Aside0 (KeepBut w w' g none) ∧ Aside0 (Below w0.heap.size w0 w'))
 case atStart => exact ⟨(y690), (t693), (t694), (t695), el_, H', ⟨Nat.le_refl _⟩, ⟨pr_ HO692.out⟩, ⟨qs77_0_ HI0.out⟩, ⟨qk0_ HK.out⟩, ⟨qb1_ HB.out (IsS77.ge HI0.out)⟩⟩
 clear H'
 try clear c2
 try clear p2
 try clear c4
 try clear p6
 obtain ⟨x3_1, x4_1, x1001_1, x1002_1, rfl, HA, HK1, HO_3, HI0, HK, HB⟩ := hrel
 rcases gk with _ | k1
 ·exact absurd HA.out (by simp [spec_l12Draw.l0])
 have H := HA.out
 clear HA
 simp only [spec_l12Draw.l0] at H
 by_cases c8 : x4_1 > 0
 rotate_left
 ·rw [if_neg c8] at H
  have c8b0 : decide (0 < x4_1) = false := decide_eq_false c8
  clear c8
  simp only [Option.some.injEq, Prod.mk.injEq] at H
  obtain ⟨rfl, rfl, rfl⟩ := H
  go_wp2
  go_ret
  exact ⟨_, er_, pr_ HO_3.out, qs77_0_ HI0.out, qb1_ HB.out (IsS77.ge HI0.out), qk0_ HK.out⟩
 rw [if_pos c8] at H
 have c8b0 : decide (0 < x4_1) = true := decide_eq_true c8
 clear c8
 replace H := Option.bind_eq_some_iff.mp H
 obtain ⟨⟨t696, t697, t698⟩, A90, H⟩ := H
 (try dsimp only at H)
 have A9 := Q_ A90
 clear A90
 replace H := Option.bind_eq_some_iff.mp H
 obtain ⟨t699, A100, H⟩ := H
 (try dsimp only at H)
 have A10 := Q_ A100
 clear A100
 have H' := Q_ H
 clear H
 go_wp2_with (first | ((with_reducible refine gate_callee (f := 25) rfl ?_); refine gl_ (some 17) Try.func25 #[.pointer (some ⟨g, 0, none⟩), .int .i64 6] ?_; (with_reducible refine (spec_l1Below.calls g s0_0 x1001_1 x1002_1 6 t696 t697 t698 w0 _ ?side1 ?side2 A9.out).mono ?_); (case side1 => exact qs77_0_ HI0.out); (case side2 => exact qb1_ HB.out (IsS77.ge HI0.out)); rintro e w11 ⟨rfl, hi, hb, hk⟩; refine ⟨_, rfl, ?_⟩; have _ := Q_ (Kd.R_mono (Kd.R_keep (IsS77.apart (show IsS77 w0 _ g s0_0 x1001_1 x1002_1 from qs77_0_ HI0.out) (pr_ HO_3.out) (by decide)) hk (fun _ h => h.2)) (fun _ h => h.1)); have _ := Q_ (KeepBut.trans (qk0_ HK.out) hk (.inl rfl)); have _ := Q_ (hb); have _ := Q_ (hi); clear HO_3 HK HB HI0; rename_i HO_3 HK HB HI0; (try clear hb); (try clear hb2); (try clear hk); (try clear hi); obtain ⟨Ao12, co12, eo12⟩ := Kd.R_slice HO_3.out; subst eo12) | ((with_reducible refine gate_callee (f := 46) rfl ?_); refine gl_ (some 19) Try.func46 #[.slice Ao12 x3_1.length co12, .int .i64 (wrap64 (1 + t696))] ?_; (with_reducible refine (spec_l4Put.calls k1 _ _ x3_1 (wrap64 (1 + t696)) t699 _ ?side1 ?side2 A10.out).mono ?_); (case side1 => exact pc_ ((Kd.R_reads' HO_3.out).2.2)); (case side2 => exact (Kd.R_reads' HO_3.out).2.1); rintro e w13 ⟨v700, rfl, ho0, hb⟩; refine ⟨_, rfl, ?_⟩; have _ := Q_ (Kd.R_elder' (pr_ HO_3.out) (Kd.R_base ho0) hb); have _ := Q_ (Kd.R_lower (Kd.R_new' ho0 (Kd.R_lt (pr_ HO_3.out))) (keep_size (w := w) (g := g) (row := none) (qk0_ HK.out))); have _ := Q_ (IsS77.below (qs77_0_ HI0.out) hb); have _ := Q_ (KeepBut.trans (qk0_ HK.out) (KeepBut.of_below hb g none) (.inl rfl)); have _ := Q_ (below_step (qb1_ HB.out (IsS77.ge HI0.out)) hb); clear HO_3 HI0 HK HB; rename_i HO_3 HO701 HI0 HK HB; (try clear hb); (try clear hb2); (try clear hk); (try clear hi); (try clear ho0)))
 go_roundg k1
 case measure => have := HK1.out; omega
 case rel => exact ⟨(t699), (wrap64 (x4_1 - 1)), (t697), (t698), el_, H', ⟨by have := HK1.out; omega⟩, ⟨pr_ (Kd.R_mono HO701.out (fun _ hk => trivial))⟩, ⟨qs77_0_ HI0.out⟩, ⟨qk0_ HK.out⟩, ⟨qb1_ HB.out (IsS77.ge HI0.out)⟩⟩

end Go.Proofs.Ytlcpaebidnaolaa.Print
