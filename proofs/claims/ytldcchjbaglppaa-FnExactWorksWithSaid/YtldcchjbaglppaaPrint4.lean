-- Written by a program of this session (printx.py) out of the translation; Lean checks it.
import Derived.Test.YtldcchjbaglppaaPrint0
namespace Go.Proofs.Ytldcchjbaglppaa.Print
open Go.RowKit Go.Proofs.YtldcchjbaglppaaW.PrintWords Go.Proofs.YtldcchjbaglppaaW.PrintLast Go.Proofs.YtldcchjbaglppaaW.PrintMore Go.Proofs.Ytldcchjbaglppaa.Short
attribute [local go_sem] max2_int min2_int max_two min_two max_three min_three max_four min_four   -- for this text's walks alone
set_option linter.unusedVariables false
set_option linter.unusedSimpArgs false

/-! ### spec_l4Put: function 84 -/
def spec_l4Put.l0 : Nat → List Int → Int → Int → Option (List Int)
  | 0, _, _, _ => none
  | k + 1, x0, x1, x5 => if x5 < (x0.length : Int) then (if 0 ≤ x5 then (if (rd x0 x5) < x1 then (spec_l4Put.l0 k x0 x1 (wrap64 (x5 + 1))) else (if (rd x0 x5) = x1 then ((some (([] : List Int) : List Int)).bind fun y163 => (if y163.length + x0.length < 17592186044416 then (some (y163 ++ x0)) else (none))) else ((some (([] : List Int) : List Int)).bind fun y169 => (if x5 ≤ (x0.length : Int) then (if y169.length + (x0.take (x5 : Int).toNat).length < 17592186044416 then ((some (y169 ++ (x0.take (x5 : Int).toNat) : List Int)).bind fun y173 => ((some (([x1] : List Int) : List Int)).bind fun y176 => (if y173.length + y176.length < 17592186044416 then ((some (y173 ++ y176 : List Int)).bind fun y179 => (if y179.length + (x0.drop (x5 : Int).toNat).length < 17592186044416 then (some (y179 ++ (x0.drop (x5 : Int).toNat))) else (none))) else (none)))) else (none)) else (none))))) else (none)) else ((some (([] : List Int) : List Int)).bind fun y186 => (if 0 ≤ x5 then (if x5 ≤ (x0.length : Int) then (if y186.length + (x0.take (x5 : Int).toNat).length < 17592186044416 then ((some (y186 ++ (x0.take (x5 : Int).toNat) : List Int)).bind fun y190 => ((some (([x1] : List Int) : List Int)).bind fun y193 => (if y190.length + y193.length < 17592186044416 then ((some (y190 ++ y193 : List Int)).bind fun y196 => (if y196.length + (x0.drop (x5 : Int).toNat).length < 17592186044416 then (some (y196 ++ (x0.drop (x5 : Int).toNat))) else (none))) else (none)))) else (none)) else (none)) else (none)))
def spec_l4Put.f (k : Nat) (l0 : List Int) (a1 : Int) : Option (List Int) := spec_l4Put.l0 k l0 a1 0
theorem spec_l4Put.mono_l : ∀ k, (∀ y0 y1 y2, LeO (spec_l4Put.l0 k y0 y1 y2) (spec_l4Put.l0 (k + 1) y0 y1 y2))
  | 0 => fun _ _ _ r h => by simp [spec_l4Put.l0] at h
  | k + 1 => by
    have ih0 := spec_l4Put.mono_l k
    · intro y0 y1 y2
      unfold spec_l4Put.l0
      exact mo1_ ih0
theorem spec_l4Put.mono : ∀ a0 a1 k, LeO (spec_l4Put.f k a0 a1) (spec_l4Put.f (k + 1) a0 a1) := by
  intro a0 a1 k
  have ih0 := spec_l4Put.mono_l k
  unfold spec_l4Put.f
  exact mo1_ ih0
def spec_l4Put.T6 : Bool × List (List Nat × List Nat) := (true, [([], []), ([], []), ([], []), ([1, 2], [1, 2]), ([0, 3], [0, 3]), ([], []), ([5], [5]), ([4, 6, 4], [4, 6]), ([], []), ([], []), ([8, 9], [8, 9]), ([7, 10, 7], [7, 10]), ([11, 11, 0, 1, 2, 3, 4, 5, 6, 7, 8, 9, 10, 11], [11])])
def spec_l4Put.B6 : List Nat := [0, 0, 0, 6, 15, 0, 32, 127, 0, 0, 768, 2047, 4095]
theorem spec_l4Put.tab6 : rtab .any (opsOf Try.f84 6) = spec_l4Put.T6 := by kernel_rfl
theorem spec_l4Put.bits6 : waitsOk spec_l4Put.T6.2 spec_l4Put.B6 = true := by kernel_rfl
set_option maxHeartbeats 8000000 in
set_option maxRecDepth 100000 in
theorem spec_l4Put.calls (k : Nat) (A0 : Option Addr) (c0 : Nat) (l0 : List Int) (a1 : Int) (r : List Int) (w : World) (hr0 : Kd.C (Kd.int .i64) w A0 l0.length l0) (hc0 : l0.length ≤ c0) (h : spec_l4Put.f k l0 a1 = some r) :
    Calls Try.prog 84 #[.slice A0 l0.length c0, .int .i64 a1] w fun e w' => ∃ v0_ : Value, e = .returned (v0_) ∧ Kd.R (Kd.int .i64) 3 w' w.heap.size (fun _ => True) v0_ r ∧ Below w.heap.size w w' := by
  have HR0 := Q_ hr0
  have HC0 := Q_ hc0
  clear hr0 hc0
  have HB := Q_ (Below.refl w.heap.size w)
  have H : (spec_l4Put.l0 k l0 a1 0) = some r := h
  clear h
  have H' := Q_ H
  clear H
  go_enter Try.func84, Try.ntmps84
  go_wp2
  go_loopg [5] k (fun kq v5 w' => ∃ (x5_1 : Int), v5 = .int .i64 x5_1 ∧ Aside0 (spec_l4Put.l0 kq l0 a1 x5_1 = some r) ∧ Aside0 (kq ≤ k) ∧ Aside0 (Below w.heap.size w w'))
  case atStart => exact ⟨(0), el_, H', ⟨Nat.le_refl _⟩, ⟨pb_ HB.out⟩⟩
  clear H'
  try clear p2
  obtain ⟨x5_1, rfl, HA, HK1, HB⟩ := hrel
  rcases gk with _ | k1
  · exact absurd HA.out (by simp [spec_l4Put.l0])
  have H := HA.out
  clear HA
  simp only [spec_l4Put.l0] at H
  by_cases c3 : x5_1 < (l0.length : Int)
  rotate_left
  · rw [if_neg c3] at H
    have c3b0 : decide (x5_1 < (l0.length : Int)) = false := decide_eq_false c3
    clear c3
    obtain ⟨y186, hy186⟩ : ∃ y_ : List Int, y_ = (([] : List Int)) := ⟨_, rfl⟩
    replace H : (if 0 ≤ x5_1 then (if x5_1 ≤ (l0.length : Int) then (if y186.length + (l0.take (x5_1 : Int).toNat).length < 17592186044416 then ((some (y186 ++ (l0.take (x5_1 : Int).toNat) : List Int)).bind fun y190 => ((some (([a1] : List Int) : List Int)).bind fun y193 => (if y190.length + y193.length < 17592186044416 then ((some (y190 ++ y193 : List Int)).bind fun y196 => (if y196.length + (l0.drop (x5_1 : Int).toNat).length < 17592186044416 then (some (y196 ++ (l0.drop (x5_1 : Int).toNat))) else (none))) else (none)))) else (none)) else (none)) else (none)) = some r := by first | (rw [hy186]; with_reducible exact H) | (have H2_ := (Option.bind_some _ _).symm.trans H; rw [hy186]; with_reducible exact H2_) | (have H2_ := (Option.bind_some _ _).symm.trans H; with_reducible exact H2_) | with_reducible exact H | (rw [hy186]; exact H) | exact H
    have Ny186 := Q_ hy186
    clear hy186
    by_cases c4 : 0 ≤ x5_1
    rotate_left
    · rw [if_neg c4] at H
      exact absurd H (by simp)
    rw [if_pos c4] at H
    have c4b0 := eq_true c4
    have c4b1 : decide (0 ≤ x5_1) = true := decide_eq_true c4
    clear c4
    by_cases c5 : x5_1 ≤ (l0.length : Int)
    rotate_left
    · rw [if_neg c5] at H
      exact absurd H (by simp)
    rw [if_pos c5] at H
    have c5b0 := eq_true c5
    have c5b1 : decide (x5_1 ≤ (l0.length : Int)) = true := decide_eq_true c5
    clear c5
    by_cases c6 : y186.length + (l0.take (x5_1 : Int).toNat).length < 17592186044416
    rotate_left
    · rw [if_neg c6] at H
      exact absurd H (by simp)
    rw [if_pos c6] at H
    have LMc6 := Q_ c6
    clear c6
    obtain ⟨y190, hy190⟩ : ∃ y_ : List Int, y_ = (y186 ++ (l0.take (x5_1 : Int).toNat)) := ⟨_, rfl⟩
    replace H : ((some (([a1] : List Int) : List Int)).bind fun y193 => (if y190.length + y193.length < 17592186044416 then ((some (y190 ++ y193 : List Int)).bind fun y196 => (if y196.length + (l0.drop (x5_1 : Int).toNat).length < 17592186044416 then (some (y196 ++ (l0.drop (x5_1 : Int).toNat))) else (none))) else (none))) = some r := by first | (rw [hy190]; with_reducible exact H) | (have H2_ := (Option.bind_some _ _).symm.trans H; rw [hy190]; with_reducible exact H2_) | (have H2_ := (Option.bind_some _ _).symm.trans H; with_reducible exact H2_) | with_reducible exact H | (rw [hy190]; exact H) | exact H
    have Ny190 := Q_ hy190
    clear hy190
    obtain ⟨y193, hy193⟩ : ∃ y_ : List Int, y_ = (([a1] : List Int)) := ⟨_, rfl⟩
    replace H : (if y190.length + y193.length < 17592186044416 then ((some (y190 ++ y193 : List Int)).bind fun y196 => (if y196.length + (l0.drop (x5_1 : Int).toNat).length < 17592186044416 then (some (y196 ++ (l0.drop (x5_1 : Int).toNat))) else (none))) else (none)) = some r := by first | (rw [hy193]; with_reducible exact H) | (have H2_ := (Option.bind_some _ _).symm.trans H; rw [hy193]; with_reducible exact H2_) | (have H2_ := (Option.bind_some _ _).symm.trans H; with_reducible exact H2_) | with_reducible exact H | (rw [hy193]; exact H) | exact H
    have Ny193 := Q_ hy193
    clear hy193
    by_cases c7 : y190.length + y193.length < 17592186044416
    rotate_left
    · rw [if_neg c7] at H
      exact absurd H (by simp)
    rw [if_pos c7] at H
    have LMc7 := Q_ c7
    clear c7
    obtain ⟨y196, hy196⟩ : ∃ y_ : List Int, y_ = (y190 ++ y193) := ⟨_, rfl⟩
    replace H : (if y196.length + (l0.drop (x5_1 : Int).toNat).length < 17592186044416 then (some (y196 ++ (l0.drop (x5_1 : Int).toNat))) else (none)) = some r := by first | (rw [hy196]; with_reducible exact H) | (have H2_ := (Option.bind_some _ _).symm.trans H; rw [hy196]; with_reducible exact H2_) | (have H2_ := (Option.bind_some _ _).symm.trans H; with_reducible exact H2_) | with_reducible exact H | (rw [hy196]; exact H) | exact H
    have Ny196 := Q_ hy196
    clear hy196
    have c8b0 := eq_true (dt_ : 0 ≤ x5_1)
    have c9b0 := eq_true (dt_ : x5_1 ≤ (l0.length : Int))
    by_cases c10 : y196.length + (l0.drop (x5_1 : Int).toNat).length < 17592186044416
    rotate_left
    · rw [if_neg c10] at H
      exact absurd H (by simp)
    rw [if_pos c10] at H
    have LMc10 := Q_ c10
    clear c10
    obtain ⟨y200, hy200⟩ : ∃ y_ : List Int, y_ = (y196 ++ (l0.drop (x5_1 : Int).toNat)) := ⟨_, rfl⟩
    replace H : (some y200) = some r := by first | (rw [hy200]; with_reducible exact H) | (have H2_ := (Option.bind_some _ _).symm.trans H; rw [hy200]; with_reducible exact H2_) | (have H2_ := (Option.bind_some _ _).symm.trans H; with_reducible exact H2_) | with_reducible exact H | (rw [hy200]; exact H) | exact H
    have Ny200 := Q_ hy200
    clear hy200
    obtain rfl := Option.some.inj H
    try go_wp2
    have _ := Q_ (below_drew1 HB.out)
    clear HB
    rename_i HB
    obtain ⟨i012, hi012, _, hsz12, _⟩ := info_parts info3
    obtain ⟨hcut12, hA12, hC12⟩ := print_take_of (P := Try.prog) (Value.int .i64) 0 39 3 .i64 Try.underlying39 hi012 hsz12 A0 c0 l0 x5_1 dt_ dt_ HC0.out
    have HR189 := Q_ (Kd.C_of_reads (h1 := fun _ => rfl) (hA12 _ (Kd.reads_of_C HR0.out)))
    have HC189 := Q_ hC12
    clear hA12 hC12 hi012 hsz12
    obtain ⟨i013, hi013, _, hsz13, _⟩ := info_parts info3
    obtain ⟨A13, hcut13, hA13, hC13⟩ := print_drop_of (P := Try.prog) (Value.int .i64) 0 39 3 .i64 Try.underlying39 hi013 hsz13 A0 c0 l0 x5_1 dt_ dt_ HC0.out
    have HR199 := Q_ (Kd.C_of_reads (h1 := fun _ => rfl) (hA13 _ (Kd.reads_of_C HR0.out)))
    have HC199 := Q_ hC13
    clear hA13 hC13 hi013 hsz13
    refine start_ (n := 13) (S := fun w' => True) (ds := []) (tf_ 0 13) (by kernel_rfl) rfl rfl trivial (fun hHeld => ?_); refine with_tabW spec_l4Put.tab6 spec_l4Put.bits6 (fun HT_ HW_ => ?_)
    generalize wr.drew = w11 at HB HR189 HR199 hHeld ⊢
    refine pu_ 1 (some 36) (tm_ 13 2) HT_ ?_
    refine pu_ 2 (some 37) (tm_ 13 6) HT_ ?_
    refine pu_ 3 (some 38) (tm_ 13 14) HT_ ?_
    refine pu_ 5 (some 40) (tm_ 13 46) HT_ ?_
    refine pu_ 8 (some 43) (tm_ 13 302) HT_ ?_
    refine pu_ 9 (some 44) (tm_ 13 814) HT_ ?_
    refine pu_ 10 (some 45) (tm_ 13 1838) HT_ ?_
    refine join_ (σ := Value × Value × Value) 3 #[true, true, true, true, true, true, true, false, true, true, true, false, false] (fun s_ => [(35, s_.1), (39, s_.2.1), (41, s_.2.2)]) (fun s_ w' => (Kd.R (Kd.int .i64) 3 w' w.heap.size (fun k_ => some k_ ≠ (s_.2.2 : Value).ownBlock) s_.2.1 y190) ∧ (Kd.R (Kd.int .i64) 3 w' w.heap.size (fun k_ => some k_ ≠ (s_.2.1 : Value).ownBlock) s_.2.2 y193) ∧ (Below w.heap.size w w')) ?_ ?_
    rotate_left
    · intro hCont
      refine two_ (i := 0) (j := 6) (Ni := some 35) (Nj := some 41) #[true, true, true, true, false, true, false, false, true, true, true, false, false] #[false, true, true, true, false, true, true, false, true, true, true, false, false] rfl rfl rfl rfl (two_of HT_.out (by kernel_rfl)) (by decide) (by decide) (fun K hK => ?_) (fun K hK => ?_)
      · skip
        refine Kd.R_lit_step (Kd.int .i64) _ 3 ?hg (N := 35) ?hd (xs := ([] : List Int)) (inner := []) (ok := fun _ => True) (okp := fun _ => True) ?hr ?hp (fun _ hk => hk) trivial (Below.refl _ _) (Nat.le_refl _) (by simp) ?_; (case hd => rfl); (case hg => rfl); (case hr => first | (go_simp; done) | (go_simp; rfl)); (case hp => exact (Reps.none _ _))
        intro v187 w14 ho15 hb hg_ hnew_
        clear hg_ hnew_
        (first | rw [← Ny186.out] at ho15 | (simp only [Int.reduceToNat] at ho15; rw [← Ny186.out] at ho15))
        have _ := Q_ (Kd.R_lower ho15 (below_size (pb_ HB.out)))
        have _ := Q_ (below_step (pb_ HB.out) hb)
        clear HB
        rename_i HO188 HB
        clear hb ho15
        refine hK.out _ _ trivial (fun hHeld => ?_)
        clear hK K
        refine no_ (some 35) ?_
        refine two_ (i := 4) (j := 6) (Ni := some 39) (Nj := some 41) #[true, true, true, true, true, true, false, false, true, true, true, false, false] #[true, true, true, true, false, true, true, false, true, true, true, false, false] rfl rfl rfl rfl (two_of HT_.out (by kernel_rfl)) (by decide) (by decide) (fun K hK => ?_) (fun K hK => ?_)
        · skip
          refine Kd.R_append_rows_step (Kd.int .i64) (w0 := w) w.heap.size (by rfl) (.tmp 35) (.tmp 38) 39 3 (.int .i64 0) 8 rfl Try.underlying39 info3 rfl (by decide) (by omega) v187 y186 (l0.take (x5_1 : Int).toNat) _ _ _ (fun _ => True) (fun _ => False) rfl rfl ?aO ?aR (fun _ _ h => h) (fun _ h => h.elim) ?aF ?aB ?aS ?aL ?_
          (case aR => first | ((conv => (arg 5; rw [← show (l0.take (x5_1 : Int).toNat).length = x5_1.toNat from (by rw [List.length_take]; have h_ : (x5_1 : Int) ≤ (l0.length : Int) := dt_; omega)])); exact cb_ HR189 HB) | (rw [← show (l0.take (x5_1 : Int).toNat).length = x5_1.toNat from (by rw [List.length_take]; have h_ : (x5_1 : Int) ≤ (l0.length : Int) := dt_; omega)]; exact cb_ HR189 HB) | (exact cb_ HR189 HB))
          (case aB => exact (pb_ HB.out))
          (case aF => exact (fun _ _ => trivial))
          (case aO => exact (pr_ HO188.out))
          (case aS => exact (below_size (pb_ HB.out)))
          (case aL => have := LMc6.out; have hlx_ := (show (l0.take (x5_1 : Int).toNat).length = x5_1.toNat from (by rw [List.length_take]; have h_ : (x5_1 : Int) ≤ (l0.length : Int) := dt_; omega)); omega)
          intro v191 w16 ho hb hg hat
          rw [← Ny190.out] at ho
          have _ := Q_ (hb)
          have _ := Q_ (ho)
          clear HB HO188
          rename_i HB HO192
          clear ho hb hg hat
          refine hK.out _ _ trivial (fun hHeld => ?_)
          clear hK K
          refine no_ (some 39) ?_
          refine on_ 6 (some 41) (tm_ 13 1919) HT_ (fun K hK => ?_)
          refine Kd.R_lit_step (Kd.int .i64) _ 3 ?hg (N := 41) ?hd (xs := ([a1] : List Int)) (inner := [.int .i64 a1]) (ok := fun _ => True) (okp := fun _ => True) ?hr ?hp (fun _ hk => hk) trivial (Below.refl _ _) (Nat.le_refl _) (by simp) ?_; (case hd => rfl); (case hg => rfl); (case hr => first | (go_simp; done) | (go_simp; rfl)); (case hp => exact (Reps.one (show Kd.M (Kd.int .i64) _ _ _ a1 [.int .i64 a1] from rfl) (Reps.none _ _)))
          intro v194 w17 ho18 hb hg_ hnew_
          clear hg_ hnew_
          (first | rw [← Ny193.out] at ho18 | (simp only [Int.reduceToNat] at ho18; rw [← Ny193.out] at ho18))
          have _ := Q_ (Kd.R_elder' (pr_ HO192.out) (Kd.R_base ho18) hb)
          have _ := Q_ (Kd.R_lower (Kd.R_new' ho18 (Kd.R_lt (pr_ HO192.out))) (below_size (pb_ HB.out)))
          have _ := Q_ (below_step (pb_ HB.out) hb)
          clear HO192 HB
          rename_i HO192 HO195 HB
          clear hb ho18
          refine hK.out _ _ trivial (fun hHeld => ?_)
          clear hK K
          refine no_ (some 41) ?_
          exact norm_ (by simp only [putAll, Act.put, List.setIfInBounds_toArray, List.set_cons_zero, List.set_cons_succ]) (hCont (v187, v191, v194) _ ⟨(pr_ (Kd.R_mono HO192.out (fun _ hk => hk.2))), (pr_ (Kd.R_mono HO195.out (fun _ hk => hk.2))), (pb_ HB.out)⟩)
        · skip
          refine Kd.R_lit_step (Kd.int .i64) _ 3 ?hg (N := 41) ?hd (xs := ([a1] : List Int)) (inner := [.int .i64 a1]) (ok := fun _ => True) (okp := fun _ => True) ?hr ?hp (fun _ hk => hk) trivial (Below.refl _ _) (Nat.le_refl _) (by simp) ?_; (case hd => rfl); (case hg => rfl); (case hr => first | (go_simp; done) | (go_simp; rfl)); (case hp => exact (Reps.one (show Kd.M (Kd.int .i64) _ _ _ a1 [.int .i64 a1] from rfl) (Reps.none _ _)))
          intro v194 w16 ho17 hb hg_ hnew_
          clear hg_ hnew_
          (first | rw [← Ny193.out] at ho17 | (simp only [Int.reduceToNat] at ho17; rw [← Ny193.out] at ho17))
          have _ := Q_ (Kd.R_elder' (pr_ HO188.out) (Kd.R_base ho17) hb)
          have _ := Q_ (Kd.R_lower (Kd.R_new' ho17 (Kd.R_lt (pr_ HO188.out))) (below_size (pb_ HB.out)))
          have _ := Q_ (below_step (pb_ HB.out) hb)
          clear HO188 HB
          rename_i HO188 HO195 HB
          clear hb ho17
          refine hK.out _ _ trivial (fun hHeld => ?_)
          clear hK K
          refine no_ (some 41) ?_
          refine on_ 4 (some 39) (tm_ 13 1919) HT_ (fun K hK => ?_)
          refine Kd.R_append_rows_step (Kd.int .i64) (w0 := w) w.heap.size (by rfl) (.tmp 35) (.tmp 38) 39 3 (.int .i64 0) 8 rfl Try.underlying39 info3 rfl (by decide) (by omega) v187 y186 (l0.take (x5_1 : Int).toNat) _ _ _ (fun k_ => some k_ ≠ (v194 : Value).ownBlock) (fun _ => False) rfl rfl ?aO ?aR (fun _ _ h => h) (fun _ h => h.elim) ?aF ?aB ?aS ?aL ?_
          (case aR => first | ((conv => (arg 5; rw [← show (l0.take (x5_1 : Int).toNat).length = x5_1.toNat from (by rw [List.length_take]; have h_ : (x5_1 : Int) ≤ (l0.length : Int) := dt_; omega)])); exact cb_ HR189 HB) | (rw [← show (l0.take (x5_1 : Int).toNat).length = x5_1.toNat from (by rw [List.length_take]; have h_ : (x5_1 : Int) ≤ (l0.length : Int) := dt_; omega)]; exact cb_ HR189 HB) | (exact cb_ HR189 HB))
          (case aB => exact (pb_ HB.out))
          (case aF => exact (fun k_ hk => Kd.fresh' (Kd.R_lt (pr_ HO195.out)) k_ hk))
          (case aO => exact (pr_ (Kd.R_mono HO188.out (fun _ hk => hk.2))))
          (case aS => exact (below_size (pb_ HB.out)))
          (case aL => have := LMc6.out; have hlx_ := (show (l0.take (x5_1 : Int).toNat).length = x5_1.toNat from (by rw [List.length_take]; have h_ : (x5_1 : Int) ≤ (l0.length : Int) := dt_; omega)); omega)
          intro v191 w18 ho hb hg hat
          rw [← Ny190.out] at ho
          have _ := Q_ (Kd.R_after (ok := (fun _ => True)) (pr_ HO195.out) hg hat)
          have _ := Q_ (hb)
          have _ := Q_ (ho)
          clear HO195 HB HO188
          rename_i HO195 HB HO192
          clear ho hb hg hat
          refine hK.out _ _ trivial (fun hHeld => ?_)
          clear hK K
          refine no_ (some 39) ?_
          exact norm_ (by simp only [putAll, Act.put, List.setIfInBounds_toArray, List.set_cons_zero, List.set_cons_succ]) (hCont (v187, v191, v194) _ ⟨(pr_ HO192.out), (pr_ (Kd.R_mono HO195.out (fun _ hk => hk.2))), (pb_ HB.out)⟩)
      · skip
        refine Kd.R_lit_step (Kd.int .i64) _ 3 ?hg (N := 41) ?hd (xs := ([a1] : List Int)) (inner := [.int .i64 a1]) (ok := fun _ => True) (okp := fun _ => True) ?hr ?hp (fun _ hk => hk) trivial (Below.refl _ _) (Nat.le_refl _) (by simp) ?_; (case hd => rfl); (case hg => rfl); (case hr => first | (go_simp; done) | (go_simp; rfl)); (case hp => exact (Reps.one (show Kd.M (Kd.int .i64) _ _ _ a1 [.int .i64 a1] from rfl) (Reps.none _ _)))
        intro v194 w14 ho15 hb hg_ hnew_
        clear hg_ hnew_
        (first | rw [← Ny193.out] at ho15 | (simp only [Int.reduceToNat] at ho15; rw [← Ny193.out] at ho15))
        have _ := Q_ (Kd.R_lower ho15 (below_size (pb_ HB.out)))
        have _ := Q_ (below_step (pb_ HB.out) hb)
        clear HB
        rename_i HO195 HB
        clear hb ho15
        refine hK.out _ _ trivial (fun hHeld => ?_)
        clear hK K
        refine no_ (some 41) ?_
        refine on_ 0 (some 35) (tm_ 13 1903) HT_ (fun K hK => ?_)
        refine Kd.R_lit_step (Kd.int .i64) _ 3 ?hg (N := 35) ?hd (xs := ([] : List Int)) (inner := []) (ok := fun _ => True) (okp := fun _ => True) ?hr ?hp (fun _ hk => hk) trivial (Below.refl _ _) (Nat.le_refl _) (by simp) ?_; (case hd => rfl); (case hg => rfl); (case hr => first | (go_simp; done) | (go_simp; rfl)); (case hp => exact (Reps.none _ _))
        intro v187 w16 ho17 hb hg_ hnew_
        clear hg_ hnew_
        (first | rw [← Ny186.out] at ho17 | (simp only [Int.reduceToNat] at ho17; rw [← Ny186.out] at ho17))
        have _ := Q_ (Kd.R_elder' (pr_ HO195.out) (Kd.R_base ho17) hb)
        have _ := Q_ (Kd.R_lower (Kd.R_new' ho17 (Kd.R_lt (pr_ HO195.out))) (below_size (pb_ HB.out)))
        have _ := Q_ (below_step (pb_ HB.out) hb)
        clear HO195 HB
        rename_i HO195 HO188 HB
        clear hb ho17
        refine hK.out _ _ trivial (fun hHeld => ?_)
        clear hK K
        refine no_ (some 35) ?_
        refine on_ 4 (some 39) (tm_ 13 1919) HT_ (fun K hK => ?_)
        refine Kd.R_append_rows_step (Kd.int .i64) (w0 := w) w.heap.size (by rfl) (.tmp 35) (.tmp 38) 39 3 (.int .i64 0) 8 rfl Try.underlying39 info3 rfl (by decide) (by omega) v187 y186 (l0.take (x5_1 : Int).toNat) _ _ _ (fun k_ => some k_ ≠ (v194 : Value).ownBlock) (fun _ => False) rfl rfl ?aO ?aR (fun _ _ h => h) (fun _ h => h.elim) ?aF ?aB ?aS ?aL ?_
        (case aR => first | ((conv => (arg 5; rw [← show (l0.take (x5_1 : Int).toNat).length = x5_1.toNat from (by rw [List.length_take]; have h_ : (x5_1 : Int) ≤ (l0.length : Int) := dt_; omega)])); exact cb_ HR189 HB) | (rw [← show (l0.take (x5_1 : Int).toNat).length = x5_1.toNat from (by rw [List.length_take]; have h_ : (x5_1 : Int) ≤ (l0.length : Int) := dt_; omega)]; exact cb_ HR189 HB) | (exact cb_ HR189 HB))
        (case aB => exact (pb_ HB.out))
        (case aF => exact (fun k_ hk => Kd.fresh' (Kd.R_lt (pr_ HO195.out)) k_ hk))
        (case aO => exact (pr_ (Kd.R_mono HO188.out (fun _ hk => hk.2))))
        (case aS => exact (below_size (pb_ HB.out)))
        (case aL => have := LMc6.out; have hlx_ := (show (l0.take (x5_1 : Int).toNat).length = x5_1.toNat from (by rw [List.length_take]; have h_ : (x5_1 : Int) ≤ (l0.length : Int) := dt_; omega)); omega)
        intro v191 w18 ho hb hg hat
        rw [← Ny190.out] at ho
        have _ := Q_ (Kd.R_after (ok := (fun _ => True)) (pr_ HO195.out) hg hat)
        have _ := Q_ (hb)
        have _ := Q_ (ho)
        clear HO195 HB HO188
        rename_i HO195 HB HO192
        clear ho hb hg hat
        refine hK.out _ _ trivial (fun hHeld => ?_)
        clear hK K
        refine no_ (some 39) ?_
        exact norm_ (by simp only [putAll, Act.put, List.setIfInBounds_toArray, List.set_cons_zero, List.set_cons_succ]) (hCont (v187, v191, v194) _ ⟨(pr_ HO192.out), (pr_ (Kd.R_mono HO195.out (fun _ hk => hk.2))), (pb_ HB.out)⟩)
    rintro ⟨v187, v191, v194⟩ w19 ⟨h0_, h1_, h2_⟩
    have n0_ : Aside0 (Kd.R (Kd.int .i64) 3 w19 w.heap.size (fun k_ => some k_ ≠ (v194 : Value).ownBlock) v191 y190) := ⟨h0_⟩
    have n1_ : Aside0 (Kd.R (Kd.int .i64) 3 w19 w.heap.size (fun k_ => some k_ ≠ (v191 : Value).ownBlock) v194 y193) := ⟨h1_⟩
    have n2_ : Aside0 (Below w.heap.size w w19) := ⟨h2_⟩
    clear HB
    clear h0_ h1_ h2_
    have HO192 := n0_
    have HO195 := n1_
    have HB := n2_
    clear n0_ n1_ n2_
    have hHeld := trivial
    obtain ⟨Ao21, co21, eo21⟩ := Kd.R_slice HO195.out
    (first | subst eo21 | (injection eo21 with f1_ f2_ f3_; have f4_ := f1_.symm; have f5_ := f3_.symm; clear f1_ f2_ f3_; subst f4_; subst f5_))
    refine norm_ (a' := ?_) ?_ ?_
    rotate_left
    · simp only [putAll, Act.put, List.setIfInBounds_toArray, List.set_cons_zero, List.set_cons_succ]
      rfl
    refine on_ 7 (some 42) (tf_ 11 13) HT_ (fun K hK => ?_)
    refine Kd.R_append_rows_step (Kd.int .i64) (w0 := w) w.heap.size (by rfl) (.tmp 39) (.tmp 41) 39 3 (.int .i64 0) 8 rfl Try.underlying39 info3 rfl (by decide) (by omega) v191 y190 y193 _ _ _ (fun k_ => some k_ ≠ (.slice Ao21 y193.length co21 : Value).ownBlock) (fun _ => False) rfl rfl ?aO ?aR (fun _ _ h => h) (fun _ h => h.elim) ?aF ?aB ?aS ?aL ?_
    (case aR => exact pc_ ((Kd.R_reads' HO195.out).2.2))
    (case aB => exact (pb_ HB.out))
    (case aF => exact (fun k_ hk => Kd.fresh' (Kd.R_lt (pr_ HO195.out)) k_ hk))
    (case aO => exact (pr_ HO192.out))
    (case aS => exact (below_size (pb_ HB.out)))
    (case aL => have := LMc7.out; omega)
    intro v197 w20 ho hb hg hat
    rw [← Ny196.out] at ho
    have _ := Q_ (Kd.R_after (ok := (fun _ => True)) (by (with_reducible repeat (first | apply Kd.R_alloc | apply Kd.R_drewN | apply Kd.R_drew)); exact Kd.R_mono HO195.out (fun _ hk => ⟨trivial, hk⟩)) hg hat)
    have _ := Q_ (hb)
    have _ := Q_ (ho)
    clear HO195 HB HO192
    rename_i HO195 HB HO198
    clear ho hb hg hat
    refine hK.out _ _ trivial (fun hHeld => ?_)
    clear hK K
    refine no_ (some 42) ?_
    refine on_ 11 (some 46) (tf_ 12 13) HT_ (fun K hK => ?_)
    refine Kd.R_append_rows_step (Kd.int .i64) (w0 := w) w.heap.size (by rfl) (.tmp 42) (.tmp 45) 39 3 (.int .i64 0) 8 rfl Try.underlying39 info3 rfl (by decide) (by omega) v197 y196 (l0.drop (x5_1 : Int).toNat) _ _ _ (fun k_ => some k_ ≠ (.slice Ao21 y193.length co21 : Value).ownBlock) (fun _ => False) rfl rfl ?aO ?aR (fun _ _ h => h) (fun _ h => h.elim) ?aF ?aB ?aS ?aL ?_
    (case aR => first | ((conv => (arg 5; rw [← show (l0.drop (x5_1 : Int).toNat).length = (l0.length - x5_1.toNat) from List.length_drop])); exact cb_ HR199 HB) | (rw [← show (l0.drop (x5_1 : Int).toNat).length = (l0.length - x5_1.toNat) from List.length_drop]; exact cb_ HR199 HB) | (exact cb_ HR199 HB))
    (case aB => exact (pb_ HB.out))
    (case aF => exact (fun k_ hk => Kd.fresh' (Kd.R_lt (pr_ HO195.out)) k_ hk))
    (case aO => exact (pr_ HO198.out))
    (case aS => exact (below_size (pb_ HB.out)))
    (case aL => have := LMc10.out; have hlx_ := (show (l0.drop (x5_1 : Int).toNat).length = (l0.length - x5_1.toNat) from List.length_drop); omega)
    intro v201 w22 ho hb hg hat
    rw [← Ny200.out] at ho
    have _ := Q_ (Kd.R_after (ok := (fun _ => True)) (pr_ HO195.out) hg hat)
    have _ := Q_ (hb)
    have _ := Q_ (ho)
    clear HO195 HB HO198
    rename_i HO195 HB HO202
    clear ho hb hg hat
    refine hK.out _ _ trivial (fun hHeld => ?_)
    clear hK K
    refine no_ (some 46) ?_
    refine pu_ 12 (some 4) (tf_ 13 13) HT_ ?_
    refine done_ (done_of HT_.out (by kernel_rfl)) ?_
    try go_wp2
    go_ret
    exact ⟨_, er_, pr_ (Kd.R_mono HO202.out (fun _ hk => trivial)), pb_ HB.out⟩
  rw [if_pos c3] at H
  have c3b0 : decide (x5_1 < (l0.length : Int)) = true := decide_eq_true c3
  clear c3
  by_cases c23 : 0 ≤ x5_1
  rotate_left
  · rw [if_neg c23] at H
    exact absurd H (by simp)
  rw [if_pos c23] at H
  have c23b0 : decide (0 ≤ x5_1) = true := decide_eq_true c23
  clear c23
  by_cases c24 : (rd l0 x5_1) < a1
  · rw [if_pos c24] at H
    have c24b0 : decide ((rd l0 x5_1) < a1) = true := decide_eq_true c24
    clear c24
    have H' := Q_ H
    clear H
    have p161 : 0 ≤ (x5_1 : Int) := dt_
    have q161 : x5_1 < (l0.length : Int) := dt_
    obtain ⟨ad161, e161, hx161_0⟩ := Kd.at_int HR0.out x5_1 p161 q161
    cases e161
    replace hx161_0 := bt_ HB hx161_0
    replace p161 := eq_true p161
    replace q161 := eq_true q161
    go_wp2
    go_roundg k1
    case measure => have := HK1.out; omega
    case rel => exact ⟨(wrap64 (x5_1 + 1)), el_, H', ⟨by have := HK1.out; omega⟩, ⟨pb_ HB.out⟩⟩
  rw [if_neg c24] at H
  have c24b0 : decide ((rd l0 x5_1) < a1) = false := decide_eq_false c24
  clear c24
  by_cases c25 : (rd l0 x5_1) = a1
  · rw [if_pos c25] at H
    have c25b0 : ((rd l0 x5_1) == a1) = true := beq_iff_eq.mpr c25
    have c25b1 : ((rd l0 x5_1) != a1) = false := bne_eq_false_iff_eq.mpr c25
    clear c25
    obtain ⟨y163, hy163⟩ : ∃ y_ : List Int, y_ = (([] : List Int)) := ⟨_, rfl⟩
    replace H : (if y163.length + l0.length < 17592186044416 then (some (y163 ++ l0)) else (none)) = some r := by first | (rw [hy163]; with_reducible exact H) | (have H2_ := (Option.bind_some _ _).symm.trans H; rw [hy163]; with_reducible exact H2_) | (have H2_ := (Option.bind_some _ _).symm.trans H; with_reducible exact H2_) | with_reducible exact H | (rw [hy163]; exact H) | exact H
    have Ny163 := Q_ hy163
    clear hy163
    by_cases c26 : y163.length + l0.length < 17592186044416
    rotate_left
    · rw [if_neg c26] at H
      exact absurd H (by simp)
    rw [if_pos c26] at H
    have LMc26 := Q_ c26
    clear c26
    obtain ⟨y166, hy166⟩ : ∃ y_ : List Int, y_ = (y163 ++ l0) := ⟨_, rfl⟩
    replace H : (some y166) = some r := by first | (rw [hy166]; with_reducible exact H) | (have H2_ := (Option.bind_some _ _).symm.trans H; rw [hy166]; with_reducible exact H2_) | (have H2_ := (Option.bind_some _ _).symm.trans H; with_reducible exact H2_) | with_reducible exact H | (rw [hy166]; exact H) | exact H
    have Ny166 := Q_ hy166
    clear hy166
    obtain rfl := Option.some.inj H
    have p161 : 0 ≤ (x5_1 : Int) := dt_
    have q161 : x5_1 < (l0.length : Int) := dt_
    obtain ⟨ad161, e161, hx161_0⟩ := Kd.at_int HR0.out x5_1 p161 q161
    cases e161
    replace hx161_0 := bt_ HB hx161_0
    replace p161 := eq_true p161
    replace q161 := eq_true q161
    have p162 : 0 ≤ (x5_1 : Int) := dt_
    have q162 : x5_1 < (l0.length : Int) := dt_
    obtain ⟨ad162, e162, hx162_0⟩ := Kd.at_int HR0.out x5_1 p162 q162
    obtain rfl : ad161 = ad162 := (by injection e162)
    replace hx162_0 := bt_ HB hx162_0
    replace p162 := eq_true p162
    replace q162 := eq_true q162
    go_wp2_with (first | ((with_reducible refine gate_dst (N := 32) rfl ?_); refine Kd.R_lit (Kd.int .i64) _ 3 ?hg (N := 32) ?hd (xs := ([] : List Int)) (inner := []) (ok := fun _ => True) (okp := fun _ => True) ?hr ?hp (fun _ hk => hk) trivial (Below.refl _ _) (Nat.le_refl _) (by simp) ?_; (case hd => rfl); (case hg => rfl); (case hr => first | (go_simp; done) | (go_simp; rfl)); (case hp => exact (Reps.none _ _)); intro v164 w27 ho28 hb hg_ hnew_; clear hg_ hnew_; (first | rw [← Ny163.out] at ho28 | (simp only [Int.reduceToNat] at ho28; rw [← Ny163.out] at ho28)); have _ := Q_ (Kd.R_lower ho28 (below_size (pb_ HB.out))); have _ := Q_ (below_step (pb_ HB.out) hb); clear HB; rename_i HO165 HB; clear hb ho28) | ((with_reducible refine gate_builtin (b := .append) (xs := #[.tmp 32, .tmp 33]) rfl ?_); at_builtin; refine Kd.R_append_rows (Kd.int .i64) (w0 := w) w.heap.size rfl (.tmp 32) (.tmp 33) 39 3 (.int .i64 0) 8 rfl Try.underlying39 info3 rfl (by decide) (by omega) v164 y163 l0 _ _ _ (fun _ => True) (fun _ => False) rfl rfl ?aO ?aR (fun _ _ h => h) (fun _ h => h.elim) ?aF ?aB ?aS ?aL ?_; (case aR => exact cb_ HR0 HB); (case aB => exact (pb_ HB.out)); (case aF => exact (fun _ _ => trivial)); (case aO => exact (pr_ HO165.out)); (case aS => exact (below_size (pb_ HB.out))); (case aL => have := LMc26.out; omega); intro v167 w29 ho hb hg hat; rw [← Ny166.out] at ho; have _ := Q_ (hb); have _ := Q_ (ho); clear HB HO165; rename_i HB HO168; clear ho hb hg hat))
    go_ret
    exact ⟨_, er_, pr_ HO168.out, pb_ HB.out⟩
  rw [if_neg c25] at H
  have c25b0 : ((rd l0 x5_1) == a1) = false := beq_eq_false_iff_ne.mpr c25
  have c25b1 : ((rd l0 x5_1) != a1) = true := bne_iff_ne.mpr c25
  obtain ⟨y169, hy169⟩ : ∃ y_ : List Int, y_ = (([] : List Int)) := ⟨_, rfl⟩
  replace H : (if x5_1 ≤ (l0.length : Int) then (if y169.length + (l0.take (x5_1 : Int).toNat).length < 17592186044416 then ((some (y169 ++ (l0.take (x5_1 : Int).toNat) : List Int)).bind fun y173 => ((some (([a1] : List Int) : List Int)).bind fun y176 => (if y173.length + y176.length < 17592186044416 then ((some (y173 ++ y176 : List Int)).bind fun y179 => (if y179.length + (l0.drop (x5_1 : Int).toNat).length < 17592186044416 then (some (y179 ++ (l0.drop (x5_1 : Int).toNat))) else (none))) else (none)))) else (none)) else (none)) = some r := by first | (rw [hy169]; with_reducible exact H) | (have H2_ := (Option.bind_some _ _).symm.trans H; rw [hy169]; with_reducible exact H2_) | (have H2_ := (Option.bind_some _ _).symm.trans H; with_reducible exact H2_) | with_reducible exact H | (rw [hy169]; exact H) | exact H
  have Ny169 := Q_ hy169
  clear hy169
  have c30b0 := eq_true (dt_ : 0 ≤ x5_1)
  by_cases c31 : x5_1 ≤ (l0.length : Int)
  rotate_left
  · rw [if_neg c31] at H
    exact absurd H (by simp)
  rw [if_pos c31] at H
  have c31b0 := eq_true c31
  have c31b1 : decide (x5_1 ≤ (l0.length : Int)) = true := decide_eq_true c31
  clear c31
  by_cases c32 : y169.length + (l0.take (x5_1 : Int).toNat).length < 17592186044416
  rotate_left
  · rw [if_neg c32] at H
    exact absurd H (by simp)
  rw [if_pos c32] at H
  have LMc32 := Q_ c32
  clear c32
  obtain ⟨y173, hy173⟩ : ∃ y_ : List Int, y_ = (y169 ++ (l0.take (x5_1 : Int).toNat)) := ⟨_, rfl⟩
  replace H : ((some (([a1] : List Int) : List Int)).bind fun y176 => (if y173.length + y176.length < 17592186044416 then ((some (y173 ++ y176 : List Int)).bind fun y179 => (if y179.length + (l0.drop (x5_1 : Int).toNat).length < 17592186044416 then (some (y179 ++ (l0.drop (x5_1 : Int).toNat))) else (none))) else (none))) = some r := by first | (rw [hy173]; with_reducible exact H) | (have H2_ := (Option.bind_some _ _).symm.trans H; rw [hy173]; with_reducible exact H2_) | (have H2_ := (Option.bind_some _ _).symm.trans H; with_reducible exact H2_) | with_reducible exact H | (rw [hy173]; exact H) | exact H
  have Ny173 := Q_ hy173
  clear hy173
  obtain ⟨y176, hy176⟩ : ∃ y_ : List Int, y_ = (([a1] : List Int)) := ⟨_, rfl⟩
  replace H : (if y173.length + y176.length < 17592186044416 then ((some (y173 ++ y176 : List Int)).bind fun y179 => (if y179.length + (l0.drop (x5_1 : Int).toNat).length < 17592186044416 then (some (y179 ++ (l0.drop (x5_1 : Int).toNat))) else (none))) else (none)) = some r := by first | (rw [hy176]; with_reducible exact H) | (have H2_ := (Option.bind_some _ _).symm.trans H; rw [hy176]; with_reducible exact H2_) | (have H2_ := (Option.bind_some _ _).symm.trans H; with_reducible exact H2_) | with_reducible exact H | (rw [hy176]; exact H) | exact H
  have Ny176 := Q_ hy176
  clear hy176
  by_cases c33 : y173.length + y176.length < 17592186044416
  rotate_left
  · rw [if_neg c33] at H
    exact absurd H (by simp)
  rw [if_pos c33] at H
  have LMc33 := Q_ c33
  clear c33
  obtain ⟨y179, hy179⟩ : ∃ y_ : List Int, y_ = (y173 ++ y176) := ⟨_, rfl⟩
  replace H : (if y179.length + (l0.drop (x5_1 : Int).toNat).length < 17592186044416 then (some (y179 ++ (l0.drop (x5_1 : Int).toNat))) else (none)) = some r := by first | (rw [hy179]; with_reducible exact H) | (have H2_ := (Option.bind_some _ _).symm.trans H; rw [hy179]; with_reducible exact H2_) | (have H2_ := (Option.bind_some _ _).symm.trans H; with_reducible exact H2_) | with_reducible exact H | (rw [hy179]; exact H) | exact H
  have Ny179 := Q_ hy179
  clear hy179
  have c34b0 := eq_true (dt_ : 0 ≤ x5_1)
  have c35b0 := eq_true (dt_ : x5_1 ≤ (l0.length : Int))
  by_cases c36 : y179.length + (l0.drop (x5_1 : Int).toNat).length < 17592186044416
  rotate_left
  · rw [if_neg c36] at H
    exact absurd H (by simp)
  rw [if_pos c36] at H
  have LMc36 := Q_ c36
  clear c36
  obtain ⟨y183, hy183⟩ : ∃ y_ : List Int, y_ = (y179 ++ (l0.drop (x5_1 : Int).toNat)) := ⟨_, rfl⟩
  replace H : (some y183) = some r := by first | (rw [hy183]; with_reducible exact H) | (have H2_ := (Option.bind_some _ _).symm.trans H; rw [hy183]; with_reducible exact H2_) | (have H2_ := (Option.bind_some _ _).symm.trans H; with_reducible exact H2_) | with_reducible exact H | (rw [hy183]; exact H) | exact H
  have Ny183 := Q_ hy183
  clear hy183
  obtain rfl := Option.some.inj H
  have p161 : 0 ≤ (x5_1 : Int) := dt_
  have q161 : x5_1 < (l0.length : Int) := dt_
  obtain ⟨ad161, e161, hx161_0⟩ := Kd.at_int HR0.out x5_1 p161 q161
  cases e161
  replace hx161_0 := bt_ HB hx161_0
  replace p161 := eq_true p161
  replace q161 := eq_true q161
  have p162 : 0 ≤ (x5_1 : Int) := dt_
  have q162 : x5_1 < (l0.length : Int) := dt_
  obtain ⟨ad162, e162, hx162_0⟩ := Kd.at_int HR0.out x5_1 p162 q162
  obtain rfl : ad161 = ad162 := (by injection e162)
  replace hx162_0 := bt_ HB hx162_0
  replace p162 := eq_true p162
  replace q162 := eq_true q162
  try go_wp2
  have _ := Q_ (below_drew1 HB.out)
  clear HB
  rename_i HB
  obtain ⟨i038, hi038, _, hsz38, _⟩ := info_parts info3
  obtain ⟨hcut38, hA38, hC38⟩ := print_take_of (P := Try.prog) (Value.int .i64) 0 39 3 .i64 Try.underlying39 hi038 hsz38 (some ad161) c0 l0 x5_1 dt_ dt_ HC0.out
  have HR172 := Q_ (Kd.C_of_reads (h1 := fun _ => rfl) (hA38 _ (Kd.reads_of_C HR0.out)))
  have HC172 := Q_ hC38
  clear hA38 hC38 hi038 hsz38
  obtain ⟨i039, hi039, _, hsz39, _⟩ := info_parts info3
  obtain ⟨A39, hcut39, hA39, hC39⟩ := print_drop_of (P := Try.prog) (Value.int .i64) 0 39 3 .i64 Try.underlying39 hi039 hsz39 (some ad161) c0 l0 x5_1 dt_ dt_ HC0.out
  have HR182 := Q_ (Kd.C_of_reads (h1 := fun _ => rfl) (hA39 _ (Kd.reads_of_C HR0.out)))
  have HC182 := Q_ hC39
  clear hA39 hC39 hi039 hsz39
  refine start_ (n := 13) (S := fun w' => True) (ds := []) (tf_ 0 13) (by kernel_rfl) rfl rfl trivial (fun hHeld => ?_); refine with_tabW spec_l4Put.tab6 spec_l4Put.bits6 (fun HT_ HW_ => ?_)
  generalize wr.drew = w37 at HB HR172 HR182 hHeld ⊢
  refine pu_ 1 (some 36) (tm_ 13 2) HT_ ?_
  refine pu_ 2 (some 37) (tm_ 13 6) HT_ ?_
  refine pu_ 3 (some 38) (tm_ 13 14) HT_ ?_
  refine pu_ 5 (some 40) (tm_ 13 46) HT_ ?_
  refine pu_ 8 (some 43) (tm_ 13 302) HT_ ?_
  refine pu_ 9 (some 44) (tm_ 13 814) HT_ ?_
  refine pu_ 10 (some 45) (tm_ 13 1838) HT_ ?_
  refine join_ (σ := Value × Value × Value) 3 #[true, true, true, true, true, true, true, false, true, true, true, false, false] (fun s_ => [(35, s_.1), (39, s_.2.1), (41, s_.2.2)]) (fun s_ w' => (Kd.R (Kd.int .i64) 3 w' w.heap.size (fun k_ => some k_ ≠ (s_.2.2 : Value).ownBlock) s_.2.1 y173) ∧ (Kd.R (Kd.int .i64) 3 w' w.heap.size (fun k_ => some k_ ≠ (s_.2.1 : Value).ownBlock) s_.2.2 y176) ∧ (Below w.heap.size w w')) ?_ ?_
  rotate_left
  · intro hCont
    refine two_ (i := 0) (j := 6) (Ni := some 35) (Nj := some 41) #[true, true, true, true, false, true, false, false, true, true, true, false, false] #[false, true, true, true, false, true, true, false, true, true, true, false, false] rfl rfl rfl rfl (two_of HT_.out (by kernel_rfl)) (by decide) (by decide) (fun K hK => ?_) (fun K hK => ?_)
    · skip
      refine Kd.R_lit_step (Kd.int .i64) _ 3 ?hg (N := 35) ?hd (xs := ([] : List Int)) (inner := []) (ok := fun _ => True) (okp := fun _ => True) ?hr ?hp (fun _ hk => hk) trivial (Below.refl _ _) (Nat.le_refl _) (by simp) ?_; (case hd => rfl); (case hg => rfl); (case hr => first | (go_simp; done) | (go_simp; rfl)); (case hp => exact (Reps.none _ _))
      intro v170 w40 ho41 hb hg_ hnew_
      clear hg_ hnew_
      (first | rw [← Ny169.out] at ho41 | (simp only [Int.reduceToNat] at ho41; rw [← Ny169.out] at ho41))
      have _ := Q_ (Kd.R_lower ho41 (below_size (pb_ HB.out)))
      have _ := Q_ (below_step (pb_ HB.out) hb)
      clear HB
      rename_i HO171 HB
      clear hb ho41
      refine hK.out _ _ trivial (fun hHeld => ?_)
      clear hK K
      refine no_ (some 35) ?_
      refine two_ (i := 4) (j := 6) (Ni := some 39) (Nj := some 41) #[true, true, true, true, true, true, false, false, true, true, true, false, false] #[true, true, true, true, false, true, true, false, true, true, true, false, false] rfl rfl rfl rfl (two_of HT_.out (by kernel_rfl)) (by decide) (by decide) (fun K hK => ?_) (fun K hK => ?_)
      · skip
        refine Kd.R_append_rows_step (Kd.int .i64) (w0 := w) w.heap.size (by rfl) (.tmp 35) (.tmp 38) 39 3 (.int .i64 0) 8 rfl Try.underlying39 info3 rfl (by decide) (by omega) v170 y169 (l0.take (x5_1 : Int).toNat) _ _ _ (fun _ => True) (fun _ => False) rfl rfl ?aO ?aR (fun _ _ h => h) (fun _ h => h.elim) ?aF ?aB ?aS ?aL ?_
        (case aR => first | ((conv => (arg 5; rw [← show (l0.take (x5_1 : Int).toNat).length = x5_1.toNat from (by rw [List.length_take]; have h_ : (x5_1 : Int) ≤ (l0.length : Int) := dt_; omega)])); exact cb_ HR172 HB) | (rw [← show (l0.take (x5_1 : Int).toNat).length = x5_1.toNat from (by rw [List.length_take]; have h_ : (x5_1 : Int) ≤ (l0.length : Int) := dt_; omega)]; exact cb_ HR172 HB) | (exact cb_ HR172 HB))
        (case aB => exact (pb_ HB.out))
        (case aF => exact (fun _ _ => trivial))
        (case aO => exact (pr_ HO171.out))
        (case aS => exact (below_size (pb_ HB.out)))
        (case aL => have := LMc32.out; have hlx_ := (show (l0.take (x5_1 : Int).toNat).length = x5_1.toNat from (by rw [List.length_take]; have h_ : (x5_1 : Int) ≤ (l0.length : Int) := dt_; omega)); omega)
        intro v174 w42 ho hb hg hat
        rw [← Ny173.out] at ho
        have _ := Q_ (hb)
        have _ := Q_ (ho)
        clear HB HO171
        rename_i HB HO175
        clear ho hb hg hat
        refine hK.out _ _ trivial (fun hHeld => ?_)
        clear hK K
        refine no_ (some 39) ?_
        refine on_ 6 (some 41) (tm_ 13 1919) HT_ (fun K hK => ?_)
        refine Kd.R_lit_step (Kd.int .i64) _ 3 ?hg (N := 41) ?hd (xs := ([a1] : List Int)) (inner := [.int .i64 a1]) (ok := fun _ => True) (okp := fun _ => True) ?hr ?hp (fun _ hk => hk) trivial (Below.refl _ _) (Nat.le_refl _) (by simp) ?_; (case hd => rfl); (case hg => rfl); (case hr => first | (go_simp; done) | (go_simp; rfl)); (case hp => exact (Reps.one (show Kd.M (Kd.int .i64) _ _ _ a1 [.int .i64 a1] from rfl) (Reps.none _ _)))
        intro v177 w43 ho44 hb hg_ hnew_
        clear hg_ hnew_
        (first | rw [← Ny176.out] at ho44 | (simp only [Int.reduceToNat] at ho44; rw [← Ny176.out] at ho44))
        have _ := Q_ (Kd.R_elder' (pr_ HO175.out) (Kd.R_base ho44) hb)
        have _ := Q_ (Kd.R_lower (Kd.R_new' ho44 (Kd.R_lt (pr_ HO175.out))) (below_size (pb_ HB.out)))
        have _ := Q_ (below_step (pb_ HB.out) hb)
        clear HO175 HB
        rename_i HO175 HO178 HB
        clear hb ho44
        refine hK.out _ _ trivial (fun hHeld => ?_)
        clear hK K
        refine no_ (some 41) ?_
        exact norm_ (by simp only [putAll, Act.put, List.setIfInBounds_toArray, List.set_cons_zero, List.set_cons_succ]) (hCont (v170, v174, v177) _ ⟨(pr_ (Kd.R_mono HO175.out (fun _ hk => hk.2))), (pr_ (Kd.R_mono HO178.out (fun _ hk => hk.2))), (pb_ HB.out)⟩)
      · skip
        refine Kd.R_lit_step (Kd.int .i64) _ 3 ?hg (N := 41) ?hd (xs := ([a1] : List Int)) (inner := [.int .i64 a1]) (ok := fun _ => True) (okp := fun _ => True) ?hr ?hp (fun _ hk => hk) trivial (Below.refl _ _) (Nat.le_refl _) (by simp) ?_; (case hd => rfl); (case hg => rfl); (case hr => first | (go_simp; done) | (go_simp; rfl)); (case hp => exact (Reps.one (show Kd.M (Kd.int .i64) _ _ _ a1 [.int .i64 a1] from rfl) (Reps.none _ _)))
        intro v177 w42 ho43 hb hg_ hnew_
        clear hg_ hnew_
        (first | rw [← Ny176.out] at ho43 | (simp only [Int.reduceToNat] at ho43; rw [← Ny176.out] at ho43))
        have _ := Q_ (Kd.R_elder' (pr_ HO171.out) (Kd.R_base ho43) hb)
        have _ := Q_ (Kd.R_lower (Kd.R_new' ho43 (Kd.R_lt (pr_ HO171.out))) (below_size (pb_ HB.out)))
        have _ := Q_ (below_step (pb_ HB.out) hb)
        clear HO171 HB
        rename_i HO171 HO178 HB
        clear hb ho43
        refine hK.out _ _ trivial (fun hHeld => ?_)
        clear hK K
        refine no_ (some 41) ?_
        refine on_ 4 (some 39) (tm_ 13 1919) HT_ (fun K hK => ?_)
        refine Kd.R_append_rows_step (Kd.int .i64) (w0 := w) w.heap.size (by rfl) (.tmp 35) (.tmp 38) 39 3 (.int .i64 0) 8 rfl Try.underlying39 info3 rfl (by decide) (by omega) v170 y169 (l0.take (x5_1 : Int).toNat) _ _ _ (fun k_ => some k_ ≠ (v177 : Value).ownBlock) (fun _ => False) rfl rfl ?aO ?aR (fun _ _ h => h) (fun _ h => h.elim) ?aF ?aB ?aS ?aL ?_
        (case aR => first | ((conv => (arg 5; rw [← show (l0.take (x5_1 : Int).toNat).length = x5_1.toNat from (by rw [List.length_take]; have h_ : (x5_1 : Int) ≤ (l0.length : Int) := dt_; omega)])); exact cb_ HR172 HB) | (rw [← show (l0.take (x5_1 : Int).toNat).length = x5_1.toNat from (by rw [List.length_take]; have h_ : (x5_1 : Int) ≤ (l0.length : Int) := dt_; omega)]; exact cb_ HR172 HB) | (exact cb_ HR172 HB))
        (case aB => exact (pb_ HB.out))
        (case aF => exact (fun k_ hk => Kd.fresh' (Kd.R_lt (pr_ HO178.out)) k_ hk))
        (case aO => exact (pr_ (Kd.R_mono HO171.out (fun _ hk => hk.2))))
        (case aS => exact (below_size (pb_ HB.out)))
        (case aL => have := LMc32.out; have hlx_ := (show (l0.take (x5_1 : Int).toNat).length = x5_1.toNat from (by rw [List.length_take]; have h_ : (x5_1 : Int) ≤ (l0.length : Int) := dt_; omega)); omega)
        intro v174 w44 ho hb hg hat
        rw [← Ny173.out] at ho
        have _ := Q_ (Kd.R_after (ok := (fun _ => True)) (pr_ HO178.out) hg hat)
        have _ := Q_ (hb)
        have _ := Q_ (ho)
        clear HO178 HB HO171
        rename_i HO178 HB HO175
        clear ho hb hg hat
        refine hK.out _ _ trivial (fun hHeld => ?_)
        clear hK K
        refine no_ (some 39) ?_
        exact norm_ (by simp only [putAll, Act.put, List.setIfInBounds_toArray, List.set_cons_zero, List.set_cons_succ]) (hCont (v170, v174, v177) _ ⟨(pr_ HO175.out), (pr_ (Kd.R_mono HO178.out (fun _ hk => hk.2))), (pb_ HB.out)⟩)
    · skip
      refine Kd.R_lit_step (Kd.int .i64) _ 3 ?hg (N := 41) ?hd (xs := ([a1] : List Int)) (inner := [.int .i64 a1]) (ok := fun _ => True) (okp := fun _ => True) ?hr ?hp (fun _ hk => hk) trivial (Below.refl _ _) (Nat.le_refl _) (by simp) ?_; (case hd => rfl); (case hg => rfl); (case hr => first | (go_simp; done) | (go_simp; rfl)); (case hp => exact (Reps.one (show Kd.M (Kd.int .i64) _ _ _ a1 [.int .i64 a1] from rfl) (Reps.none _ _)))
      intro v177 w40 ho41 hb hg_ hnew_
      clear hg_ hnew_
      (first | rw [← Ny176.out] at ho41 | (simp only [Int.reduceToNat] at ho41; rw [← Ny176.out] at ho41))
      have _ := Q_ (Kd.R_lower ho41 (below_size (pb_ HB.out)))
      have _ := Q_ (below_step (pb_ HB.out) hb)
      clear HB
      rename_i HO178 HB
      clear hb ho41
      refine hK.out _ _ trivial (fun hHeld => ?_)
      clear hK K
      refine no_ (some 41) ?_
      refine on_ 0 (some 35) (tm_ 13 1903) HT_ (fun K hK => ?_)
      refine Kd.R_lit_step (Kd.int .i64) _ 3 ?hg (N := 35) ?hd (xs := ([] : List Int)) (inner := []) (ok := fun _ => True) (okp := fun _ => True) ?hr ?hp (fun _ hk => hk) trivial (Below.refl _ _) (Nat.le_refl _) (by simp) ?_; (case hd => rfl); (case hg => rfl); (case hr => first | (go_simp; done) | (go_simp; rfl)); (case hp => exact (Reps.none _ _))
      intro v170 w42 ho43 hb hg_ hnew_
      clear hg_ hnew_
      (first | rw [← Ny169.out] at ho43 | (simp only [Int.reduceToNat] at ho43; rw [← Ny169.out] at ho43))
      have _ := Q_ (Kd.R_elder' (pr_ HO178.out) (Kd.R_base ho43) hb)
      have _ := Q_ (Kd.R_lower (Kd.R_new' ho43 (Kd.R_lt (pr_ HO178.out))) (below_size (pb_ HB.out)))
      have _ := Q_ (below_step (pb_ HB.out) hb)
      clear HO178 HB
      rename_i HO178 HO171 HB
      clear hb ho43
      refine hK.out _ _ trivial (fun hHeld => ?_)
      clear hK K
      refine no_ (some 35) ?_
      refine on_ 4 (some 39) (tm_ 13 1919) HT_ (fun K hK => ?_)
      refine Kd.R_append_rows_step (Kd.int .i64) (w0 := w) w.heap.size (by rfl) (.tmp 35) (.tmp 38) 39 3 (.int .i64 0) 8 rfl Try.underlying39 info3 rfl (by decide) (by omega) v170 y169 (l0.take (x5_1 : Int).toNat) _ _ _ (fun k_ => some k_ ≠ (v177 : Value).ownBlock) (fun _ => False) rfl rfl ?aO ?aR (fun _ _ h => h) (fun _ h => h.elim) ?aF ?aB ?aS ?aL ?_
      (case aR => first | ((conv => (arg 5; rw [← show (l0.take (x5_1 : Int).toNat).length = x5_1.toNat from (by rw [List.length_take]; have h_ : (x5_1 : Int) ≤ (l0.length : Int) := dt_; omega)])); exact cb_ HR172 HB) | (rw [← show (l0.take (x5_1 : Int).toNat).length = x5_1.toNat from (by rw [List.length_take]; have h_ : (x5_1 : Int) ≤ (l0.length : Int) := dt_; omega)]; exact cb_ HR172 HB) | (exact cb_ HR172 HB))
      (case aB => exact (pb_ HB.out))
      (case aF => exact (fun k_ hk => Kd.fresh' (Kd.R_lt (pr_ HO178.out)) k_ hk))
      (case aO => exact (pr_ (Kd.R_mono HO171.out (fun _ hk => hk.2))))
      (case aS => exact (below_size (pb_ HB.out)))
      (case aL => have := LMc32.out; have hlx_ := (show (l0.take (x5_1 : Int).toNat).length = x5_1.toNat from (by rw [List.length_take]; have h_ : (x5_1 : Int) ≤ (l0.length : Int) := dt_; omega)); omega)
      intro v174 w44 ho hb hg hat
      rw [← Ny173.out] at ho
      have _ := Q_ (Kd.R_after (ok := (fun _ => True)) (pr_ HO178.out) hg hat)
      have _ := Q_ (hb)
      have _ := Q_ (ho)
      clear HO178 HB HO171
      rename_i HO178 HB HO175
      clear ho hb hg hat
      refine hK.out _ _ trivial (fun hHeld => ?_)
      clear hK K
      refine no_ (some 39) ?_
      exact norm_ (by simp only [putAll, Act.put, List.setIfInBounds_toArray, List.set_cons_zero, List.set_cons_succ]) (hCont (v170, v174, v177) _ ⟨(pr_ HO175.out), (pr_ (Kd.R_mono HO178.out (fun _ hk => hk.2))), (pb_ HB.out)⟩)
  rintro ⟨v170, v174, v177⟩ w45 ⟨h0_, h1_, h2_⟩
  have n0_ : Aside0 (Kd.R (Kd.int .i64) 3 w45 w.heap.size (fun k_ => some k_ ≠ (v177 : Value).ownBlock) v174 y173) := ⟨h0_⟩
  have n1_ : Aside0 (Kd.R (Kd.int .i64) 3 w45 w.heap.size (fun k_ => some k_ ≠ (v174 : Value).ownBlock) v177 y176) := ⟨h1_⟩
  have n2_ : Aside0 (Below w.heap.size w w45) := ⟨h2_⟩
  clear HB
  clear h0_ h1_ h2_
  have HO175 := n0_
  have HO178 := n1_
  have HB := n2_
  clear n0_ n1_ n2_
  have hHeld := trivial
  obtain ⟨Ao47, co47, eo47⟩ := Kd.R_slice HO178.out
  (first | subst eo47 | (injection eo47 with f1_ f2_ f3_; have f4_ := f1_.symm; have f5_ := f3_.symm; clear f1_ f2_ f3_; subst f4_; subst f5_))
  refine norm_ (a' := ?_) ?_ ?_
  rotate_left
  · simp only [putAll, Act.put, List.setIfInBounds_toArray, List.set_cons_zero, List.set_cons_succ]
    rfl
  refine on_ 7 (some 42) (tf_ 11 13) HT_ (fun K hK => ?_)
  refine Kd.R_append_rows_step (Kd.int .i64) (w0 := w) w.heap.size (by rfl) (.tmp 39) (.tmp 41) 39 3 (.int .i64 0) 8 rfl Try.underlying39 info3 rfl (by decide) (by omega) v174 y173 y176 _ _ _ (fun k_ => some k_ ≠ (.slice Ao47 y176.length co47 : Value).ownBlock) (fun _ => False) rfl rfl ?aO ?aR (fun _ _ h => h) (fun _ h => h.elim) ?aF ?aB ?aS ?aL ?_
  (case aR => exact pc_ ((Kd.R_reads' HO178.out).2.2))
  (case aB => exact (pb_ HB.out))
  (case aF => exact (fun k_ hk => Kd.fresh' (Kd.R_lt (pr_ HO178.out)) k_ hk))
  (case aO => exact (pr_ HO175.out))
  (case aS => exact (below_size (pb_ HB.out)))
  (case aL => have := LMc33.out; omega)
  intro v180 w46 ho hb hg hat
  rw [← Ny179.out] at ho
  have _ := Q_ (Kd.R_after (ok := (fun _ => True)) (by (with_reducible repeat (first | apply Kd.R_alloc | apply Kd.R_drewN | apply Kd.R_drew)); exact Kd.R_mono HO178.out (fun _ hk => ⟨trivial, hk⟩)) hg hat)
  have _ := Q_ (hb)
  have _ := Q_ (ho)
  clear HO178 HB HO175
  rename_i HO178 HB HO181
  clear ho hb hg hat
  refine hK.out _ _ trivial (fun hHeld => ?_)
  clear hK K
  refine no_ (some 42) ?_
  refine on_ 11 (some 46) (tf_ 12 13) HT_ (fun K hK => ?_)
  refine Kd.R_append_rows_step (Kd.int .i64) (w0 := w) w.heap.size (by rfl) (.tmp 42) (.tmp 45) 39 3 (.int .i64 0) 8 rfl Try.underlying39 info3 rfl (by decide) (by omega) v180 y179 (l0.drop (x5_1 : Int).toNat) _ _ _ (fun k_ => some k_ ≠ (.slice Ao47 y176.length co47 : Value).ownBlock) (fun _ => False) rfl rfl ?aO ?aR (fun _ _ h => h) (fun _ h => h.elim) ?aF ?aB ?aS ?aL ?_
  (case aR => first | ((conv => (arg 5; rw [← show (l0.drop (x5_1 : Int).toNat).length = (l0.length - x5_1.toNat) from List.length_drop])); exact cb_ HR182 HB) | (rw [← show (l0.drop (x5_1 : Int).toNat).length = (l0.length - x5_1.toNat) from List.length_drop]; exact cb_ HR182 HB) | (exact cb_ HR182 HB))
  (case aB => exact (pb_ HB.out))
  (case aF => exact (fun k_ hk => Kd.fresh' (Kd.R_lt (pr_ HO178.out)) k_ hk))
  (case aO => exact (pr_ HO181.out))
  (case aS => exact (below_size (pb_ HB.out)))
  (case aL => have := LMc36.out; have hlx_ := (show (l0.drop (x5_1 : Int).toNat).length = (l0.length - x5_1.toNat) from List.length_drop); omega)
  intro v184 w48 ho hb hg hat
  rw [← Ny183.out] at ho
  have _ := Q_ (Kd.R_after (ok := (fun _ => True)) (pr_ HO178.out) hg hat)
  have _ := Q_ (hb)
  have _ := Q_ (ho)
  clear HO178 HB HO181
  rename_i HO178 HB HO185
  clear ho hb hg hat
  refine hK.out _ _ trivial (fun hHeld => ?_)
  clear hK K
  refine no_ (some 46) ?_
  refine pu_ 12 (some 4) (tf_ 13 13) HT_ ?_
  refine done_ (done_of HT_.out (by kernel_rfl)) ?_
  try go_wp2
  go_ret
  exact ⟨_, er_, pr_ (Kd.R_mono HO185.out (fun _ hk => trivial)), pb_ HB.out⟩

/-! ### spec_MovesFrom: function 70 -/
def spec_MovesFrom.l0 : Nat → Int → Bool → List Int → Int → Int → List Bool → List (S78) → Option (List Int)
  | 0, _, _, _, _, _, _, _ => none
  | k + 1, x1, x2, x7, x8, x204000, x204001, x204002 => if x8 < (x204002.length : Int) then (if 0 ≤ x8 then (if ((rd_T78 x204002 x8).f0) = x1 then (if (((rd_T78 x204002 x8).f1) == x2) = true then ((spec_l4Put.f k x7 ((rd_T78 x204002 x8).f2)).bind fun t210 => (spec_MovesFrom.l0 k x1 x2 t210 (wrap64 (x8 + 1)) x204000 x204001 x204002)) else (spec_MovesFrom.l0 k x1 x2 x7 (wrap64 (x8 + 1)) x204000 x204001 x204002)) else (spec_MovesFrom.l0 k x1 x2 x7 (wrap64 (x8 + 1)) x204000 x204001 x204002)) else (none)) else (some x7)
def spec_MovesFrom.f (k : Nat) (a0_0 : Int) (l0_1 : List Bool) (l0_2 : List (S78)) (a1 : Int) (a2 : Bool) : Option (List Int) := spec_MovesFrom.l0 k a1 a2 (([] : List Int)) 0 a0_0 l0_1 l0_2
theorem spec_MovesFrom.mono_l : ∀ k, (∀ y0 y1 y2 y3 y4 y5 y6, LeO (spec_MovesFrom.l0 k y0 y1 y2 y3 y4 y5 y6) (spec_MovesFrom.l0 (k + 1) y0 y1 y2 y3 y4 y5 y6))
  | 0 => fun _ _ _ _ _ _ _ r h => by simp [spec_MovesFrom.l0] at h
  | k + 1 => by
    have ih0 := spec_MovesFrom.mono_l k
    · intro y0 y1 y2 y3 y4 y5 y6
      unfold spec_MovesFrom.l0
      exact mo2_ ih0 spec_l4Put.mono
theorem spec_MovesFrom.mono : ∀ a0 a1 a2 a3 a4 k, LeO (spec_MovesFrom.f k a0 a1 a2 a3 a4) (spec_MovesFrom.f (k + 1) a0 a1 a2 a3 a4) := by
  intro a0 a1 a2 a3 a4 k
  have ih0 := spec_MovesFrom.mono_l k
  unfold spec_MovesFrom.f
  exact mo2_ ih0 spec_l4Put.mono
set_option maxHeartbeats 8000000 in
set_option maxRecDepth 100000 in
theorem spec_MovesFrom.calls (k : Nat) (a0_0 : Int) (A0_1 : Option Addr) (c0_1 : Nat) (l0_1 : List Bool) (A0_2 : Option Addr) (c0_2 : Nat) (l0_2 : List (S78)) (a1 : Int) (a2 : Bool) (r : List Int) (w : World) (hr0_1 : Kd.C Kd.bool w A0_1 l0_1.length l0_1) (hc0_1 : l0_1.length ≤ c0_1) (hr0_2 : Kd.C k78 w A0_2 l0_2.length l0_2) (hc0_2 : l0_2.length ≤ c0_2) (h : spec_MovesFrom.f k a0_0 l0_1 l0_2 a1 a2 = some r) :
    Calls Try.prog 70 #[.agg #[.int .i64 a0_0, .slice A0_1 l0_1.length c0_1, .slice A0_2 l0_2.length c0_2], .int .i64 a1, .bool a2] w fun e w' => ∃ v0_ : Value, e = .returned (v0_) ∧ Kd.R (Kd.int .i64) 3 w' w.heap.size (fun _ => True) v0_ r ∧ Below w.heap.size w w' := by
  have hu34 := Try.underlying34
  have HR0_1 := Q_ hr0_1
  have HC0_1 := Q_ hc0_1
  clear hr0_1 hc0_1
  have HR0_2 := Q_ hr0_2
  have HC0_2 := Q_ hc0_2
  clear hr0_2 hc0_2
  have HB := Q_ (Below.refl w.heap.size w)
  have H : (spec_MovesFrom.l0 k a1 a2 (([] : List Int)) 0 a0_0 l0_1 l0_2) = some r := h
  clear h
  obtain ⟨y204, hy204⟩ : ∃ y_ : List Int, y_ = (([] : List Int)) := ⟨_, rfl⟩
  replace H : (spec_MovesFrom.l0 k a1 a2 y204 0 a0_0 l0_1 l0_2) = some r := by first | (rw [hy204]; with_reducible exact H) | (have H2_ := (Option.bind_some _ _).symm.trans H; rw [hy204]; with_reducible exact H2_) | (have H2_ := (Option.bind_some _ _).symm.trans H; with_reducible exact H2_) | with_reducible exact H | (rw [hy204]; exact H) | exact H
  have Ny204 := Q_ hy204
  clear hy204
  have H' := Q_ H
  clear H
  go_enter Try.func70, Try.ntmps70
  go_wp2_with (first | ((with_reducible refine gate_dst (N := 3) rfl ?_); refine box_event ?hg (N := 3) ?hd (cs := #[.int .i64 a0_0, .slice A0_1 l0_1.length c0_1, .slice A0_2 l0_2.length c0_2]) (t := 34) ?hr ?_; (case hd => rfl); (case hg => rfl); (case hr => first | (go_simp; done) | (go_simp; rfl)); intro gb203 hg w4 hbox hb; have n0_ := Q_ (below_step (pb_ HB.out) hb); have n1_ := Q_ (hbox); have n2_ := Q_ ((by rw [hg]; exact (below_size (pb_ HB.out)) : w.heap.size ≤ gb203)); have n3_ := n2_; clear HB; have HB := n0_; have BK203 := n1_; have GW203 := n2_; have GE203 := n3_; clear n0_ n1_ n2_ n3_; clear hb hbox hg) | ((with_reducible refine gate_dst (N := 9) rfl ?_); refine Kd.R_lit (Kd.int .i64) _ 3 ?hg (N := 9) ?hd (xs := ([] : List Int)) (inner := []) (ok := fun _ => True) (okp := fun _ => True) ?hr ?hp (fun _ hk => hk) trivial (Below.refl _ _) (Nat.le_refl _) (by simp) ?_; (case hd => rfl); (case hg => rfl); (case hr => first | (go_simp; done) | (go_simp; rfl)); (case hp => exact (Reps.none _ _)); intro v205 w5 ho6 hb hg_ hnew_; clear hg_ hnew_; (first | rw [← Ny204.out] at ho6 | (simp only [Int.reduceToNat] at ho6; rw [← Ny204.out] at ho6)); have _ := Q_ (Kd.R_lower ho6 (below_size (pb1_ HB.out GE203.out))); have _ := Q_ (bb_ BK203.out hb); have _ := Q_ (below_step (pb1_ HB.out GE203.out) hb); clear BK203 HB; rename_i HO206 BK203 HB; clear hb ho6))
  (try simp only [Act.put, List.setIfInBounds_toArray, List.set_cons_zero, List.set_cons_succ])
  go_loopg [7, 8] k (fun kq v7 v8 w' => ∃ (x7_1 : List Int) (x8_1 : Int), v8 = .int .i64 x8_1 ∧ Aside0 (spec_MovesFrom.l0 kq a1 a2 x7_1 x8_1 a0_0 l0_1 l0_2 = some r) ∧ Aside0 (kq ≤ k) ∧ Aside0 (Kd.R (Kd.int .i64) 3 w' w.heap.size (fun _ => True) v7 x7_1) ∧ Aside0 (w'.heap[gb203]? = some (.cells #[.int .i64 a0_0, (.slice A0_1 l0_1.length c0_1), (.slice A0_2 l0_2.length c0_2)] 34 (0, 0))) ∧ Aside0 (Below w.heap.size w w'))
  case atStart => exact ⟨(y204), (0), el_, H', ⟨Nat.le_refl _⟩, ⟨pr_ HO206.out⟩, ⟨pk_ BK203.out⟩, ⟨pb1_ HB.out GE203.out⟩⟩
  clear H'
  try clear p2
  obtain ⟨x7_1, x8_1, rfl, HA, HK1, HO_7, BK203, HB⟩ := hrel
  rcases gk with _ | k1
  · exact absurd HA.out (by simp [spec_MovesFrom.l0])
  have H := HA.out
  clear HA
  simp only [spec_MovesFrom.l0] at H
  by_cases c7 : x8_1 < (l0_2.length : Int)
  rotate_left
  · rw [if_neg c7] at H
    have c7b0 : decide (x8_1 < (l0_2.length : Int)) = false := decide_eq_false c7
    clear c7
    obtain rfl := Option.some.inj H
    have hcz8 := bc3_ BK203.out
    go_wp2
    go_ret
    exact ⟨_, er_, pr_ HO_7.out, pb1_ HB.out GE203.out⟩
  rw [if_pos c7] at H
  have c7b0 : decide (x8_1 < (l0_2.length : Int)) = true := decide_eq_true c7
  clear c7
  by_cases c9 : 0 ≤ x8_1
  rotate_left
  · rw [if_neg c9] at H
    exact absurd H (by simp)
  rw [if_pos c9] at H
  have c9b0 : decide (0 ≤ x8_1) = true := decide_eq_true c9
  clear c9
  by_cases c10 : ((rd_T78 l0_2 x8_1).f0) = a1
  rotate_left
  · rw [if_neg c10] at H
    have c10b0 : (((rd_T78 l0_2 x8_1).f0) == a1) = false := beq_eq_false_iff_ne.mpr c10
    have c10b1 : (((rd_T78 l0_2 x8_1).f0) != a1) = true := bne_iff_ne.mpr c10
    have H' := Q_ H
    clear H
    have hcz11 := bc3_ BK203.out
    have p207 : 0 ≤ (x8_1 : Int) := dt_
    have q207 : x8_1 < (l0_2.length : Int) := dt_
    obtain ⟨ad207, e207, hx207_0, hx207_1, hx207_2, hx207_3⟩ := at_T78 HR0_2.out x8_1 p207 q207
    cases e207
    replace hx207_0 := bt_ HB hx207_0
    replace hx207_1 := bt_ HB hx207_1
    replace hx207_2 := bt_ HB hx207_2
    replace hx207_3 := bt_ HB hx207_3
    replace p207 := eq_true p207
    replace q207 := eq_true q207
    go_wp2
    go_roundg k1
    case measure => have := HK1.out; omega
    case rel => exact ⟨(x7_1), (wrap64 (x8_1 + 1)), el_, H', ⟨by have := HK1.out; omega⟩, ⟨pr_ HO_7.out⟩, ⟨pk_ BK203.out⟩, ⟨pb1_ HB.out GE203.out⟩⟩
  rw [if_pos c10] at H
  have c10b0 : (((rd_T78 l0_2 x8_1).f0) == a1) = true := beq_iff_eq.mpr c10
  have c10b1 : (((rd_T78 l0_2 x8_1).f0) != a1) = false := bne_eq_false_iff_eq.mpr c10
  clear c10
  by_cases c12 : (((rd_T78 l0_2 x8_1).f1) == a2) = true
  rotate_left
  · rw [if_neg c12] at H
    have c12b0 : (((rd_T78 l0_2 x8_1).f1) == a2) = false := by simpa using c12
    (try (have c12b1 : decide (((rd_T78 l0_2 x8_1).f1) = a2) = false := by simpa using c12))
    (try (have c12b2 : (((rd_T78 l0_2 x8_1).f1) == a2) = false := by simpa using c12))
    (try (have c12b3 : ¬ (((rd_T78 l0_2 x8_1).f1) = a2) := by simpa using c12))
    clear c12
    have H' := Q_ H
    clear H
    have hcz13 := bc3_ BK203.out
    have p207 : 0 ≤ (x8_1 : Int) := dt_
    have q207 : x8_1 < (l0_2.length : Int) := dt_
    obtain ⟨ad207, e207, hx207_0, hx207_1, hx207_2, hx207_3⟩ := at_T78 HR0_2.out x8_1 p207 q207
    cases e207
    replace hx207_0 := bt_ HB hx207_0
    replace hx207_1 := bt_ HB hx207_1
    replace hx207_2 := bt_ HB hx207_2
    replace hx207_3 := bt_ HB hx207_3
    replace p207 := eq_true p207
    replace q207 := eq_true q207
    have p208 : 0 ≤ (x8_1 : Int) := dt_
    have q208 : x8_1 < (l0_2.length : Int) := dt_
    obtain ⟨ad208, e208, hx208_0, hx208_1, hx208_2, hx208_3⟩ := at_T78 HR0_2.out x8_1 p208 q208
    obtain rfl : ad207 = ad208 := (by injection e208)
    replace hx208_0 := bt_ HB hx208_0
    replace hx208_1 := bt_ HB hx208_1
    replace hx208_2 := bt_ HB hx208_2
    replace hx208_3 := bt_ HB hx208_3
    replace p208 := eq_true p208
    replace q208 := eq_true q208
    go_wp2
    go_roundg k1
    case measure => have := HK1.out; omega
    case rel => exact ⟨(x7_1), (wrap64 (x8_1 + 1)), el_, H', ⟨by have := HK1.out; omega⟩, ⟨pr_ HO_7.out⟩, ⟨pk_ BK203.out⟩, ⟨pb1_ HB.out GE203.out⟩⟩
  rw [if_pos c12] at H
  have c12b0 : (((rd_T78 l0_2 x8_1).f1) == a2) = true := c12
  (try (have c12b1 : decide (((rd_T78 l0_2 x8_1).f1) = a2) = true := by simpa using c12))
  (try (have c12b2 : (((rd_T78 l0_2 x8_1).f1) == a2) = true := by simpa using c12))
  clear c12
  replace H := Option.bind_eq_some_iff.mp H
  obtain ⟨t210, A140, H⟩ := H
  (try dsimp only at H)
  have A14 := Q_ A140
  clear A140
  have H' := Q_ H
  clear H
  have hcz15 := bc3_ BK203.out
  have p207 : 0 ≤ (x8_1 : Int) := dt_
  have q207 : x8_1 < (l0_2.length : Int) := dt_
  obtain ⟨ad207, e207, hx207_0, hx207_1, hx207_2, hx207_3⟩ := at_T78 HR0_2.out x8_1 p207 q207
  cases e207
  replace hx207_0 := bt_ HB hx207_0
  replace hx207_1 := bt_ HB hx207_1
  replace hx207_2 := bt_ HB hx207_2
  replace hx207_3 := bt_ HB hx207_3
  replace p207 := eq_true p207
  replace q207 := eq_true q207
  have p208 : 0 ≤ (x8_1 : Int) := dt_
  have q208 : x8_1 < (l0_2.length : Int) := dt_
  obtain ⟨ad208, e208, hx208_0, hx208_1, hx208_2, hx208_3⟩ := at_T78 HR0_2.out x8_1 p208 q208
  obtain rfl : ad207 = ad208 := (by injection e208)
  replace hx208_0 := bt_ HB hx208_0
  replace hx208_1 := bt_ HB hx208_1
  replace hx208_2 := bt_ HB hx208_2
  replace hx208_3 := bt_ HB hx208_3
  replace p208 := eq_true p208
  replace q208 := eq_true q208
  have p209 : 0 ≤ (x8_1 : Int) := dt_
  have q209 : x8_1 < (l0_2.length : Int) := dt_
  obtain ⟨ad209, e209, hx209_0, hx209_1, hx209_2, hx209_3⟩ := at_T78 HR0_2.out x8_1 p209 q209
  obtain rfl : ad207 = ad209 := (by injection e209)
  replace hx209_0 := bt_ HB hx209_0
  replace hx209_1 := bt_ HB hx209_1
  replace hx209_2 := bt_ HB hx209_2
  replace hx209_3 := bt_ HB hx209_3
  replace p209 := eq_true p209
  replace q209 := eq_true q209
  obtain ⟨Ao16, co16, eo16⟩ := Kd.R_slice HO_7.out
  subst eo16
  go_wp2_with (first | ((with_reducible refine gate_callee (f := 84) rfl ?_); refine gl_ (some 42) Try.func84 #[.slice Ao16 x7_1.length co16, .int .i64 ((rd_T78 l0_2 x8_1).f2)] ?_; (with_reducible refine (spec_l4Put.calls k1 _ _ x7_1 ((rd_T78 l0_2 x8_1).f2) t210 _ ?side1 ?side2 A14.out).mono ?_); (case side1 => exact pc_ ((Kd.R_reads' HO_7.out).2.2)); (case side2 => exact (Kd.R_reads' HO_7.out).2.1); rintro e w17 ⟨v211, rfl, ho0, hb⟩; refine ⟨_, rfl, ?_⟩; have _ := Q_ (Kd.R_elder' (pr_ HO_7.out) (Kd.R_base ho0) hb); have _ := Q_ (Kd.R_lower (Kd.R_new' ho0 (Kd.R_lt (pr_ HO_7.out))) (below_size (pb1_ HB.out GE203.out))); have _ := Q_ (bb_ BK203.out hb); have _ := Q_ (below_step (pb1_ HB.out GE203.out) hb); clear HO_7 BK203 HB; rename_i HO_7 HO212 BK203 HB; (try clear hb); (try clear hb2); (try clear hk); (try clear hi); (try clear ho0)))
  go_roundg k1
  case measure => have := HK1.out; omega
  case rel => exact ⟨(t210), (wrap64 (x8_1 + 1)), el_, H', ⟨by have := HK1.out; omega⟩, ⟨pr_ (Kd.R_mono HO212.out (fun _ hk => trivial))⟩, ⟨pk_ BK203.out⟩, ⟨pb1_ HB.out GE203.out⟩⟩

end Go.Proofs.Ytldcchjbaglppaa.Print
