-- Written by a program of this session (printx.py) out of the translation; Lean checks it.
import Derived.Test.YtldcchjbaglppaaPrint0
namespace Go.Proofs.Ytldcchjbaglppaa.Print
open Go.RowKit Go.Proofs.YtldcchjbaglppaaW.PrintWords Go.Proofs.YtldcchjbaglppaaW.PrintLast Go.Proofs.YtldcchjbaglppaaW.PrintMore Go.Proofs.Ytldcchjbaglppaa.Short
attribute [local go_sem] max2_int min2_int max_two min_two max_three min_three max_four min_four   -- for this text's walks alone
set_option linter.unusedVariables false
set_option linter.unusedSimpArgs false

/-! ### spec_l4Put: function 84 -/
def spec_l4Put.l0 : Nat → List Int → Int → Int → Option (List Int)
  | 0, _, _, _ => none
  | k + 1, x0, x1, x5 => if x5 < (x0.length : Int) then (if 0 ≤ x5 then (if (rd x0 x5) < x1 then (spec_l4Put.l0 k x0 x1 (wrap64 (x5 + 1))) else (if (rd x0 x5) = x1 then ((some (([] : List Int) : List Int)).bind fun y295 => (if y295.length + x0.length < 17592186044416 then (some (y295 ++ x0)) else (none))) else ((some (([] : List Int) : List Int)).bind fun y301 => (if x5 ≤ (x0.length : Int) then (if y301.length + (x0.take (x5 : Int).toNat).length < 17592186044416 then ((some (y301 ++ (x0.take (x5 : Int).toNat) : List Int)).bind fun y305 => ((some (([x1] : List Int) : List Int)).bind fun y308 => (if y305.length + y308.length < 17592186044416 then ((some (y305 ++ y308 : List Int)).bind fun y311 => (if y311.length + (x0.drop (x5 : Int).toNat).length < 17592186044416 then (some (y311 ++ (x0.drop (x5 : Int).toNat))) else (none))) else (none)))) else (none)) else (none))))) else (none)) else ((some (([] : List Int) : List Int)).bind fun y318 => (if 0 ≤ x5 then (if x5 ≤ (x0.length : Int) then (if y318.length + (x0.take (x5 : Int).toNat).length < 17592186044416 then ((some (y318 ++ (x0.take (x5 : Int).toNat) : List Int)).bind fun y322 => ((some (([x1] : List Int) : List Int)).bind fun y325 => (if y322.length + y325.length < 17592186044416 then ((some (y322 ++ y325 : List Int)).bind fun y328 => (if y328.length + (x0.drop (x5 : Int).toNat).length < 17592186044416 then (some (y328 ++ (x0.drop (x5 : Int).toNat))) else (none))) else (none)))) else (none)) else (none)) else (none)))
def spec_l4Put.f (k : Nat) (l0 : List Int) (a1 : Int) : Option (List Int) := spec_l4Put.l0 k l0 a1 0
theorem spec_l4Put.mono_l : ∀ k, (∀ y0 y1 y2, LeO (spec_l4Put.l0 k y0 y1 y2) (spec_l4Put.l0 (k + 1) y0 y1 y2))
  | 0 => fun _ _ _ r h => by simp [spec_l4Put.l0] at h
  | k + 1 => by
    have ih0 := spec_l4Put.mono_l k
    · intro y0 y1 y2
      unfold spec_l4Put.l0
      repeat' first
      | (with_reducible exact ih0 _ _ _)
      | (with_reducible exact LeO.refl _)
      | (with_reducible exact LeO.none _)
      | (with_reducible refine LeO.ite ?_ ?_)
      | (with_reducible refine LeO.bind ?_ (fun _ => ?_))
      | exact ih0 _ _ _
      | exact LeO.none _
      | refine LeO.ite ?_ ?_
      | refine LeO.bind ?_ (fun _ => ?_)
theorem spec_l4Put.mono : ∀ a0 a1 k, LeO (spec_l4Put.f k a0 a1) (spec_l4Put.f (k + 1) a0 a1) := by
  intro a0 a1 k
  have ih0 := spec_l4Put.mono_l k
  unfold spec_l4Put.f
  repeat' first
      | (with_reducible exact ih0 _ _ _)
      | (with_reducible exact LeO.refl _)
      | (with_reducible exact LeO.none _)
      | (with_reducible refine LeO.ite ?_ ?_)
      | (with_reducible refine LeO.bind ?_ (fun _ => ?_))
      | exact ih0 _ _ _
      | exact LeO.none _
      | refine LeO.ite ?_ ?_
      | refine LeO.bind ?_ (fun _ => ?_)
def spec_l4Put.T6 : Bool × List (List Nat × List Nat) := (true, [([], []), ([], []), ([], []), ([1, 2], [1, 2]), ([0, 3], [0, 3]), ([], []), ([5], [5]), ([4, 6, 4], [4, 6]), ([], []), ([], []), ([8, 9], [8, 9]), ([7, 10, 7], [7, 10]), ([11, 11, 0, 1, 2, 3, 4, 5, 6, 7, 8, 9, 10, 11], [11])])
def spec_l4Put.B6 : List Nat := [0, 0, 0, 6, 15, 0, 32, 127, 0, 0, 768, 2047, 4095]
theorem spec_l4Put.tab6 : rtab .any (opsOf Try.f84 6) = spec_l4Put.T6 := by kernel_rfl
theorem spec_l4Put.bits6 : waitsOk spec_l4Put.T6.2 spec_l4Put.B6 = true := by kernel_rfl
set_option maxHeartbeats 8000000 in
set_option maxRecDepth 100000 in
theorem spec_l4Put.calls (k : Nat) (A0 : Option Addr) (c0 : Nat) (l0 : List Int) (a1 : Int) (r : List Int) (w : World) (hr0 : Kd.C (Kd.int .i64) w A0 l0.length l0) (hc0 : l0.length ≤ c0) (h : spec_l4Put.f k l0 a1 = some r) :
    Calls Try.prog 84 #[.slice A0 l0.length c0, .int .i64 a1] w fun e w' => ∃ v0_ : Value, e = .returned (v0_) ∧ Kd.R (Kd.int .i64) 3 w' w.heap.size (fun _ => True) v0_ r ∧ Below w.heap.size w w' := by
  have HR0 := Aside0.mk hr0
  have HC0 := Aside0.mk hc0
  clear hr0 hc0
  have HB := Aside0.mk (Below.refl w.heap.size w)
  have H : (spec_l4Put.l0 k l0 a1 0) = some r := h
  clear h
  have H' := Aside0.mk H
  clear H
  go_enter Try.func84, Try.ntmps84
  go_wp2
  go_loopg [5] k (fun kq v5 w' => ∃ (x5_1 : Int), v5 = .int .i64 x5_1 ∧ Aside0 (spec_l4Put.l0 kq l0 a1 x5_1 = some r) ∧ Aside0 (kq ≤ k) ∧ Aside0 (Below w.heap.size w w'))
  case atStart => exact ⟨(0), el_, H', ⟨Nat.le_refl _⟩, ⟨pb_ HB.out⟩⟩
  clear H'
  try clear p2
  obtain ⟨x5_1, rfl, HA, HK1, HB⟩ := hrel
  rcases gk with _ | k1
  · exact absurd HA.out (by simp [spec_l4Put.l0])
  have H := HA.out
  clear HA
  simp only [spec_l4Put.l0] at H
  by_cases c3 : x5_1 < (l0.length : Int)
  rotate_left
  · rw [if_neg c3] at H
    have c3b0 : decide (x5_1 < (l0.length : Int)) = false := decide_eq_false c3
    clear c3
    obtain ⟨y318, hy318⟩ : ∃ y_ : List Int, y_ = (([] : List Int)) := ⟨_, rfl⟩
    replace H : (if 0 ≤ x5_1 then (if x5_1 ≤ (l0.length : Int) then (if y318.length + (l0.take (x5_1 : Int).toNat).length < 17592186044416 then ((some (y318 ++ (l0.take (x5_1 : Int).toNat) : List Int)).bind fun y322 => ((some (([a1] : List Int) : List Int)).bind fun y325 => (if y322.length + y325.length < 17592186044416 then ((some (y322 ++ y325 : List Int)).bind fun y328 => (if y328.length + (l0.drop (x5_1 : Int).toNat).length < 17592186044416 then (some (y328 ++ (l0.drop (x5_1 : Int).toNat))) else (none))) else (none)))) else (none)) else (none)) else (none)) = some r := by first | (rw [hy318]; with_reducible exact H) | (have H2_ := (Option.bind_some _ _).symm.trans H; rw [hy318]; with_reducible exact H2_) | (have H2_ := (Option.bind_some _ _).symm.trans H; with_reducible exact H2_) | with_reducible exact H | (rw [hy318]; exact H) | exact H
    have Ny318 := Aside0.mk hy318
    clear hy318
    by_cases c4 : 0 ≤ x5_1
    rotate_left
    · rw [if_neg c4] at H
      exact absurd H (by simp)
    rw [if_pos c4] at H
    have c4b0 := eq_true c4
    have c4b1 : decide (0 ≤ x5_1) = true := decide_eq_true c4
    clear c4
    by_cases c5 : x5_1 ≤ (l0.length : Int)
    rotate_left
    · rw [if_neg c5] at H
      exact absurd H (by simp)
    rw [if_pos c5] at H
    have c5b0 := eq_true c5
    have c5b1 : decide (x5_1 ≤ (l0.length : Int)) = true := decide_eq_true c5
    clear c5
    by_cases c6 : y318.length + (l0.take (x5_1 : Int).toNat).length < 17592186044416
    rotate_left
    · rw [if_neg c6] at H
      exact absurd H (by simp)
    rw [if_pos c6] at H
    have LMc6 := Aside0.mk c6
    clear c6
    obtain ⟨y322, hy322⟩ : ∃ y_ : List Int, y_ = (y318 ++ (l0.take (x5_1 : Int).toNat)) := ⟨_, rfl⟩
    replace H : ((some (([a1] : List Int) : List Int)).bind fun y325 => (if y322.length + y325.length < 17592186044416 then ((some (y322 ++ y325 : List Int)).bind fun y328 => (if y328.length + (l0.drop (x5_1 : Int).toNat).length < 17592186044416 then (some (y328 ++ (l0.drop (x5_1 : Int).toNat))) else (none))) else (none))) = some r := by first | (rw [hy322]; with_reducible exact H) | (have H2_ := (Option.bind_some _ _).symm.trans H; rw [hy322]; with_reducible exact H2_) | (have H2_ := (Option.bind_some _ _).symm.trans H; with_reducible exact H2_) | with_reducible exact H | (rw [hy322]; exact H) | exact H
    have Ny322 := Aside0.mk hy322
    clear hy322
    obtain ⟨y325, hy325⟩ : ∃ y_ : List Int, y_ = (([a1] : List Int)) := ⟨_, rfl⟩
    replace H : (if y322.length + y325.length < 17592186044416 then ((some (y322 ++ y325 : List Int)).bind fun y328 => (if y328.length + (l0.drop (x5_1 : Int).toNat).length < 17592186044416 then (some (y328 ++ (l0.drop (x5_1 : Int).toNat))) else (none))) else (none)) = some r := by first | (rw [hy325]; with_reducible exact H) | (have H2_ := (Option.bind_some _ _).symm.trans H; rw [hy325]; with_reducible exact H2_) | (have H2_ := (Option.bind_some _ _).symm.trans H; with_reducible exact H2_) | with_reducible exact H | (rw [hy325]; exact H) | exact H
    have Ny325 := Aside0.mk hy325
    clear hy325
    by_cases c7 : y322.length + y325.length < 17592186044416
    rotate_left
    · rw [if_neg c7] at H
      exact absurd H (by simp)
    rw [if_pos c7] at H
    have LMc7 := Aside0.mk c7
    clear c7
    obtain ⟨y328, hy328⟩ : ∃ y_ : List Int, y_ = (y322 ++ y325) := ⟨_, rfl⟩
    replace H : (if y328.length + (l0.drop (x5_1 : Int).toNat).length < 17592186044416 then (some (y328 ++ (l0.drop (x5_1 : Int).toNat))) else (none)) = some r := by first | (rw [hy328]; with_reducible exact H) | (have H2_ := (Option.bind_some _ _).symm.trans H; rw [hy328]; with_reducible exact H2_) | (have H2_ := (Option.bind_some _ _).symm.trans H; with_reducible exact H2_) | with_reducible exact H | (rw [hy328]; exact H) | exact H
    have Ny328 := Aside0.mk hy328
    clear hy328
    have c8b0 := eq_true (dt_ : 0 ≤ x5_1)
    have c9b0 := eq_true (dt_ : x5_1 ≤ (l0.length : Int))
    by_cases c10 : y328.length + (l0.drop (x5_1 : Int).toNat).length < 17592186044416
    rotate_left
    · rw [if_neg c10] at H
      exact absurd H (by simp)
    rw [if_pos c10] at H
    have LMc10 := Aside0.mk c10
    clear c10
    obtain ⟨y332, hy332⟩ : ∃ y_ : List Int, y_ = (y328 ++ (l0.drop (x5_1 : Int).toNat)) := ⟨_, rfl⟩
    replace H : (some y332) = some r := by first | (rw [hy332]; with_reducible exact H) | (have H2_ := (Option.bind_some _ _).symm.trans H; rw [hy332]; with_reducible exact H2_) | (have H2_ := (Option.bind_some _ _).symm.trans H; with_reducible exact H2_) | with_reducible exact H | (rw [hy332]; exact H) | exact H
    have Ny332 := Aside0.mk hy332
    clear hy332
    obtain rfl := Option.some.inj H
    try go_wp2
    have _ := Aside0.mk (below_drew1 HB.out)
    clear HB
    rename_i HB
    obtain ⟨i012, hi012, _, hsz12, _⟩ := info_parts info3
    obtain ⟨hcut12, hA12, hC12⟩ := print_take_of (P := Try.prog) (Value.int .i64) 0 39 3 .i64 Try.underlying39 hi012 hsz12 A0 c0 l0 x5_1 dt_ dt_ HC0.out
    have HR321 := Aside0.mk (Kd.C_of_reads (h1 := fun _ => rfl) (hA12 _ (Kd.reads_of_C HR0.out)))
    have HC321 := Aside0.mk hC12
    clear hA12 hC12 hi012 hsz12
    obtain ⟨i013, hi013, _, hsz13, _⟩ := info_parts info3
    obtain ⟨A13, hcut13, hA13, hC13⟩ := print_drop_of (P := Try.prog) (Value.int .i64) 0 39 3 .i64 Try.underlying39 hi013 hsz13 A0 c0 l0 x5_1 dt_ dt_ HC0.out
    have HR331 := Aside0.mk (Kd.C_of_reads (h1 := fun _ => rfl) (hA13 _ (Kd.reads_of_C HR0.out)))
    have HC331 := Aside0.mk hC13
    clear hA13 hC13 hi013 hsz13
    refine start_ (n := 13) (S := fun w' => True) (ds := []) (tf_ 0 13) (by kernel_rfl) rfl rfl trivial (fun hHeld => ?_); refine with_tabW spec_l4Put.tab6 spec_l4Put.bits6 (fun HT_ HW_ => ?_)
    generalize wr.drew = w11 at HB HR321 HR331 hHeld ⊢
    refine pu_ 1 (some 36) (tm_ 13 2) HT_ ?_
    refine pu_ 2 (some 37) (tm_ 13 6) HT_ ?_
    refine pu_ 3 (some 38) (tm_ 13 14) HT_ ?_
    refine pu_ 5 (some 40) (tm_ 13 46) HT_ ?_
    refine pu_ 8 (some 43) (tm_ 13 302) HT_ ?_
    refine pu_ 9 (some 44) (tm_ 13 814) HT_ ?_
    refine pu_ 10 (some 45) (tm_ 13 1838) HT_ ?_
    refine join_ (σ := Value × Value × Value) 3 #[true, true, true, true, true, true, true, false, true, true, true, false, false] (fun s_ => [(35, s_.1), (39, s_.2.1), (41, s_.2.2)]) (fun s_ w' => (Kd.R (Kd.int .i64) 3 w' w.heap.size (fun k_ => some k_ ≠ (s_.2.2 : Value).ownBlock) s_.2.1 y322) ∧ (Kd.R (Kd.int .i64) 3 w' w.heap.size (fun k_ => some k_ ≠ (s_.2.1 : Value).ownBlock) s_.2.2 y325) ∧ (Below w.heap.size w w')) ?_ ?_
    rotate_left
    · intro hCont
      refine two_ (i := 0) (j := 6) (Ni := some 35) (Nj := some 41) #[true, true, true, true, false, true, false, false, true, true, true, false, false] #[false, true, true, true, false, true, true, false, true, true, true, false, false] rfl rfl rfl rfl (two_of HT_.out (by kernel_rfl)) (by decide) (by decide) (fun K hK => ?_) (fun K hK => ?_)
      · skip
        refine Kd.R_lit_step (Kd.int .i64) _ 3 ?hg (N := 35) ?hd (xs := ([] : List Int)) (inner := []) (ok := fun _ => True) (okp := fun _ => True) ?hr ?hp (fun _ hk => hk) trivial (Below.refl _ _) (Nat.le_refl _) (by simp) ?_; (case hd => rfl); (case hg => rfl); (case hr => first | (go_simp; done) | (go_simp; rfl)); (case hp => exact (Reps.none _ _))
        intro v319 w14 ho15 hb hg_ hnew_
        clear hg_ hnew_
        (first | rw [← Ny318.out] at ho15 | (simp only [Int.reduceToNat] at ho15; rw [← Ny318.out] at ho15))
        have _ := Aside0.mk (Kd.R_lower ho15 (below_size (pb_ HB.out)))
        have _ := Aside0.mk (below_step (pb_ HB.out) hb)
        clear HB
        rename_i HO320 HB
        clear hb ho15
        refine hK.out _ _ trivial (fun hHeld => ?_)
        clear hK K
        refine no_ (some 35) ?_
        refine two_ (i := 4) (j := 6) (Ni := some 39) (Nj := some 41) #[true, true, true, true, true, true, false, false, true, true, true, false, false] #[true, true, true, true, false, true, true, false, true, true, true, false, false] rfl rfl rfl rfl (two_of HT_.out (by kernel_rfl)) (by decide) (by decide) (fun K hK => ?_) (fun K hK => ?_)
        · skip
          refine Kd.R_append_rows_step (Kd.int .i64) (w0 := w) w.heap.size (by rfl) (.tmp 35) (.tmp 38) 39 3 (.int .i64 0) 8 rfl Try.underlying39 info3 rfl (by decide) (by omega) v319 y318 (l0.take (x5_1 : Int).toNat) _ _ _ (fun _ => True) (fun _ => False) rfl rfl ?aO ?aR (fun _ _ h => h) (fun _ h => h.elim) ?aF ?aB ?aS ?aL ?_
          (case aR => first | ((conv => (arg 5; rw [← show (l0.take (x5_1 : Int).toNat).length = x5_1.toNat from (by rw [List.length_take]; have h_ : (x5_1 : Int) ≤ (l0.length : Int) := dt_; omega)])); exact cb_ HR321 HB) | (rw [← show (l0.take (x5_1 : Int).toNat).length = x5_1.toNat from (by rw [List.length_take]; have h_ : (x5_1 : Int) ≤ (l0.length : Int) := dt_; omega)]; exact cb_ HR321 HB) | (exact cb_ HR321 HB))
          (case aB => exact (pb_ HB.out))
          (case aF => exact (fun _ _ => trivial))
          (case aO => exact (pr_ HO320.out))
          (case aS => exact (below_size (pb_ HB.out)))
          (case aL => have := LMc6.out; have hlx_ := (show (l0.take (x5_1 : Int).toNat).length = x5_1.toNat from (by rw [List.length_take]; have h_ : (x5_1 : Int) ≤ (l0.length : Int) := dt_; omega)); omega)
          intro v323 w16 ho hb hg hat
          rw [← Ny322.out] at ho
          have _ := Aside0.mk (hb)
          have _ := Aside0.mk (ho)
          clear HB HO320
          rename_i HB HO324
          clear ho hb hg hat
          refine hK.out _ _ trivial (fun hHeld => ?_)
          clear hK K
          refine no_ (some 39) ?_
          refine on_ 6 (some 41) (tm_ 13 1919) HT_ (fun K hK => ?_)
          refine Kd.R_lit_step (Kd.int .i64) _ 3 ?hg (N := 41) ?hd (xs := ([a1] : List Int)) (inner := [.int .i64 a1]) (ok := fun _ => True) (okp := fun _ => True) ?hr ?hp (fun _ hk => hk) trivial (Below.refl _ _) (Nat.le_refl _) (by simp) ?_; (case hd => rfl); (case hg => rfl); (case hr => first | (go_simp; done) | (go_simp; rfl)); (case hp => exact (Reps.one (show Kd.M (Kd.int .i64) _ _ _ a1 [.int .i64 a1] from rfl) (Reps.none _ _)))
          intro v326 w17 ho18 hb hg_ hnew_
          clear hg_ hnew_
          (first | rw [← Ny325.out] at ho18 | (simp only [Int.reduceToNat] at ho18; rw [← Ny325.out] at ho18))
          have _ := Aside0.mk (Kd.R_elder' (pr_ HO324.out) (Kd.R_base ho18) hb)
          have _ := Aside0.mk (Kd.R_lower (Kd.R_new' ho18 (Kd.R_lt (pr_ HO324.out))) (below_size (pb_ HB.out)))
          have _ := Aside0.mk (below_step (pb_ HB.out) hb)
          clear HO324 HB
          rename_i HO324 HO327 HB
          clear hb ho18
          refine hK.out _ _ trivial (fun hHeld => ?_)
          clear hK K
          refine no_ (some 41) ?_
          exact norm_ (by simp only [putAll, Act.put, List.setIfInBounds_toArray, List.set_cons_zero, List.set_cons_succ]) (hCont (v319, v323, v326) _ ⟨(pr_ (Kd.R_mono HO324.out (fun _ hk => hk.2))), (pr_ (Kd.R_mono HO327.out (fun _ hk => hk.2))), (pb_ HB.out)⟩)
        · skip
          refine Kd.R_lit_step (Kd.int .i64) _ 3 ?hg (N := 41) ?hd (xs := ([a1] : List Int)) (inner := [.int .i64 a1]) (ok := fun _ => True) (okp := fun _ => True) ?hr ?hp (fun _ hk => hk) trivial (Below.refl _ _) (Nat.le_refl _) (by simp) ?_; (case hd => rfl); (case hg => rfl); (case hr => first | (go_simp; done) | (go_simp; rfl)); (case hp => exact (Reps.one (show Kd.M (Kd.int .i64) _ _ _ a1 [.int .i64 a1] from rfl) (Reps.none _ _)))
          intro v326 w16 ho17 hb hg_ hnew_
          clear hg_ hnew_
          (first | rw [← Ny325.out] at ho17 | (simp only [Int.reduceToNat] at ho17; rw [← Ny325.out] at ho17))
          have _ := Aside0.mk (Kd.R_elder' (pr_ HO320.out) (Kd.R_base ho17) hb)
          have _ := Aside0.mk (Kd.R_lower (Kd.R_new' ho17 (Kd.R_lt (pr_ HO320.out))) (below_size (pb_ HB.out)))
          have _ := Aside0.mk (below_step (pb_ HB.out) hb)
          clear HO320 HB
          rename_i HO320 HO327 HB
          clear hb ho17
          refine hK.out _ _ trivial (fun hHeld => ?_)
          clear hK K
          refine no_ (some 41) ?_
          refine on_ 4 (some 39) (tm_ 13 1919) HT_ (fun K hK => ?_)
          refine Kd.R_append_rows_step (Kd.int .i64) (w0 := w) w.heap.size (by rfl) (.tmp 35) (.tmp 38) 39 3 (.int .i64 0) 8 rfl Try.underlying39 info3 rfl (by decide) (by omega) v319 y318 (l0.take (x5_1 : Int).toNat) _ _ _ (fun k_ => some k_ ≠ (v326 : Value).ownBlock) (fun _ => False) rfl rfl ?aO ?aR (fun _ _ h => h) (fun _ h => h.elim) ?aF ?aB ?aS ?aL ?_
          (case aR => first | ((conv => (arg 5; rw [← show (l0.take (x5_1 : Int).toNat).length = x5_1.toNat from (by rw [List.length_take]; have h_ : (x5_1 : Int) ≤ (l0.length : Int) := dt_; omega)])); exact cb_ HR321 HB) | (rw [← show (l0.take (x5_1 : Int).toNat).length = x5_1.toNat from (by rw [List.length_take]; have h_ : (x5_1 : Int) ≤ (l0.length : Int) := dt_; omega)]; exact cb_ HR321 HB) | (exact cb_ HR321 HB))
          (case aB => exact (pb_ HB.out))
          (case aF => exact (fun k_ hk => Kd.fresh' (Kd.R_lt (pr_ HO327.out)) k_ hk))
          (case aO => exact (pr_ (Kd.R_mono HO320.out (fun _ hk => hk.2))))
          (case aS => exact (below_size (pb_ HB.out)))
          (case aL => have := LMc6.out; have hlx_ := (show (l0.take (x5_1 : Int).toNat).length = x5_1.toNat from (by rw [List.length_take]; have h_ : (x5_1 : Int) ≤ (l0.length : Int) := dt_; omega)); omega)
          intro v323 w18 ho hb hg hat
          rw [← Ny322.out] at ho
          have _ := Aside0.mk (Kd.R_after (ok := (fun _ => True)) (pr_ HO327.out) hg hat)
          have _ := Aside0.mk (hb)
          have _ := Aside0.mk (ho)
          clear HO327 HB HO320
          rename_i HO327 HB HO324
          clear ho hb hg hat
          refine hK.out _ _ trivial (fun hHeld => ?_)
          clear hK K
          refine no_ (some 39) ?_
          exact norm_ (by simp only [putAll, Act.put, List.setIfInBounds_toArray, List.set_cons_zero, List.set_cons_succ]) (hCont (v319, v323, v326) _ ⟨(pr_ HO324.out), (pr_ (Kd.R_mono HO327.out (fun _ hk => hk.2))), (pb_ HB.out)⟩)
      · skip
        refine Kd.R_lit_step (Kd.int .i64) _ 3 ?hg (N := 41) ?hd (xs := ([a1] : List Int)) (inner := [.int .i64 a1]) (ok := fun _ => True) (okp := fun _ => True) ?hr ?hp (fun _ hk => hk) trivial (Below.refl _ _) (Nat.le_refl _) (by simp) ?_; (case hd => rfl); (case hg => rfl); (case hr => first | (go_simp; done) | (go_simp; rfl)); (case hp => exact (Reps.one (show Kd.M (Kd.int .i64) _ _ _ a1 [.int .i64 a1] from rfl) (Reps.none _ _)))
        intro v326 w14 ho15 hb hg_ hnew_
        clear hg_ hnew_
        (first | rw [← Ny325.out] at ho15 | (simp only [Int.reduceToNat] at ho15; rw [← Ny325.out] at ho15))
        have _ := Aside0.mk (Kd.R_lower ho15 (below_size (pb_ HB.out)))
        have _ := Aside0.mk (below_step (pb_ HB.out) hb)
        clear HB
        rename_i HO327 HB
        clear hb ho15
        refine hK.out _ _ trivial (fun hHeld => ?_)
        clear hK K
        refine no_ (some 41) ?_
        refine on_ 0 (some 35) (tm_ 13 1903) HT_ (fun K hK => ?_)
        refine Kd.R_lit_step (Kd.int .i64) _ 3 ?hg (N := 35) ?hd (xs := ([] : List Int)) (inner := []) (ok := fun _ => True) (okp := fun _ => True) ?hr ?hp (fun _ hk => hk) trivial (Below.refl _ _) (Nat.le_refl _) (by simp) ?_; (case hd => rfl); (case hg => rfl); (case hr => first | (go_simp; done) | (go_simp; rfl)); (case hp => exact (Reps.none _ _))
        intro v319 w16 ho17 hb hg_ hnew_
        clear hg_ hnew_
        (first | rw [← Ny318.out] at ho17 | (simp only [Int.reduceToNat] at ho17; rw [← Ny318.out] at ho17))
        have _ := Aside0.mk (Kd.R_elder' (pr_ HO327.out) (Kd.R_base ho17) hb)
        have _ := Aside0.mk (Kd.R_lower (Kd.R_new' ho17 (Kd.R_lt (pr_ HO327.out))) (below_size (pb_ HB.out)))
        have _ := Aside0.mk (below_step (pb_ HB.out) hb)
        clear HO327 HB
        rename_i HO327 HO320 HB
        clear hb ho17
        refine hK.out _ _ trivial (fun hHeld => ?_)
        clear hK K
        refine no_ (some 35) ?_
        refine on_ 4 (some 39) (tm_ 13 1919) HT_ (fun K hK => ?_)
        refine Kd.R_append_rows_step (Kd.int .i64) (w0 := w) w.heap.size (by rfl) (.tmp 35) (.tmp 38) 39 3 (.int .i64 0) 8 rfl Try.underlying39 info3 rfl (by decide) (by omega) v319 y318 (l0.take (x5_1 : Int).toNat) _ _ _ (fun k_ => some k_ ≠ (v326 : Value).ownBlock) (fun _ => False) rfl rfl ?aO ?aR (fun _ _ h => h) (fun _ h => h.elim) ?aF ?aB ?aS ?aL ?_
        (case aR => first | ((conv => (arg 5; rw [← show (l0.take (x5_1 : Int).toNat).length = x5_1.toNat from (by rw [List.length_take]; have h_ : (x5_1 : Int) ≤ (l0.length : Int) := dt_; omega)])); exact cb_ HR321 HB) | (rw [← show (l0.take (x5_1 : Int).toNat).length = x5_1.toNat from (by rw [List.length_take]; have h_ : (x5_1 : Int) ≤ (l0.length : Int) := dt_; omega)]; exact cb_ HR321 HB) | (exact cb_ HR321 HB))
        (case aB => exact (pb_ HB.out))
        (case aF => exact (fun k_ hk => Kd.fresh' (Kd.R_lt (pr_ HO327.out)) k_ hk))
        (case aO => exact (pr_ (Kd.R_mono HO320.out (fun _ hk => hk.2))))
        (case aS => exact (below_size (pb_ HB.out)))
        (case aL => have := LMc6.out; have hlx_ := (show (l0.take (x5_1 : Int).toNat).length = x5_1.toNat from (by rw [List.length_take]; have h_ : (x5_1 : Int) ≤ (l0.length : Int) := dt_; omega)); omega)
        intro v323 w18 ho hb hg hat
        rw [← Ny322.out] at ho
        have _ := Aside0.mk (Kd.R_after (ok := (fun _ => True)) (pr_ HO327.out) hg hat)
        have _ := Aside0.mk (hb)
        have _ := Aside0.mk (ho)
        clear HO327 HB HO320
        rename_i HO327 HB HO324
        clear ho hb hg hat
        refine hK.out _ _ trivial (fun hHeld => ?_)
        clear hK K
        refine no_ (some 39) ?_
        exact norm_ (by simp only [putAll, Act.put, List.setIfInBounds_toArray, List.set_cons_zero, List.set_cons_succ]) (hCont (v319, v323, v326) _ ⟨(pr_ HO324.out), (pr_ (Kd.R_mono HO327.out (fun _ hk => hk.2))), (pb_ HB.out)⟩)
    rintro ⟨v319, v323, v326⟩ w19 ⟨h0_, h1_, h2_⟩
    have n0_ : Aside0 (Kd.R (Kd.int .i64) 3 w19 w.heap.size (fun k_ => some k_ ≠ (v326 : Value).ownBlock) v323 y322) := ⟨h0_⟩
    have n1_ : Aside0 (Kd.R (Kd.int .i64) 3 w19 w.heap.size (fun k_ => some k_ ≠ (v323 : Value).ownBlock) v326 y325) := ⟨h1_⟩
    have n2_ : Aside0 (Below w.heap.size w w19) := ⟨h2_⟩
    clear HB
    clear h0_ h1_ h2_
    have HO324 := n0_
    have HO327 := n1_
    have HB := n2_
    clear n0_ n1_ n2_
    have hHeld := trivial
    obtain ⟨Ao21, co21, eo21⟩ := Kd.R_slice HO327.out
    (first | subst eo21 | (injection eo21 with f1_ f2_ f3_; have f4_ := f1_.symm; have f5_ := f3_.symm; clear f1_ f2_ f3_; subst f4_; subst f5_))
    refine norm_ (a' := ?_) ?_ ?_
    rotate_left
    · simp only [putAll, Act.put, List.setIfInBounds_toArray, List.set_cons_zero, List.set_cons_succ]
      rfl
    refine on_ 7 (some 42) (tf_ 11 13) HT_ (fun K hK => ?_)
    refine Kd.R_append_rows_step (Kd.int .i64) (w0 := w) w.heap.size (by rfl) (.tmp 39) (.tmp 41) 39 3 (.int .i64 0) 8 rfl Try.underlying39 info3 rfl (by decide) (by omega) v323 y322 y325 _ _ _ (fun k_ => some k_ ≠ (.slice Ao21 y325.length co21 : Value).ownBlock) (fun _ => False) rfl rfl ?aO ?aR (fun _ _ h => h) (fun _ h => h.elim) ?aF ?aB ?aS ?aL ?_
    (case aR => exact pc_ ((Kd.R_reads' HO327.out).2.2))
    (case aB => exact (pb_ HB.out))
    (case aF => exact (fun k_ hk => Kd.fresh' (Kd.R_lt (pr_ HO327.out)) k_ hk))
    (case aO => exact (pr_ HO324.out))
    (case aS => exact (below_size (pb_ HB.out)))
    (case aL => have := LMc7.out; omega)
    intro v329 w20 ho hb hg hat
    rw [← Ny328.out] at ho
    have _ := Aside0.mk (Kd.R_after (ok := (fun _ => True)) (by (with_reducible repeat (first | apply Kd.R_alloc | apply Kd.R_drewN | apply Kd.R_drew)); exact Kd.R_mono HO327.out (fun _ hk => ⟨trivial, hk⟩)) hg hat)
    have _ := Aside0.mk (hb)
    have _ := Aside0.mk (ho)
    clear HO327 HB HO324
    rename_i HO327 HB HO330
    clear ho hb hg hat
    refine hK.out _ _ trivial (fun hHeld => ?_)
    clear hK K
    refine no_ (some 42) ?_
    refine on_ 11 (some 46) (tf_ 12 13) HT_ (fun K hK => ?_)
    refine Kd.R_append_rows_step (Kd.int .i64) (w0 := w) w.heap.size (by rfl) (.tmp 42) (.tmp 45) 39 3 (.int .i64 0) 8 rfl Try.underlying39 info3 rfl (by decide) (by omega) v329 y328 (l0.drop (x5_1 : Int).toNat) _ _ _ (fun k_ => some k_ ≠ (.slice Ao21 y325.length co21 : Value).ownBlock) (fun _ => False) rfl rfl ?aO ?aR (fun _ _ h => h) (fun _ h => h.elim) ?aF ?aB ?aS ?aL ?_
    (case aR => first | ((conv => (arg 5; rw [← show (l0.drop (x5_1 : Int).toNat).length = (l0.length - x5_1.toNat) from List.length_drop])); exact cb_ HR331 HB) | (rw [← show (l0.drop (x5_1 : Int).toNat).length = (l0.length - x5_1.toNat) from List.length_drop]; exact cb_ HR331 HB) | (exact cb_ HR331 HB))
    (case aB => exact (pb_ HB.out))
    (case aF => exact (fun k_ hk => Kd.fresh' (Kd.R_lt (pr_ HO327.out)) k_ hk))
    (case aO => exact (pr_ HO330.out))
    (case aS => exact (below_size (pb_ HB.out)))
    (case aL => have := LMc10.out; have hlx_ := (show (l0.drop (x5_1 : Int).toNat).length = (l0.length - x5_1.toNat) from List.length_drop); omega)
    intro v333 w22 ho hb hg hat
    rw [← Ny332.out] at ho
    have _ := Aside0.mk (Kd.R_after (ok := (fun _ => True)) (pr_ HO327.out) hg hat)
    have _ := Aside0.mk (hb)
    have _ := Aside0.mk (ho)
    clear HO327 HB HO330
    rename_i HO327 HB HO334
    clear ho hb hg hat
    refine hK.out _ _ trivial (fun hHeld => ?_)
    clear hK K
    refine no_ (some 46) ?_
    refine pu_ 12 (some 4) (tf_ 13 13) HT_ ?_
    refine done_ (done_of HT_.out (by kernel_rfl)) ?_
    try go_wp2
    go_ret
    exact ⟨_, er_, pr_ (Kd.R_mono HO334.out (fun _ hk => trivial)), pb_ HB.out⟩
  rw [if_pos c3] at H
  have c3b0 : decide (x5_1 < (l0.length : Int)) = true := decide_eq_true c3
  clear c3
  by_cases c23 : 0 ≤ x5_1
  rotate_left
  · rw [if_neg c23] at H
    exact absurd H (by simp)
  rw [if_pos c23] at H
  have c23b0 : decide (0 ≤ x5_1) = true := decide_eq_true c23
  clear c23
  by_cases c24 : (rd l0 x5_1) < a1
  · rw [if_pos c24] at H
    have c24b0 : decide ((rd l0 x5_1) < a1) = true := decide_eq_true c24
    clear c24
    have H' := Aside0.mk H
    clear H
    have p293 : 0 ≤ (x5_1 : Int) := dt_
    have q293 : x5_1 < (l0.length : Int) := dt_
    obtain ⟨ad293, e293, hx293_0⟩ := Kd.at_int HR0.out x5_1 p293 q293
    cases e293
    replace hx293_0 := bt_ HB hx293_0
    replace p293 := eq_true p293
    replace q293 := eq_true q293
    go_wp2
    go_roundg k1
    case measure => have := HK1.out; omega
    case rel => exact ⟨(wrap64 (x5_1 + 1)), el_, H', ⟨by have := HK1.out; omega⟩, ⟨pb_ HB.out⟩⟩
  rw [if_neg c24] at H
  have c24b0 : decide ((rd l0 x5_1) < a1) = false := decide_eq_false c24
  clear c24
  by_cases c25 : (rd l0 x5_1) = a1
  · rw [if_pos c25] at H
    have c25b0 : ((rd l0 x5_1) == a1) = true := beq_iff_eq.mpr c25
    have c25b1 : ((rd l0 x5_1) != a1) = false := bne_eq_false_iff_eq.mpr c25
    clear c25
    obtain ⟨y295, hy295⟩ : ∃ y_ : List Int, y_ = (([] : List Int)) := ⟨_, rfl⟩
    replace H : (if y295.length + l0.length < 17592186044416 then (some (y295 ++ l0)) else (none)) = some r := by first | (rw [hy295]; with_reducible exact H) | (have H2_ := (Option.bind_some _ _).symm.trans H; rw [hy295]; with_reducible exact H2_) | (have H2_ := (Option.bind_some _ _).symm.trans H; with_reducible exact H2_) | with_reducible exact H | (rw [hy295]; exact H) | exact H
    have Ny295 := Aside0.mk hy295
    clear hy295
    by_cases c26 : y295.length + l0.length < 17592186044416
    rotate_left
    · rw [if_neg c26] at H
      exact absurd H (by simp)
    rw [if_pos c26] at H
    have LMc26 := Aside0.mk c26
    clear c26
    obtain ⟨y298, hy298⟩ : ∃ y_ : List Int, y_ = (y295 ++ l0) := ⟨_, rfl⟩
    replace H : (some y298) = some r := by first | (rw [hy298]; with_reducible exact H) | (have H2_ := (Option.bind_some _ _).symm.trans H; rw [hy298]; with_reducible exact H2_) | (have H2_ := (Option.bind_some _ _).symm.trans H; with_reducible exact H2_) | with_reducible exact H | (rw [hy298]; exact H) | exact H
    have Ny298 := Aside0.mk hy298
    clear hy298
    obtain rfl := Option.some.inj H
    have p293 : 0 ≤ (x5_1 : Int) := dt_
    have q293 : x5_1 < (l0.length : Int) := dt_
    obtain ⟨ad293, e293, hx293_0⟩ := Kd.at_int HR0.out x5_1 p293 q293
    cases e293
    replace hx293_0 := bt_ HB hx293_0
    replace p293 := eq_true p293
    replace q293 := eq_true q293
    have p294 : 0 ≤ (x5_1 : Int) := dt_
    have q294 : x5_1 < (l0.length : Int) := dt_
    obtain ⟨ad294, e294, hx294_0⟩ := Kd.at_int HR0.out x5_1 p294 q294
    obtain rfl : ad293 = ad294 := (by injection e294)
    replace hx294_0 := bt_ HB hx294_0
    replace p294 := eq_true p294
    replace q294 := eq_true q294
    go_wp2_with (first | ((with_reducible refine gate_dst (N := 32) rfl ?_); refine Kd.R_lit (Kd.int .i64) _ 3 ?hg (N := 32) ?hd (xs := ([] : List Int)) (inner := []) (ok := fun _ => True) (okp := fun _ => True) ?hr ?hp (fun _ hk => hk) trivial (Below.refl _ _) (Nat.le_refl _) (by simp) ?_; (case hd => rfl); (case hg => rfl); (case hr => first | (go_simp; done) | (go_simp; rfl)); (case hp => exact (Reps.none _ _)); intro v296 w27 ho28 hb hg_ hnew_; clear hg_ hnew_; (first | rw [← Ny295.out] at ho28 | (simp only [Int.reduceToNat] at ho28; rw [← Ny295.out] at ho28)); have _ := Aside0.mk (Kd.R_lower ho28 (below_size (pb_ HB.out))); have _ := Aside0.mk (below_step (pb_ HB.out) hb); clear HB; rename_i HO297 HB; clear hb ho28) | ((with_reducible refine gate_builtin (b := .append) (xs := #[.tmp 32, .tmp 33]) rfl ?_); at_builtin; refine Kd.R_append_rows (Kd.int .i64) (w0 := w) w.heap.size rfl (.tmp 32) (.tmp 33) 39 3 (.int .i64 0) 8 rfl Try.underlying39 info3 rfl (by decide) (by omega) v296 y295 l0 _ _ _ (fun _ => True) (fun _ => False) rfl rfl ?aO ?aR (fun _ _ h => h) (fun _ h => h.elim) ?aF ?aB ?aS ?aL ?_; (case aR => exact cb_ HR0 HB); (case aB => exact (pb_ HB.out)); (case aF => exact (fun _ _ => trivial)); (case aO => exact (pr_ HO297.out)); (case aS => exact (below_size (pb_ HB.out))); (case aL => have := LMc26.out; omega); intro v299 w29 ho hb hg hat; rw [← Ny298.out] at ho; have _ := Aside0.mk (hb); have _ := Aside0.mk (ho); clear HB HO297; rename_i HB HO300; clear ho hb hg hat))
    go_ret
    exact ⟨_, er_, pr_ HO300.out, pb_ HB.out⟩
  rw [if_neg c25] at H
  have c25b0 : ((rd l0 x5_1) == a1) = false := beq_eq_false_iff_ne.mpr c25
  have c25b1 : ((rd l0 x5_1) != a1) = true := bne_iff_ne.mpr c25
  obtain ⟨y301, hy301⟩ : ∃ y_ : List Int, y_ = (([] : List Int)) := ⟨_, rfl⟩
  replace H : (if x5_1 ≤ (l0.length : Int) then (if y301.length + (l0.take (x5_1 : Int).toNat).length < 17592186044416 then ((some (y301 ++ (l0.take (x5_1 : Int).toNat) : List Int)).bind fun y305 => ((some (([a1] : List Int) : List Int)).bind fun y308 => (if y305.length + y308.length < 17592186044416 then ((some (y305 ++ y308 : List Int)).bind fun y311 => (if y311.length + (l0.drop (x5_1 : Int).toNat).length < 17592186044416 then (some (y311 ++ (l0.drop (x5_1 : Int).toNat))) else (none))) else (none)))) else (none)) else (none)) = some r := by first | (rw [hy301]; with_reducible exact H) | (have H2_ := (Option.bind_some _ _).symm.trans H; rw [hy301]; with_reducible exact H2_) | (have H2_ := (Option.bind_some _ _).symm.trans H; with_reducible exact H2_) | with_reducible exact H | (rw [hy301]; exact H) | exact H
  have Ny301 := Aside0.mk hy301
  clear hy301
  have c30b0 := eq_true (dt_ : 0 ≤ x5_1)
  by_cases c31 : x5_1 ≤ (l0.length : Int)
  rotate_left
  · rw [if_neg c31] at H
    exact absurd H (by simp)
  rw [if_pos c31] at H
  have c31b0 := eq_true c31
  have c31b1 : decide (x5_1 ≤ (l0.length : Int)) = true := decide_eq_true c31
  clear c31
  by_cases c32 : y301.length + (l0.take (x5_1 : Int).toNat).length < 17592186044416
  rotate_left
  · rw [if_neg c32] at H
    exact absurd H (by simp)
  rw [if_pos c32] at H
  have LMc32 := Aside0.mk c32
  clear c32
  obtain ⟨y305, hy305⟩ : ∃ y_ : List Int, y_ = (y301 ++ (l0.take (x5_1 : Int).toNat)) := ⟨_, rfl⟩
  replace H : ((some (([a1] : List Int) : List Int)).bind fun y308 => (if y305.length + y308.length < 17592186044416 then ((some (y305 ++ y308 : List Int)).bind fun y311 => (if y311.length + (l0.drop (x5_1 : Int).toNat).length < 17592186044416 then (some (y311 ++ (l0.drop (x5_1 : Int).toNat))) else (none))) else (none))) = some r := by first | (rw [hy305]; with_reducible exact H) | (have H2_ := (Option.bind_some _ _).symm.trans H; rw [hy305]; with_reducible exact H2_) | (have H2_ := (Option.bind_some _ _).symm.trans H; with_reducible exact H2_) | with_reducible exact H | (rw [hy305]; exact H) | exact H
  have Ny305 := Aside0.mk hy305
  clear hy305
  obtain ⟨y308, hy308⟩ : ∃ y_ : List Int, y_ = (([a1] : List Int)) := ⟨_, rfl⟩
  replace H : (if y305.length + y308.length < 17592186044416 then ((some (y305 ++ y308 : List Int)).bind fun y311 => (if y311.length + (l0.drop (x5_1 : Int).toNat).length < 17592186044416 then (some (y311 ++ (l0.drop (x5_1 : Int).toNat))) else (none))) else (none)) = some r := by first | (rw [hy308]; with_reducible exact H) | (have H2_ := (Option.bind_some _ _).symm.trans H; rw [hy308]; with_reducible exact H2_) | (have H2_ := (Option.bind_some _ _).symm.trans H; with_reducible exact H2_) | with_reducible exact H | (rw [hy308]; exact H) | exact H
  have Ny308 := Aside0.mk hy308
  clear hy308
  by_cases c33 : y305.length + y308.length < 17592186044416
  rotate_left
  · rw [if_neg c33] at H
    exact absurd H (by simp)
  rw [if_pos c33] at H
  have LMc33 := Aside0.mk c33
  clear c33
  obtain ⟨y311, hy311⟩ : ∃ y_ : List Int, y_ = (y305 ++ y308) := ⟨_, rfl⟩
  replace H : (if y311.length + (l0.drop (x5_1 : Int).toNat).length < 17592186044416 then (some (y311 ++ (l0.drop (x5_1 : Int).toNat))) else (none)) = some r := by first | (rw [hy311]; with_reducible exact H) | (have H2_ := (Option.bind_some _ _).symm.trans H; rw [hy311]; with_reducible exact H2_) | (have H2_ := (Option.bind_some _ _).symm.trans H; with_reducible exact H2_) | with_reducible exact H | (rw [hy311]; exact H) | exact H
  have Ny311 := Aside0.mk hy311
  clear hy311
  have c34b0 := eq_true (dt_ : 0 ≤ x5_1)
  have c35b0 := eq_true (dt_ : x5_1 ≤ (l0.length : Int))
  by_cases c36 : y311.length + (l0.drop (x5_1 : Int).toNat).length < 17592186044416
  rotate_left
  · rw [if_neg c36] at H
    exact absurd H (by simp)
  rw [if_pos c36] at H
  have LMc36 := Aside0.mk c36
  clear c36
  obtain ⟨y315, hy315⟩ : ∃ y_ : List Int, y_ = (y311 ++ (l0.drop (x5_1 : Int).toNat)) := ⟨_, rfl⟩
  replace H : (some y315) = some r := by first | (rw [hy315]; with_reducible exact H) | (have H2_ := (Option.bind_some _ _).symm.trans H; rw [hy315]; with_reducible exact H2_) | (have H2_ := (Option.bind_some _ _).symm.trans H; with_reducible exact H2_) | with_reducible exact H | (rw [hy315]; exact H) | exact H
  have Ny315 := Aside0.mk hy315
  clear hy315
  obtain rfl := Option.some.inj H
  have p293 : 0 ≤ (x5_1 : Int) := dt_
  have q293 : x5_1 < (l0.length : Int) := dt_
  obtain ⟨ad293, e293, hx293_0⟩ := Kd.at_int HR0.out x5_1 p293 q293
  cases e293
  replace hx293_0 := bt_ HB hx293_0
  replace p293 := eq_true p293
  replace q293 := eq_true q293
  have p294 : 0 ≤ (x5_1 : Int) := dt_
  have q294 : x5_1 < (l0.length : Int) := dt_
  obtain ⟨ad294, e294, hx294_0⟩ := Kd.at_int HR0.out x5_1 p294 q294
  obtain rfl : ad293 = ad294 := (by injection e294)
  replace hx294_0 := bt_ HB hx294_0
  replace p294 := eq_true p294
  replace q294 := eq_true q294
  try go_wp2
  have _ := Aside0.mk (below_drew1 HB.out)
  clear HB
  rename_i HB
  obtain ⟨i038, hi038, _, hsz38, _⟩ := info_parts info3
  obtain ⟨hcut38, hA38, hC38⟩ := print_take_of (P := Try.prog) (Value.int .i64) 0 39 3 .i64 Try.underlying39 hi038 hsz38 (some ad293) c0 l0 x5_1 dt_ dt_ HC0.out
  have HR304 := Aside0.mk (Kd.C_of_reads (h1 := fun _ => rfl) (hA38 _ (Kd.reads_of_C HR0.out)))
  have HC304 := Aside0.mk hC38
  clear hA38 hC38 hi038 hsz38
  obtain ⟨i039, hi039, _, hsz39, _⟩ := info_parts info3
  obtain ⟨A39, hcut39, hA39, hC39⟩ := print_drop_of (P := Try.prog) (Value.int .i64) 0 39 3 .i64 Try.underlying39 hi039 hsz39 (some ad293) c0 l0 x5_1 dt_ dt_ HC0.out
  have HR314 := Aside0.mk (Kd.C_of_reads (h1 := fun _ => rfl) (hA39 _ (Kd.reads_of_C HR0.out)))
  have HC314 := Aside0.mk hC39
  clear hA39 hC39 hi039 hsz39
  refine start_ (n := 13) (S := fun w' => True) (ds := []) (tf_ 0 13) (by kernel_rfl) rfl rfl trivial (fun hHeld => ?_); refine with_tabW spec_l4Put.tab6 spec_l4Put.bits6 (fun HT_ HW_ => ?_)
  generalize wr.drew = w37 at HB HR304 HR314 hHeld ⊢
  refine pu_ 1 (some 36) (tm_ 13 2) HT_ ?_
  refine pu_ 2 (some 37) (tm_ 13 6) HT_ ?_
  refine pu_ 3 (some 38) (tm_ 13 14) HT_ ?_
  refine pu_ 5 (some 40) (tm_ 13 46) HT_ ?_
  refine pu_ 8 (some 43) (tm_ 13 302) HT_ ?_
  refine pu_ 9 (some 44) (tm_ 13 814) HT_ ?_
  refine pu_ 10 (some 45) (tm_ 13 1838) HT_ ?_
  refine join_ (σ := Value × Value × Value) 3 #[true, true, true, true, true, true, true, false, true, true, true, false, false] (fun s_ => [(35, s_.1), (39, s_.2.1), (41, s_.2.2)]) (fun s_ w' => (Kd.R (Kd.int .i64) 3 w' w.heap.size (fun k_ => some k_ ≠ (s_.2.2 : Value).ownBlock) s_.2.1 y305) ∧ (Kd.R (Kd.int .i64) 3 w' w.heap.size (fun k_ => some k_ ≠ (s_.2.1 : Value).ownBlock) s_.2.2 y308) ∧ (Below w.heap.size w w')) ?_ ?_
  rotate_left
  · intro hCont
    refine two_ (i := 0) (j := 6) (Ni := some 35) (Nj := some 41) #[true, true, true, true, false, true, false, false, true, true, true, false, false] #[false, true, true, true, false, true, true, false, true, true, true, false, false] rfl rfl rfl rfl (two_of HT_.out (by kernel_rfl)) (by decide) (by decide) (fun K hK => ?_) (fun K hK => ?_)
    · skip
      refine Kd.R_lit_step (Kd.int .i64) _ 3 ?hg (N := 35) ?hd (xs := ([] : List Int)) (inner := []) (ok := fun _ => True) (okp := fun _ => True) ?hr ?hp (fun _ hk => hk) trivial (Below.refl _ _) (Nat.le_refl _) (by simp) ?_; (case hd => rfl); (case hg => rfl); (case hr => first | (go_simp; done) | (go_simp; rfl)); (case hp => exact (Reps.none _ _))
      intro v302 w40 ho41 hb hg_ hnew_
      clear hg_ hnew_
      (first | rw [← Ny301.out] at ho41 | (simp only [Int.reduceToNat] at ho41; rw [← Ny301.out] at ho41))
      have _ := Aside0.mk (Kd.R_lower ho41 (below_size (pb_ HB.out)))
      have _ := Aside0.mk (below_step (pb_ HB.out) hb)
      clear HB
      rename_i HO303 HB
      clear hb ho41
      refine hK.out _ _ trivial (fun hHeld => ?_)
      clear hK K
      refine no_ (some 35) ?_
      refine two_ (i := 4) (j := 6) (Ni := some 39) (Nj := some 41) #[true, true, true, true, true, true, false, false, true, true, true, false, false] #[true, true, true, true, false, true, true, false, true, true, true, false, false] rfl rfl rfl rfl (two_of HT_.out (by kernel_rfl)) (by decide) (by decide) (fun K hK => ?_) (fun K hK => ?_)
      · skip
        refine Kd.R_append_rows_step (Kd.int .i64) (w0 := w) w.heap.size (by rfl) (.tmp 35) (.tmp 38) 39 3 (.int .i64 0) 8 rfl Try.underlying39 info3 rfl (by decide) (by omega) v302 y301 (l0.take (x5_1 : Int).toNat) _ _ _ (fun _ => True) (fun _ => False) rfl rfl ?aO ?aR (fun _ _ h => h) (fun _ h => h.elim) ?aF ?aB ?aS ?aL ?_
        (case aR => first | ((conv => (arg 5; rw [← show (l0.take (x5_1 : Int).toNat).length = x5_1.toNat from (by rw [List.length_take]; have h_ : (x5_1 : Int) ≤ (l0.length : Int) := dt_; omega)])); exact cb_ HR304 HB) | (rw [← show (l0.take (x5_1 : Int).toNat).length = x5_1.toNat from (by rw [List.length_take]; have h_ : (x5_1 : Int) ≤ (l0.length : Int) := dt_; omega)]; exact cb_ HR304 HB) | (exact cb_ HR304 HB))
        (case aB => exact (pb_ HB.out))
        (case aF => exact (fun _ _ => trivial))
        (case aO => exact (pr_ HO303.out))
        (case aS => exact (below_size (pb_ HB.out)))
        (case aL => have := LMc32.out; have hlx_ := (show (l0.take (x5_1 : Int).toNat).length = x5_1.toNat from (by rw [List.length_take]; have h_ : (x5_1 : Int) ≤ (l0.length : Int) := dt_; omega)); omega)
        intro v306 w42 ho hb hg hat
        rw [← Ny305.out] at ho
        have _ := Aside0.mk (hb)
        have _ := Aside0.mk (ho)
        clear HB HO303
        rename_i HB HO307
        clear ho hb hg hat
        refine hK.out _ _ trivial (fun hHeld => ?_)
        clear hK K
        refine no_ (some 39) ?_
        refine on_ 6 (some 41) (tm_ 13 1919) HT_ (fun K hK => ?_)
        refine Kd.R_lit_step (Kd.int .i64) _ 3 ?hg (N := 41) ?hd (xs := ([a1] : List Int)) (inner := [.int .i64 a1]) (ok := fun _ => True) (okp := fun _ => True) ?hr ?hp (fun _ hk => hk) trivial (Below.refl _ _) (Nat.le_refl _) (by simp) ?_; (case hd => rfl); (case hg => rfl); (case hr => first | (go_simp; done) | (go_simp; rfl)); (case hp => exact (Reps.one (show Kd.M (Kd.int .i64) _ _ _ a1 [.int .i64 a1] from rfl) (Reps.none _ _)))
        intro v309 w43 ho44 hb hg_ hnew_
        clear hg_ hnew_
        (first | rw [← Ny308.out] at ho44 | (simp only [Int.reduceToNat] at ho44; rw [← Ny308.out] at ho44))
        have _ := Aside0.mk (Kd.R_elder' (pr_ HO307.out) (Kd.R_base ho44) hb)
        have _ := Aside0.mk (Kd.R_lower (Kd.R_new' ho44 (Kd.R_lt (pr_ HO307.out))) (below_size (pb_ HB.out)))
        have _ := Aside0.mk (below_step (pb_ HB.out) hb)
        clear HO307 HB
        rename_i HO307 HO310 HB
        clear hb ho44
        refine hK.out _ _ trivial (fun hHeld => ?_)
        clear hK K
        refine no_ (some 41) ?_
        exact norm_ (by simp only [putAll, Act.put, List.setIfInBounds_toArray, List.set_cons_zero, List.set_cons_succ]) (hCont (v302, v306, v309) _ ⟨(pr_ (Kd.R_mono HO307.out (fun _ hk => hk.2))), (pr_ (Kd.R_mono HO310.out (fun _ hk => hk.2))), (pb_ HB.out)⟩)
      · skip
        refine Kd.R_lit_step (Kd.int .i64) _ 3 ?hg (N := 41) ?hd (xs := ([a1] : List Int)) (inner := [.int .i64 a1]) (ok := fun _ => True) (okp := fun _ => True) ?hr ?hp (fun _ hk => hk) trivial (Below.refl _ _) (Nat.le_refl _) (by simp) ?_; (case hd => rfl); (case hg => rfl); (case hr => first | (go_simp; done) | (go_simp; rfl)); (case hp => exact (Reps.one (show Kd.M (Kd.int .i64) _ _ _ a1 [.int .i64 a1] from rfl) (Reps.none _ _)))
        intro v309 w42 ho43 hb hg_ hnew_
        clear hg_ hnew_
        (first | rw [← Ny308.out] at ho43 | (simp only [Int.reduceToNat] at ho43; rw [← Ny308.out] at ho43))
        have _ := Aside0.mk (Kd.R_elder' (pr_ HO303.out) (Kd.R_base ho43) hb)
        have _ := Aside0.mk (Kd.R_lower (Kd.R_new' ho43 (Kd.R_lt (pr_ HO303.out))) (below_size (pb_ HB.out)))
        have _ := Aside0.mk (below_step (pb_ HB.out) hb)
        clear HO303 HB
        rename_i HO303 HO310 HB
        clear hb ho43
        refine hK.out _ _ trivial (fun hHeld => ?_)
        clear hK K
        refine no_ (some 41) ?_
        refine on_ 4 (some 39) (tm_ 13 1919) HT_ (fun K hK => ?_)
        refine Kd.R_append_rows_step (Kd.int .i64) (w0 := w) w.heap.size (by rfl) (.tmp 35) (.tmp 38) 39 3 (.int .i64 0) 8 rfl Try.underlying39 info3 rfl (by decide) (by omega) v302 y301 (l0.take (x5_1 : Int).toNat) _ _ _ (fun k_ => some k_ ≠ (v309 : Value).ownBlock) (fun _ => False) rfl rfl ?aO ?aR (fun _ _ h => h) (fun _ h => h.elim) ?aF ?aB ?aS ?aL ?_
        (case aR => first | ((conv => (arg 5; rw [← show (l0.take (x5_1 : Int).toNat).length = x5_1.toNat from (by rw [List.length_take]; have h_ : (x5_1 : Int) ≤ (l0.length : Int) := dt_; omega)])); exact cb_ HR304 HB) | (rw [← show (l0.take (x5_1 : Int).toNat).length = x5_1.toNat from (by rw [List.length_take]; have h_ : (x5_1 : Int) ≤ (l0.length : Int) := dt_; omega)]; exact cb_ HR304 HB) | (exact cb_ HR304 HB))
        (case aB => exact (pb_ HB.out))
        (case aF => exact (fun k_ hk => Kd.fresh' (Kd.R_lt (pr_ HO310.out)) k_ hk))
        (case aO => exact (pr_ (Kd.R_mono HO303.out (fun _ hk => hk.2))))
        (case aS => exact (below_size (pb_ HB.out)))
        (case aL => have := LMc32.out; have hlx_ := (show (l0.take (x5_1 : Int).toNat).length = x5_1.toNat from (by rw [List.length_take]; have h_ : (x5_1 : Int) ≤ (l0.length : Int) := dt_; omega)); omega)
        intro v306 w44 ho hb hg hat
        rw [← Ny305.out] at ho
        have _ := Aside0.mk (Kd.R_after (ok := (fun _ => True)) (pr_ HO310.out) hg hat)
        have _ := Aside0.mk (hb)
        have _ := Aside0.mk (ho)
        clear HO310 HB HO303
        rename_i HO310 HB HO307
        clear ho hb hg hat
        refine hK.out _ _ trivial (fun hHeld => ?_)
        clear hK K
        refine no_ (some 39) ?_
        exact norm_ (by simp only [putAll, Act.put, List.setIfInBounds_toArray, List.set_cons_zero, List.set_cons_succ]) (hCont (v302, v306, v309) _ ⟨(pr_ HO307.out), (pr_ (Kd.R_mono HO310.out (fun _ hk => hk.2))), (pb_ HB.out)⟩)
    · skip
      refine Kd.R_lit_step (Kd.int .i64) _ 3 ?hg (N := 41) ?hd (xs := ([a1] : List Int)) (inner := [.int .i64 a1]) (ok := fun _ => True) (okp := fun _ => True) ?hr ?hp (fun _ hk => hk) trivial (Below.refl _ _) (Nat.le_refl _) (by simp) ?_; (case hd => rfl); (case hg => rfl); (case hr => first | (go_simp; done) | (go_simp; rfl)); (case hp => exact (Reps.one (show Kd.M (Kd.int .i64) _ _ _ a1 [.int .i64 a1] from rfl) (Reps.none _ _)))
      intro v309 w40 ho41 hb hg_ hnew_
      clear hg_ hnew_
      (first | rw [← Ny308.out] at ho41 | (simp only [Int.reduceToNat] at ho41; rw [← Ny308.out] at ho41))
      have _ := Aside0.mk (Kd.R_lower ho41 (below_size (pb_ HB.out)))
      have _ := Aside0.mk (below_step (pb_ HB.out) hb)
      clear HB
      rename_i HO310 HB
      clear hb ho41
      refine hK.out _ _ trivial (fun hHeld => ?_)
      clear hK K
      refine no_ (some 41) ?_
      refine on_ 0 (some 35) (tm_ 13 1903) HT_ (fun K hK => ?_)
      refine Kd.R_lit_step (Kd.int .i64) _ 3 ?hg (N := 35) ?hd (xs := ([] : List Int)) (inner := []) (ok := fun _ => True) (okp := fun _ => True) ?hr ?hp (fun _ hk => hk) trivial (Below.refl _ _) (Nat.le_refl _) (by simp) ?_; (case hd => rfl); (case hg => rfl); (case hr => first | (go_simp; done) | (go_simp; rfl)); (case hp => exact (Reps.none _ _))
      intro v302 w42 ho43 hb hg_ hnew_
      clear hg_ hnew_
      (first | rw [← Ny301.out] at ho43 | (simp only [Int.reduceToNat] at ho43; rw [← Ny301.out] at ho43))
      have _ := Aside0.mk (Kd.R_elder' (pr_ HO310.out) (Kd.R_base ho43) hb)
      have _ := Aside0.mk (Kd.R_lower (Kd.R_new' ho43 (Kd.R_lt (pr_ HO310.out))) (below_size (pb_ HB.out)))
      have _ := Aside0.mk (below_step (pb_ HB.out) hb)
      clear HO310 HB
      rename_i HO310 HO303 HB
      clear hb ho43
      refine hK.out _ _ trivial (fun hHeld => ?_)
      clear hK K
      refine no_ (some 35) ?_
      refine on_ 4 (some 39) (tm_ 13 1919) HT_ (fun K hK => ?_)
      refine Kd.R_append_rows_step (Kd.int .i64) (w0 := w) w.heap.size (by rfl) (.tmp 35) (.tmp 38) 39 3 (.int .i64 0) 8 rfl Try.underlying39 info3 rfl (by decide) (by omega) v302 y301 (l0.take (x5_1 : Int).toNat) _ _ _ (fun k_ => some k_ ≠ (v309 : Value).ownBlock) (fun _ => False) rfl rfl ?aO ?aR (fun _ _ h => h) (fun _ h => h.elim) ?aF ?aB ?aS ?aL ?_
      (case aR => first | ((conv => (arg 5; rw [← show (l0.take (x5_1 : Int).toNat).length = x5_1.toNat from (by rw [List.length_take]; have h_ : (x5_1 : Int) ≤ (l0.length : Int) := dt_; omega)])); exact cb_ HR304 HB) | (rw [← show (l0.take (x5_1 : Int).toNat).length = x5_1.toNat from (by rw [List.length_take]; have h_ : (x5_1 : Int) ≤ (l0.length : Int) := dt_; omega)]; exact cb_ HR304 HB) | (exact cb_ HR304 HB))
      (case aB => exact (pb_ HB.out))
      (case aF => exact (fun k_ hk => Kd.fresh' (Kd.R_lt (pr_ HO310.out)) k_ hk))
      (case aO => exact (pr_ (Kd.R_mono HO303.out (fun _ hk => hk.2))))
      (case aS => exact (below_size (pb_ HB.out)))
      (case aL => have := LMc32.out; have hlx_ := (show (l0.take (x5_1 : Int).toNat).length = x5_1.toNat from (by rw [List.length_take]; have h_ : (x5_1 : Int) ≤ (l0.length : Int) := dt_; omega)); omega)
      intro v306 w44 ho hb hg hat
      rw [← Ny305.out] at ho
      have _ := Aside0.mk (Kd.R_after (ok := (fun _ => True)) (pr_ HO310.out) hg hat)
      have _ := Aside0.mk (hb)
      have _ := Aside0.mk (ho)
      clear HO310 HB HO303
      rename_i HO310 HB HO307
      clear ho hb hg hat
      refine hK.out _ _ trivial (fun hHeld => ?_)
      clear hK K
      refine no_ (some 39) ?_
      exact norm_ (by simp only [putAll, Act.put, List.setIfInBounds_toArray, List.set_cons_zero, List.set_cons_succ]) (hCont (v302, v306, v309) _ ⟨(pr_ HO307.out), (pr_ (Kd.R_mono HO310.out (fun _ hk => hk.2))), (pb_ HB.out)⟩)
  rintro ⟨v302, v306, v309⟩ w45 ⟨h0_, h1_, h2_⟩
  have n0_ : Aside0 (Kd.R (Kd.int .i64) 3 w45 w.heap.size (fun k_ => some k_ ≠ (v309 : Value).ownBlock) v306 y305) := ⟨h0_⟩
  have n1_ : Aside0 (Kd.R (Kd.int .i64) 3 w45 w.heap.size (fun k_ => some k_ ≠ (v306 : Value).ownBlock) v309 y308) := ⟨h1_⟩
  have n2_ : Aside0 (Below w.heap.size w w45) := ⟨h2_⟩
  clear HB
  clear h0_ h1_ h2_
  have HO307 := n0_
  have HO310 := n1_
  have HB := n2_
  clear n0_ n1_ n2_
  have hHeld := trivial
  obtain ⟨Ao47, co47, eo47⟩ := Kd.R_slice HO310.out
  (first | subst eo47 | (injection eo47 with f1_ f2_ f3_; have f4_ := f1_.symm; have f5_ := f3_.symm; clear f1_ f2_ f3_; subst f4_; subst f5_))
  refine norm_ (a' := ?_) ?_ ?_
  rotate_left
  · simp only [putAll, Act.put, List.setIfInBounds_toArray, List.set_cons_zero, List.set_cons_succ]
    rfl
  refine on_ 7 (some 42) (tf_ 11 13) HT_ (fun K hK => ?_)
  refine Kd.R_append_rows_step (Kd.int .i64) (w0 := w) w.heap.size (by rfl) (.tmp 39) (.tmp 41) 39 3 (.int .i64 0) 8 rfl Try.underlying39 info3 rfl (by decide) (by omega) v306 y305 y308 _ _ _ (fun k_ => some k_ ≠ (.slice Ao47 y308.length co47 : Value).ownBlock) (fun _ => False) rfl rfl ?aO ?aR (fun _ _ h => h) (fun _ h => h.elim) ?aF ?aB ?aS ?aL ?_
  (case aR => exact pc_ ((Kd.R_reads' HO310.out).2.2))
  (case aB => exact (pb_ HB.out))
  (case aF => exact (fun k_ hk => Kd.fresh' (Kd.R_lt (pr_ HO310.out)) k_ hk))
  (case aO => exact (pr_ HO307.out))
  (case aS => exact (below_size (pb_ HB.out)))
  (case aL => have := LMc33.out; omega)
  intro v312 w46 ho hb hg hat
  rw [← Ny311.out] at ho
  have _ := Aside0.mk (Kd.R_after (ok := (fun _ => True)) (by (with_reducible repeat (first | apply Kd.R_alloc | apply Kd.R_drewN | apply Kd.R_drew)); exact Kd.R_mono HO310.out (fun _ hk => ⟨trivial, hk⟩)) hg hat)
  have _ := Aside0.mk (hb)
  have _ := Aside0.mk (ho)
  clear HO310 HB HO307
  rename_i HO310 HB HO313
  clear ho hb hg hat
  refine hK.out _ _ trivial (fun hHeld => ?_)
  clear hK K
  refine no_ (some 42) ?_
  refine on_ 11 (some 46) (tf_ 12 13) HT_ (fun K hK => ?_)
  refine Kd.R_append_rows_step (Kd.int .i64) (w0 := w) w.heap.size (by rfl) (.tmp 42) (.tmp 45) 39 3 (.int .i64 0) 8 rfl Try.underlying39 info3 rfl (by decide) (by omega) v312 y311 (l0.drop (x5_1 : Int).toNat) _ _ _ (fun k_ => some k_ ≠ (.slice Ao47 y308.length co47 : Value).ownBlock) (fun _ => False) rfl rfl ?aO ?aR (fun _ _ h => h) (fun _ h => h.elim) ?aF ?aB ?aS ?aL ?_
  (case aR => first | ((conv => (arg 5; rw [← show (l0.drop (x5_1 : Int).toNat).length = (l0.length - x5_1.toNat) from List.length_drop])); exact cb_ HR314 HB) | (rw [← show (l0.drop (x5_1 : Int).toNat).length = (l0.length - x5_1.toNat) from List.length_drop]; exact cb_ HR314 HB) | (exact cb_ HR314 HB))
  (case aB => exact (pb_ HB.out))
  (case aF => exact (fun k_ hk => Kd.fresh' (Kd.R_lt (pr_ HO310.out)) k_ hk))
  (case aO => exact (pr_ HO313.out))
  (case aS => exact (below_size (pb_ HB.out)))
  (case aL => have := LMc36.out; have hlx_ := (show (l0.drop (x5_1 : Int).toNat).length = (l0.length - x5_1.toNat) from List.length_drop); omega)
  intro v316 w48 ho hb hg hat
  rw [← Ny315.out] at ho
  have _ := Aside0.mk (Kd.R_after (ok := (fun _ => True)) (pr_ HO310.out) hg hat)
  have _ := Aside0.mk (hb)
  have _ := Aside0.mk (ho)
  clear HO310 HB HO313
  rename_i HO310 HB HO317
  clear ho hb hg hat
  refine hK.out _ _ trivial (fun hHeld => ?_)
  clear hK K
  refine no_ (some 46) ?_
  refine pu_ 12 (some 4) (tf_ 13 13) HT_ ?_
  refine done_ (done_of HT_.out (by kernel_rfl)) ?_
  try go_wp2
  go_ret
  exact ⟨_, er_, pr_ (Kd.R_mono HO317.out (fun _ hk => trivial)), pb_ HB.out⟩

/-! ### spec_MovesFrom: function 70 -/
def spec_MovesFrom.l0 : Nat → Int → Bool → List Int → Int → Int → List Bool → List (S78) → Option (List Int)
  | 0, _, _, _, _, _, _, _ => none
  | k + 1, x1, x2, x7, x8, x336000, x336001, x336002 => if x8 < (x336002.length : Int) then (if 0 ≤ x8 then (if ((rd_T78 x336002 x8).f0) = x1 then (if (((rd_T78 x336002 x8).f1) == x2) = true then ((spec_l4Put.f k x7 ((rd_T78 x336002 x8).f2)).bind fun t342 => (spec_MovesFrom.l0 k x1 x2 t342 (wrap64 (x8 + 1)) x336000 x336001 x336002)) else (spec_MovesFrom.l0 k x1 x2 x7 (wrap64 (x8 + 1)) x336000 x336001 x336002)) else (spec_MovesFrom.l0 k x1 x2 x7 (wrap64 (x8 + 1)) x336000 x336001 x336002)) else (none)) else (some x7)
def spec_MovesFrom.f (k : Nat) (a0_0 : Int) (l0_1 : List Bool) (l0_2 : List (S78)) (a1 : Int) (a2 : Bool) : Option (List Int) := spec_MovesFrom.l0 k a1 a2 (([] : List Int)) 0 a0_0 l0_1 l0_2
theorem spec_MovesFrom.mono_l : ∀ k, (∀ y0 y1 y2 y3 y4 y5 y6, LeO (spec_MovesFrom.l0 k y0 y1 y2 y3 y4 y5 y6) (spec_MovesFrom.l0 (k + 1) y0 y1 y2 y3 y4 y5 y6))
  | 0 => fun _ _ _ _ _ _ _ r h => by simp [spec_MovesFrom.l0] at h
  | k + 1 => by
    have ih0 := spec_MovesFrom.mono_l k
    · intro y0 y1 y2 y3 y4 y5 y6
      unfold spec_MovesFrom.l0
      repeat' first
      | (with_reducible exact ih0 _ _ _ _ _ _ _)
      | (with_reducible exact spec_l4Put.mono _ _ _)
      | (with_reducible exact LeO.refl _)
      | (with_reducible exact LeO.none _)
      | (with_reducible refine LeO.ite ?_ ?_)
      | (with_reducible refine LeO.bind ?_ (fun _ => ?_))
      | exact ih0 _ _ _ _ _ _ _
      | exact spec_l4Put.mono _ _ _
      | exact LeO.none _
      | refine LeO.ite ?_ ?_
      | refine LeO.bind ?_ (fun _ => ?_)
theorem spec_MovesFrom.mono : ∀ a0 a1 a2 a3 a4 k, LeO (spec_MovesFrom.f k a0 a1 a2 a3 a4) (spec_MovesFrom.f (k + 1) a0 a1 a2 a3 a4) := by
  intro a0 a1 a2 a3 a4 k
  have ih0 := spec_MovesFrom.mono_l k
  unfold spec_MovesFrom.f
  repeat' first
      | (with_reducible exact ih0 _ _ _ _ _ _ _)
      | (with_reducible exact spec_l4Put.mono _ _ _)
      | (with_reducible exact LeO.refl _)
      | (with_reducible exact LeO.none _)
      | (with_reducible refine LeO.ite ?_ ?_)
      | (with_reducible refine LeO.bind ?_ (fun _ => ?_))
      | exact ih0 _ _ _ _ _ _ _
      | exact spec_l4Put.mono _ _ _
      | exact LeO.none _
      | refine LeO.ite ?_ ?_
      | refine LeO.bind ?_ (fun _ => ?_)
set_option maxHeartbeats 8000000 in
set_option maxRecDepth 100000 in
theorem spec_MovesFrom.calls (k : Nat) (a0_0 : Int) (A0_1 : Option Addr) (c0_1 : Nat) (l0_1 : List Bool) (A0_2 : Option Addr) (c0_2 : Nat) (l0_2 : List (S78)) (a1 : Int) (a2 : Bool) (r : List Int) (w : World) (hr0_1 : Kd.C Kd.bool w A0_1 l0_1.length l0_1) (hc0_1 : l0_1.length ≤ c0_1) (hr0_2 : Kd.C k78 w A0_2 l0_2.length l0_2) (hc0_2 : l0_2.length ≤ c0_2) (h : spec_MovesFrom.f k a0_0 l0_1 l0_2 a1 a2 = some r) :
    Calls Try.prog 70 #[.agg #[.int .i64 a0_0, .slice A0_1 l0_1.length c0_1, .slice A0_2 l0_2.length c0_2], .int .i64 a1, .bool a2] w fun e w' => ∃ v0_ : Value, e = .returned (v0_) ∧ Kd.R (Kd.int .i64) 3 w' w.heap.size (fun _ => True) v0_ r ∧ Below w.heap.size w w' := by
  have hu34 := Try.underlying34
  have HR0_1 := Aside0.mk hr0_1
  have HC0_1 := Aside0.mk hc0_1
  clear hr0_1 hc0_1
  have HR0_2 := Aside0.mk hr0_2
  have HC0_2 := Aside0.mk hc0_2
  clear hr0_2 hc0_2
  have HB := Aside0.mk (Below.refl w.heap.size w)
  have H : (spec_MovesFrom.l0 k a1 a2 (([] : List Int)) 0 a0_0 l0_1 l0_2) = some r := h
  clear h
  obtain ⟨y336, hy336⟩ : ∃ y_ : List Int, y_ = (([] : List Int)) := ⟨_, rfl⟩
  replace H : (spec_MovesFrom.l0 k a1 a2 y336 0 a0_0 l0_1 l0_2) = some r := by first | (rw [hy336]; with_reducible exact H) | (have H2_ := (Option.bind_some _ _).symm.trans H; rw [hy336]; with_reducible exact H2_) | (have H2_ := (Option.bind_some _ _).symm.trans H; with_reducible exact H2_) | with_reducible exact H | (rw [hy336]; exact H) | exact H
  have Ny336 := Aside0.mk hy336
  clear hy336
  have H' := Aside0.mk H
  clear H
  go_enter Try.func70, Try.ntmps70
  go_wp2_with (first | ((with_reducible refine gate_dst (N := 3) rfl ?_); refine box_event ?hg (N := 3) ?hd (cs := #[.int .i64 a0_0, .slice A0_1 l0_1.length c0_1, .slice A0_2 l0_2.length c0_2]) (t := 34) ?hr ?_; (case hd => rfl); (case hg => rfl); (case hr => first | (go_simp; done) | (go_simp; rfl)); intro gb335 hg w4 hbox hb; have n0_ := Aside0.mk (below_step (pb_ HB.out) hb); have n1_ := Aside0.mk (hbox); have n2_ := Aside0.mk ((by rw [hg]; exact (below_size (pb_ HB.out)) : w.heap.size ≤ gb335)); have n3_ := Aside0.mk ((by rw [hg]; exact (below_size (pb_ HB.out)) : w.heap.size ≤ gb335)); clear HB; have HB := n0_; have BK335 := n1_; have GW335 := n2_; have GE335 := n3_; clear n0_ n1_ n2_ n3_; clear hb hbox hg) | ((with_reducible refine gate_dst (N := 9) rfl ?_); refine Kd.R_lit (Kd.int .i64) _ 3 ?hg (N := 9) ?hd (xs := ([] : List Int)) (inner := []) (ok := fun _ => True) (okp := fun _ => True) ?hr ?hp (fun _ hk => hk) trivial (Below.refl _ _) (Nat.le_refl _) (by simp) ?_; (case hd => rfl); (case hg => rfl); (case hr => first | (go_simp; done) | (go_simp; rfl)); (case hp => exact (Reps.none _ _)); intro v337 w5 ho6 hb hg_ hnew_; clear hg_ hnew_; (first | rw [← Ny336.out] at ho6 | (simp only [Int.reduceToNat] at ho6; rw [← Ny336.out] at ho6)); have _ := Aside0.mk (Kd.R_lower ho6 (below_size (pb1_ HB.out GE335.out))); have _ := Aside0.mk (bb_ BK335.out hb); have _ := Aside0.mk (below_step (pb1_ HB.out GE335.out) hb); clear BK335 HB; rename_i HO338 BK335 HB; clear hb ho6))
  (try simp only [Act.put, List.setIfInBounds_toArray, List.set_cons_zero, List.set_cons_succ])
  go_loopg [7, 8] k (fun kq v7 v8 w' => ∃ (x7_1 : List Int) (x8_1 : Int), v8 = .int .i64 x8_1 ∧ Aside0 (spec_MovesFrom.l0 kq a1 a2 x7_1 x8_1 a0_0 l0_1 l0_2 = some r) ∧ Aside0 (kq ≤ k) ∧ Aside0 (Kd.R (Kd.int .i64) 3 w' w.heap.size (fun _ => True) v7 x7_1) ∧ Aside0 (w'.heap[gb335]? = some (.cells #[.int .i64 a0_0, (.slice A0_1 l0_1.length c0_1), (.slice A0_2 l0_2.length c0_2)] 34 (0, 0))) ∧ Aside0 (Below w.heap.size w w'))
  case atStart => exact ⟨(y336), (0), el_, H', ⟨Nat.le_refl _⟩, ⟨pr_ HO338.out⟩, ⟨pk_ BK335.out⟩, ⟨pb1_ HB.out GE335.out⟩⟩
  clear H'
  try clear p2
  obtain ⟨x7_1, x8_1, rfl, HA, HK1, HO_7, BK335, HB⟩ := hrel
  rcases gk with _ | k1
  · exact absurd HA.out (by simp [spec_MovesFrom.l0])
  have H := HA.out
  clear HA
  simp only [spec_MovesFrom.l0] at H
  by_cases c7 : x8_1 < (l0_2.length : Int)
  rotate_left
  · rw [if_neg c7] at H
    have c7b0 : decide (x8_1 < (l0_2.length : Int)) = false := decide_eq_false c7
    clear c7
    obtain rfl := Option.some.inj H
    obtain ⟨hcz8_0, hcz8_1, hcz8_2, hfz8_0, hfz8_1, hfz8_2⟩ := bc3_ BK335.out
    go_wp2
    go_ret
    exact ⟨_, er_, pr_ HO_7.out, pb1_ HB.out GE335.out⟩
  rw [if_pos c7] at H
  have c7b0 : decide (x8_1 < (l0_2.length : Int)) = true := decide_eq_true c7
  clear c7
  by_cases c9 : 0 ≤ x8_1
  rotate_left
  · rw [if_neg c9] at H
    exact absurd H (by simp)
  rw [if_pos c9] at H
  have c9b0 : decide (0 ≤ x8_1) = true := decide_eq_true c9
  clear c9
  by_cases c10 : ((rd_T78 l0_2 x8_1).f0) = a1
  rotate_left
  · rw [if_neg c10] at H
    have c10b0 : (((rd_T78 l0_2 x8_1).f0) == a1) = false := beq_eq_false_iff_ne.mpr c10
    have c10b1 : (((rd_T78 l0_2 x8_1).f0) != a1) = true := bne_iff_ne.mpr c10
    have H' := Aside0.mk H
    clear H
    obtain ⟨hcz11_0, hcz11_1, hcz11_2, hfz11_0, hfz11_1, hfz11_2⟩ := bc3_ BK335.out
    have p339 : 0 ≤ (x8_1 : Int) := dt_
    have q339 : x8_1 < (l0_2.length : Int) := dt_
    obtain ⟨ad339, e339, hx339_0, hx339_1, hx339_2, hx339_3⟩ := at_T78 HR0_2.out x8_1 p339 q339
    cases e339
    replace hx339_0 := bt_ HB hx339_0
    replace hx339_1 := bt_ HB hx339_1
    replace hx339_2 := bt_ HB hx339_2
    replace hx339_3 := bt_ HB hx339_3
    replace p339 := eq_true p339
    replace q339 := eq_true q339
    go_wp2
    go_roundg k1
    case measure => have := HK1.out; omega
    case rel => exact ⟨(x7_1), (wrap64 (x8_1 + 1)), el_, H', ⟨by have := HK1.out; omega⟩, ⟨pr_ HO_7.out⟩, ⟨pk_ BK335.out⟩, ⟨pb1_ HB.out GE335.out⟩⟩
  rw [if_pos c10] at H
  have c10b0 : (((rd_T78 l0_2 x8_1).f0) == a1) = true := beq_iff_eq.mpr c10
  have c10b1 : (((rd_T78 l0_2 x8_1).f0) != a1) = false := bne_eq_false_iff_eq.mpr c10
  clear c10
  by_cases c12 : (((rd_T78 l0_2 x8_1).f1) == a2) = true
  rotate_left
  · rw [if_neg c12] at H
    have c12b0 : (((rd_T78 l0_2 x8_1).f1) == a2) = false := by simpa using c12
    (try (have c12b1 : decide (((rd_T78 l0_2 x8_1).f1) = a2) = false := by simpa using c12))
    (try (have c12b2 : (((rd_T78 l0_2 x8_1).f1) == a2) = false := by simpa using c12))
    (try (have c12b3 : ¬ (((rd_T78 l0_2 x8_1).f1) = a2) := by simpa using c12))
    clear c12
    have H' := Aside0.mk H
    clear H
    obtain ⟨hcz13_0, hcz13_1, hcz13_2, hfz13_0, hfz13_1, hfz13_2⟩ := bc3_ BK335.out
    have p339 : 0 ≤ (x8_1 : Int) := dt_
    have q339 : x8_1 < (l0_2.length : Int) := dt_
    obtain ⟨ad339, e339, hx339_0, hx339_1, hx339_2, hx339_3⟩ := at_T78 HR0_2.out x8_1 p339 q339
    cases e339
    replace hx339_0 := bt_ HB hx339_0
    replace hx339_1 := bt_ HB hx339_1
    replace hx339_2 := bt_ HB hx339_2
    replace hx339_3 := bt_ HB hx339_3
    replace p339 := eq_true p339
    replace q339 := eq_true q339
    have p340 : 0 ≤ (x8_1 : Int) := dt_
    have q340 : x8_1 < (l0_2.length : Int) := dt_
    obtain ⟨ad340, e340, hx340_0, hx340_1, hx340_2, hx340_3⟩ := at_T78 HR0_2.out x8_1 p340 q340
    obtain rfl : ad339 = ad340 := (by injection e340)
    replace hx340_0 := bt_ HB hx340_0
    replace hx340_1 := bt_ HB hx340_1
    replace hx340_2 := bt_ HB hx340_2
    replace hx340_3 := bt_ HB hx340_3
    replace p340 := eq_true p340
    replace q340 := eq_true q340
    go_wp2
    go_roundg k1
    case measure => have := HK1.out; omega
    case rel => exact ⟨(x7_1), (wrap64 (x8_1 + 1)), el_, H', ⟨by have := HK1.out; omega⟩, ⟨pr_ HO_7.out⟩, ⟨pk_ BK335.out⟩, ⟨pb1_ HB.out GE335.out⟩⟩
  rw [if_pos c12] at H
  have c12b0 : (((rd_T78 l0_2 x8_1).f1) == a2) = true := c12
  (try (have c12b1 : decide (((rd_T78 l0_2 x8_1).f1) = a2) = true := by simpa using c12))
  (try (have c12b2 : (((rd_T78 l0_2 x8_1).f1) == a2) = true := by simpa using c12))
  clear c12
  replace H := Option.bind_eq_some_iff.mp H
  obtain ⟨t342, A140, H⟩ := H
  (try dsimp only at H)
  have A14 := Aside0.mk A140
  clear A140
  have H' := Aside0.mk H
  clear H
  obtain ⟨hcz15_0, hcz15_1, hcz15_2, hfz15_0, hfz15_1, hfz15_2⟩ := bc3_ BK335.out
  have p339 : 0 ≤ (x8_1 : Int) := dt_
  have q339 : x8_1 < (l0_2.length : Int) := dt_
  obtain ⟨ad339, e339, hx339_0, hx339_1, hx339_2, hx339_3⟩ := at_T78 HR0_2.out x8_1 p339 q339
  cases e339
  replace hx339_0 := bt_ HB hx339_0
  replace hx339_1 := bt_ HB hx339_1
  replace hx339_2 := bt_ HB hx339_2
  replace hx339_3 := bt_ HB hx339_3
  replace p339 := eq_true p339
  replace q339 := eq_true q339
  have p340 : 0 ≤ (x8_1 : Int) := dt_
  have q340 : x8_1 < (l0_2.length : Int) := dt_
  obtain ⟨ad340, e340, hx340_0, hx340_1, hx340_2, hx340_3⟩ := at_T78 HR0_2.out x8_1 p340 q340
  obtain rfl : ad339 = ad340 := (by injection e340)
  replace hx340_0 := bt_ HB hx340_0
  replace hx340_1 := bt_ HB hx340_1
  replace hx340_2 := bt_ HB hx340_2
  replace hx340_3 := bt_ HB hx340_3
  replace p340 := eq_true p340
  replace q340 := eq_true q340
  have p341 : 0 ≤ (x8_1 : Int) := dt_
  have q341 : x8_1 < (l0_2.length : Int) := dt_
  obtain ⟨ad341, e341, hx341_0, hx341_1, hx341_2, hx341_3⟩ := at_T78 HR0_2.out x8_1 p341 q341
  obtain rfl : ad339 = ad341 := (by injection e341)
  replace hx341_0 := bt_ HB hx341_0
  replace hx341_1 := bt_ HB hx341_1
  replace hx341_2 := bt_ HB hx341_2
  replace hx341_3 := bt_ HB hx341_3
  replace p341 := eq_true p341
  replace q341 := eq_true q341
  obtain ⟨Ao16, co16, eo16⟩ := Kd.R_slice HO_7.out
  subst eo16
  go_wp2_with (first | ((with_reducible refine gate_callee (f := 84) rfl ?_); refine gl_ (some 42) Try.func84 #[.slice Ao16 x7_1.length co16, .int .i64 ((rd_T78 l0_2 x8_1).f2)] ?_; (with_reducible refine (spec_l4Put.calls k1 _ _ x7_1 ((rd_T78 l0_2 x8_1).f2) t342 _ ?side1 ?side2 A14.out).mono ?_); (case side1 => exact pc_ ((Kd.R_reads' HO_7.out).2.2)); (case side2 => exact (Kd.R_reads' HO_7.out).2.1); rintro e w17 ⟨v343, rfl, ho0, hb⟩; refine ⟨_, rfl, ?_⟩; have _ := Aside0.mk (Kd.R_elder' (pr_ HO_7.out) (Kd.R_base ho0) hb); have _ := Aside0.mk (Kd.R_lower (Kd.R_new' ho0 (Kd.R_lt (pr_ HO_7.out))) (below_size (pb1_ HB.out GE335.out))); have _ := Aside0.mk (bb_ BK335.out hb); have _ := Aside0.mk (below_step (pb1_ HB.out GE335.out) hb); clear HO_7 BK335 HB; rename_i HO_7 HO344 BK335 HB; (try clear hb); (try clear hb2); (try clear hk); (try clear hi); (try clear ho0)))
  go_roundg k1
  case measure => have := HK1.out; omega
  case rel => exact ⟨(t342), (wrap64 (x8_1 + 1)), el_, H', ⟨by have := HK1.out; omega⟩, ⟨pr_ (Kd.R_mono HO344.out (fun _ hk => trivial))⟩, ⟨pk_ BK335.out⟩, ⟨pb1_ HB.out GE335.out⟩⟩

end Go.Proofs.Ytldcchjbaglppaa.Print
