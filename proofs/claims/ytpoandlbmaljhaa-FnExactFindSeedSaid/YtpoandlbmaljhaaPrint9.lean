-- Written by a program of this session (printx.py) out of the translation; Lean checks it.
import Derived.Test.YtpoandlbmaljhaaPrint0
import Derived.Test.YtpoandlbmaljhaaPrint7
import Derived.Test.YtpoandlbmaljhaaPrint8
namespace Go.Proofs.Ytpoandlbmaljhaa.Print
open Go.RowKit Go.Proofs.YtpoandlbmaljhaaW.PrintWords Go.Proofs.YtpoandlbmaljhaaW.PrintLast Go.Proofs.YtpoandlbmaljhaaW.PrintMore Go.Proofs.Ytpoandlbmaljhaa.Short
attribute [local go_sem] max2_int min2_int max_two min_two max_three min_three max_four min_four   -- for this text's walks alone
set_option linter.unusedVariables false
set_option linter.unusedSimpArgs false

/-! ### impl_keptExts_with_impl_copyExts_1: function 100005 -/
def impl_keptExts_with_impl_copyExts_1.l0 : Nat → List (S69) → List (S69) → Int → Int → Option ((List (S69)))
  | 0, _, _, _, _ => none
  | k + 1, x5, x9, x10, x11 => if x11 < x10 then (if 0 ≤ x11 then (if x11 < (x9.length : Int) then ((impl_copyExts_1.f ((rd_T69 x9 x11).f0)).bind fun t352 => (if t352 = true then ((some (([] : List Int) : List Int)).bind fun y353 => (if y353.length + ((rd_T69 x9 x11).f1).length < 17592186044416 then (if x5.length < 4398046511104 then (impl_keptExts_with_impl_copyExts_1.l0 k (x5 ++ [(⟨(rd_T69 x9 x11).f0, (y353 ++ ((rd_T69 x9 x11).f1))⟩ : S69)]) x9 x10 (wrap64 (x11 + 1))) else (none)) else (none))) else (impl_keptExts_with_impl_copyExts_1.l0 k x5 x9 x10 (wrap64 (x11 + 1))))) else (none)) else (none)) else (some x5)
def impl_keptExts_with_impl_copyExts_1.f (k : Nat) (l0 : List (S69)) : Option ((List (S69))) := impl_keptExts_with_impl_copyExts_1.l0 k (([] : List (S69))) l0 (l0.length : Int) 0
theorem impl_keptExts_with_impl_copyExts_1.mono_l : ∀ k, (∀ y0 y1 y2 y3, LeO (impl_keptExts_with_impl_copyExts_1.l0 k y0 y1 y2 y3) (impl_keptExts_with_impl_copyExts_1.l0 (k + 1) y0 y1 y2 y3))
  | 0 => fun _ _ _ _ r h => by simp [impl_keptExts_with_impl_copyExts_1.l0] at h
  | k + 1 => by
    have ih0 := impl_keptExts_with_impl_copyExts_1.mono_l k
    · intro y0 y1 y2 y3
      unfold impl_keptExts_with_impl_copyExts_1.l0
      repeat' first
      | (with_reducible exact ih0 _ _ _ _)
      | (with_reducible exact LeO.refl _)
      | (with_reducible exact LeO.none _)
      | (with_reducible refine LeO.ite ?_ ?_)
      | (with_reducible refine LeO.bind ?_ (fun _ => ?_))
      | exact ih0 _ _ _ _
      | exact LeO.none _
      | refine LeO.ite ?_ ?_
      | refine LeO.bind ?_ (fun _ => ?_)
theorem impl_keptExts_with_impl_copyExts_1.mono : ∀ a0 k, LeO (impl_keptExts_with_impl_copyExts_1.f k a0) (impl_keptExts_with_impl_copyExts_1.f (k + 1) a0) := by
  intro a0 k
  have ih0 := impl_keptExts_with_impl_copyExts_1.mono_l k
  unfold impl_keptExts_with_impl_copyExts_1.f
  repeat' first
      | (with_reducible exact ih0 _ _ _ _)
      | (with_reducible exact LeO.refl _)
      | (with_reducible exact LeO.none _)
      | (with_reducible refine LeO.ite ?_ ?_)
      | (with_reducible refine LeO.bind ?_ (fun _ => ?_))
      | exact ih0 _ _ _ _
      | exact LeO.none _
      | refine LeO.ite ?_ ?_
      | refine LeO.bind ?_ (fun _ => ?_)
def impl_keptExts_with_impl_copyExts_1.T6 : Bool × List (List Nat × List Nat) := (true, [([], []), ([], []), ([1], [1]), ([], []), ([], []), ([4], [4]), ([3, 5], [3, 5]), ([2, 6], [2, 6]), ([7], [7]), ([0, 8, 6], [0, 8]), ([9, 9, 0, 1, 2, 3, 4, 5, 6, 7, 8, 9], [0, 9])])
def impl_keptExts_with_impl_copyExts_1.B6 : List Nat := [0, 0, 2, 0, 0, 16, 56, 126, 254, 511, 1023]
theorem impl_keptExts_with_impl_copyExts_1.tab6 : rtab .any (opsOf Try.f95 6) = impl_keptExts_with_impl_copyExts_1.T6 := by kernel_rfl
theorem impl_keptExts_with_impl_copyExts_1.bits6 : waitsOk impl_keptExts_with_impl_copyExts_1.T6.2 impl_keptExts_with_impl_copyExts_1.B6 = true := by kernel_rfl
set_option maxHeartbeats 8000000 in
set_option maxRecDepth 100000 in
theorem impl_keptExts_with_impl_copyExts_1.calls (k : Nat) (A0 : Option Addr) (c0 : Nat) (l0 : List (S69)) (r : List (S69)) (w : World) (hr0 : Kd.C k69 w A0 l0.length l0) (hc0 : l0.length ≤ c0) (h : impl_keptExts_with_impl_copyExts_1.f k l0 = some r) :
    Calls Try.prog 95 #[.slice A0 l0.length c0, .func (.func 103) #[] #[]] w fun e w' => ∃ v0_ : Value, e = .returned (v0_) ∧ Kd.S k69 69 w' w.heap.size (fun _ => True) v0_ r ∧ Below w.heap.size w w' := by
  have hu69 := Try.underlying69
  have HR0 := Aside0.mk hr0
  have HC0 := Aside0.mk hc0
  clear hr0 hc0
  have HB := Aside0.mk (Below.refl w.heap.size w)
  have H : (impl_keptExts_with_impl_copyExts_1.l0 k (([] : List (S69))) l0 (l0.length : Int) 0) = some r := h
  clear h
  obtain ⟨y347, hy347⟩ : ∃ y_ : List (S69), y_ = (([] : List (S69))) := ⟨_, rfl⟩
  replace H : (impl_keptExts_with_impl_copyExts_1.l0 k y347 l0 (l0.length : Int) 0) = some r := by first | (rw [hy347]; with_reducible exact H) | (have H2_ := (Option.bind_some _ _).symm.trans H; rw [hy347]; with_reducible exact H2_) | (have H2_ := (Option.bind_some _ _).symm.trans H; with_reducible exact H2_) | with_reducible exact H | (rw [hy347]; exact H) | exact H
  have Ny347 := Aside0.mk hy347
  clear hy347
  have H' := Aside0.mk H
  clear H
  go_enter Try.func95, Try.ntmps95
  go_wp2_with (first | ((with_reducible refine gate_dst (N := 8) rfl ?_); refine Kd.S_lit k69 _ 69 ?hg (N := 8) ?hd (xs := ([] : List (S69))) (inner := []) (ok := fun _ => True) (okp := fun _ => True) ?hr ?hp (fun _ hk => hk) trivial (Below.refl _ _) (Nat.le_refl _) (by simp) ?_; (case hd => rfl); (case hg => rfl); (case hr => first | (go_simp; done) | (go_simp; rfl)); (case hp => exact (Reps.none _ _)); intro v348 w2 ho3 hb hg_ hnew_; clear hg_ hnew_; (first | rw [← Ny347.out] at ho3 | (simp only [Int.reduceToNat] at ho3; rw [← Ny347.out] at ho3)); have n0_ := Aside0.mk (Kd.S_lower ho3 (below_size (pb_ HB.out))); have n1_ := Aside0.mk (below_step (pb_ HB.out) hb); clear HB; have HO349 := n0_; have HB := n1_; clear n0_ n1_; clear hb ho3))
  (try simp only [Act.put, List.setIfInBounds_toArray, List.set_cons_zero, List.set_cons_succ])
  go_loopg [5, 11] k (fun kq v5 v11 w' => ∃ (x5_1 : List (S69)) (x11_1 : Int), v11 = .int .i64 x11_1 ∧ Aside0 (impl_keptExts_with_impl_copyExts_1.l0 kq x5_1 l0 (l0.length : Int) x11_1 = some r) ∧ Aside0 (kq ≤ k) ∧ Aside0 (Kd.S k69 69 w' w.heap.size (fun _ => True) v5 x5_1) ∧ Aside0 (Below w.heap.size w w'))
  case atStart => exact ⟨(y347), (0), el_, H', ⟨Nat.le_refl _⟩, ⟨ps_ HO349.out⟩, ⟨pb_ HB.out⟩⟩
  clear H'
  try clear p2
  obtain ⟨x5_1, x11_1, rfl, HA, HK1, HO_5, HB⟩ := hrel
  rcases gk with _ | k1
  · exact absurd HA.out (by simp [impl_keptExts_with_impl_copyExts_1.l0])
  have H := HA.out
  clear HA
  simp only [impl_keptExts_with_impl_copyExts_1.l0] at H
  by_cases c4 : x11_1 < (l0.length : Int)
  rotate_left
  · rw [if_neg c4] at H
    have c4b0 : decide (x11_1 < (l0.length : Int)) = false := decide_eq_false c4
    clear c4
    obtain rfl := Option.some.inj H
    go_wp2
    go_ret
    exact ⟨_, er_, ps_ HO_5.out, pb_ HB.out⟩
  rw [if_pos c4] at H
  have c4b0 : decide (x11_1 < (l0.length : Int)) = true := decide_eq_true c4
  clear c4
  by_cases c5 : 0 ≤ x11_1
  rotate_left
  · rw [if_neg c5] at H
    exact absurd H (by simp)
  rw [if_pos c5] at H
  have c5b0 : decide (0 ≤ x11_1) = true := decide_eq_true c5
  clear c5
  by_cases c6 : x11_1 < (l0.length : Int)
  rotate_left
  · rw [if_neg c6] at H
    exact absurd H (by simp)
  rw [if_pos c6] at H
  have c6b0 : decide (x11_1 < (l0.length : Int)) = true := decide_eq_true c6
  clear c6
  have HS_ := Aside0.mk H
  clear H
  have p350 : 0 ≤ (x11_1 : Int) := dt_
  have q350 : x11_1 < (l0.length : Int) := dt_
  obtain ⟨ad350, A350_1, c350_1, e350, hx350_0, hx350_1, hl350_1, hi350_1⟩ := at_T69 HR0.out x11_1 p350 q350
  cases e350
  replace hx350_0 := (HB.out.cell (World.block_lt_of_cell? w _ hx350_0)).trans hx350_0
  replace hx350_1 := (HB.out.cell (World.block_lt_of_cell? w _ hx350_1)).trans hx350_1
  have HR350_1 := Aside0.mk hi350_1
  have HC350_1 := Aside0.mk hl350_1
  clear hi350_1 hl350_1
  replace p350 := eq_true p350
  replace q350 := eq_true q350
  go_upto_region 5 with (first | ((with_reducible refine gate_dst (N := 7) rfl ?_); refine box_event ?hg (N := 7) ?hd (cs := #[.int .i64 0, .slice none 0 0]) (t := 69) ?hr ?_; (case hd => rfl); (case hg => rfl); (case hr => first | (go_simp; done) | (go_simp; rfl)); intro gb351 hg w7 hbox hb; have n0_ := Aside0.mk (Kd.S_below (Kd.S_elderB (ps_ HO_5.out) gb351 (Nat.le_of_eq hg.symm)) hb); have n1_ := Aside0.mk (below_step (pb_ HB.out) hb); have n2_ := Aside0.mk (hbox); have n3_ := Aside0.mk ((by rw [hg]; exact (below_size (pb_ HB.out)) : w.heap.size ≤ gb351)); have n4_ := Aside0.mk ((by rw [hg]; exact (below_size (pb_ HB.out)) : w.heap.size ≤ gb351)); clear HO_5; clear HB; have HO_5 := n0_; have HB := n1_; have BK351 := n2_; have GW351 := n3_; have GE351 := n4_; clear n0_ n1_ n2_ n3_ n4_; clear hb hbox hg; have hcz8_0 : w7.cell? ⟨gb351, 0, none⟩ = some (.int .i64 0) := (blk_cell BK351.out 0).trans rfl; have hcz8_1 : w7.cell? ⟨gb351, 1, none⟩ = some (.slice none 0 0) := (blk_cell BK351.out 1).trans rfl; have hfz8_0 := blk_frozen BK351.out 0; have hfz8_1 := blk_frozen BK351.out 1))
  (try simp only [Act.put, List.setIfInBounds_toArray, List.set_cons_zero, List.set_cons_succ])
  have H := HS_.out
  clear HS_
  replace H := Option.bind_eq_some_iff.mp H
  obtain ⟨t352, A90, H⟩ := H
  (try dsimp only at H)
  have A9 := Aside0.mk A90
  clear A90
  have HS_ := Aside0.mk H
  clear H
  obtain ⟨hcz10_0, hcz10_1, hfz10_0, hfz10_1⟩ := bc2_ BK351.out
  go_upto_if 18 with (first | (go_at_call 103; (with_reducible refine (impl_copyExts_1.calls ((rd_T69 l0 x11_1).f0) t352 _ A9.out).mono ?_); rintro e w' ⟨rfl, ⟨nd, rfl⟩⟩))
  (try simp only [Act.put, List.setIfInBounds_toArray, List.set_cons_zero, List.set_cons_succ])
  have H := HS_.out
  clear HS_
  by_cases c11 : t352 = true
  rotate_left
  · replace c11 := Bool.eq_false_iff.mpr c11
    subst c11
    rw [if_neg (show ¬ (false = true) by decide)] at H
    have H' := Aside0.mk H
    clear H
    go_wp2
    go_roundg k1
    case measure => have := HK1.out; omega
    case rel => exact ⟨(x5_1), (wrap64 (x11_1 + 1)), el_, H', ⟨by have := HK1.out; omega⟩, ⟨by (with_reducible repeat (first | apply Kd.S_alloc | apply Kd.S_drewN | apply Kd.S_drew)); exact Kd.S_mono (Kd.S_far (p := ⟨gb351, 1, none⟩) (Kd.S_far (p := ⟨gb351, 0, none⟩) (Kd.S_mono HO_5.out (fun k_ hk => (⟨hk, hk.2⟩ : _ ∧ k_ ≠ gb351))) (fun _ hk => hk.2) (.int .i64 ((rd_T69 l0 x11_1).f0))) (fun _ hk => hk.2) (.slice A350_1 ((rd_T69 l0 x11_1).f1).length c350_1)) (fun _ hk => trivial)⟩, ⟨pb1_ HB.out GE351.out⟩⟩
  subst c11
  rw [if_pos rfl] at H
  obtain ⟨y353, hy353⟩ : ∃ y_ : List Int, y_ = (([] : List Int)) := ⟨_, rfl⟩
  replace H : (if y353.length + ((rd_T69 l0 x11_1).f1).length < 17592186044416 then (if x5_1.length < 4398046511104 then (impl_keptExts_with_impl_copyExts_1.l0 k1 (x5_1 ++ [(⟨(rd_T69 l0 x11_1).f0, (y353 ++ ((rd_T69 l0 x11_1).f1))⟩ : S69)]) l0 (l0.length : Int) (wrap64 (x11_1 + 1))) else (none)) else (none)) = some r := by first | (rw [hy353]; with_reducible exact H) | (have H2_ := (Option.bind_some _ _).symm.trans H; rw [hy353]; with_reducible exact H2_) | (have H2_ := (Option.bind_some _ _).symm.trans H; with_reducible exact H2_) | with_reducible exact H | (rw [hy353]; exact H) | exact H
  have Ny353 := Aside0.mk hy353
  clear hy353
  by_cases c12 : y353.length + ((rd_T69 l0 x11_1).f1).length < 17592186044416
  rotate_left
  · rw [if_neg c12] at H
    exact absurd H (by simp)
  rw [if_pos c12] at H
  have LMc12 := Aside0.mk c12
  clear c12
  obtain ⟨y356, hy356⟩ : ∃ y_ : List Int, y_ = (y353 ++ ((rd_T69 l0 x11_1).f1)) := ⟨_, rfl⟩
  replace H : (if x5_1.length < 4398046511104 then (impl_keptExts_with_impl_copyExts_1.l0 k1 (x5_1 ++ [(⟨(rd_T69 l0 x11_1).f0, y356⟩ : S69)]) l0 (l0.length : Int) (wrap64 (x11_1 + 1))) else (none)) = some r := by first | (rw [hy356]; with_reducible exact H) | (have H2_ := (Option.bind_some _ _).symm.trans H; rw [hy356]; with_reducible exact H2_) | (have H2_ := (Option.bind_some _ _).symm.trans H; with_reducible exact H2_) | with_reducible exact H | (rw [hy356]; exact H) | exact H
  have Ny356 := Aside0.mk hy356
  clear hy356
  by_cases c13 : x5_1.length < 4398046511104
  rotate_left
  · rw [if_neg c13] at H
    exact absurd H (by simp)
  rw [if_pos c13] at H
  have LMc13 := Aside0.mk c13
  clear c13
  obtain ⟨y359, hy359⟩ : ∃ y_ : List (S69), y_ = (x5_1 ++ [(⟨(rd_T69 l0 x11_1).f0, y356⟩ : S69)]) := ⟨_, rfl⟩
  replace H : (impl_keptExts_with_impl_copyExts_1.l0 k1 y359 l0 (l0.length : Int) (wrap64 (x11_1 + 1))) = some r := by first | (rw [hy359]; with_reducible exact H) | (have H2_ := (Option.bind_some _ _).symm.trans H; rw [hy359]; with_reducible exact H2_) | (have H2_ := (Option.bind_some _ _).symm.trans H; with_reducible exact H2_) | with_reducible exact H | (rw [hy359]; exact H) | exact H
  have Ny359 := Aside0.mk hy359
  clear hy359
  have H' := Aside0.mk H
  clear H
  try go_wp2
  have n0_ : Aside0 (Kd.S k69 69 ((w7.setCell ⟨gb351, 0, none⟩ (.int .i64 ((rd_T69 l0 x11_1).f0))).setCell ⟨gb351, 1, none⟩ (.slice A350_1 ((rd_T69 l0 x11_1).f1).length c350_1)) w.heap.size (fun k_ => k_ ≠ gb351) u5 x5_1) := ⟨by (with_reducible repeat (first | apply Kd.S_alloc | apply Kd.S_drewN | apply Kd.S_drew)); exact Kd.S_mono (Kd.S_far (p := ⟨gb351, 1, none⟩) (Kd.S_far (p := ⟨gb351, 0, none⟩) (Kd.S_mono HO_5.out (fun k_ hk => (⟨hk, hk.2⟩ : _ ∧ k_ ≠ gb351))) (fun _ hk => hk.2) (.int .i64 ((rd_T69 l0 x11_1).f0))) (fun _ hk => hk.2) (.slice A350_1 ((rd_T69 l0 x11_1).f1).length c350_1)) (fun _ hk => hk.1.2)⟩
  have n1_ : Aside0 (((w7.setCell ⟨gb351, 0, none⟩ (.int .i64 ((rd_T69 l0 x11_1).f0))).setCell ⟨gb351, 1, none⟩ (.slice A350_1 ((rd_T69 l0 x11_1).f1).length c350_1)).heap[gb351]? = some (.cells #[.int .i64 ((rd_T69 l0 x11_1).f0), .slice A350_1 ((rd_T69 l0 x11_1).f1).length c350_1] 69 (0, 0))) := ⟨pp_ BK351.out⟩
  have n2_ : Aside0 (Below w.heap.size w ((w7.setCell ⟨gb351, 0, none⟩ (.int .i64 ((rd_T69 l0 x11_1).f0))).setCell ⟨gb351, 1, none⟩ (.slice A350_1 ((rd_T69 l0 x11_1).f1).length c350_1))) := ⟨pb1_ HB.out GE351.out⟩
  (try clear HO_5)
  (try clear BK351)
  (try clear HB)
  generalize ((w7.setCell ⟨gb351, 0, none⟩ (.int .i64 ((rd_T69 l0 x11_1).f0))).setCell ⟨gb351, 1, none⟩ (.slice A350_1 ((rd_T69 l0 x11_1).f1).length c350_1)) = w14 at n0_ n1_ n2_ ⊢
  (try (rw [show w14.drewN nd = w14.drewN nd from rfl]; replace n0_ := Aside0.mk (Kd.S_drewN n0_.out nd); replace n1_ := Aside0.mk (blk_drewN n1_.out nd); replace n2_ := Aside0.mk (pw_below_drewN n2_.out nd); generalize w14.drewN nd = w14 at n0_ n1_ n2_ ⊢))
  have HO_5 := n0_
  have BK351 := n1_
  have HB := n2_
  clear n0_ n1_ n2_
  (try (rw [drewN_self w14]; generalize hq_ : World.drewN w14 _ = w14; have n0_ : Aside0 (Kd.S k69 69 w14 w.heap.size (fun k_ => k_ ≠ gb351) u5 x5_1) := ⟨by rw [← hq_]; exact (ps_ HO_5.out)⟩; have n1_ : Aside0 (w14.heap[gb351]? = some (.cells #[.int .i64 ((rd_T69 l0 x11_1).f0), .slice A350_1 ((rd_T69 l0 x11_1).f1).length c350_1] 69 (0, 0))) := ⟨by rw [← hq_]; exact (pk_ BK351.out)⟩; have n2_ : Aside0 (Below w.heap.size w w14) := ⟨by rw [← hq_]; exact (pb1_ HB.out GE351.out)⟩; clear HO_5 BK351 HB hq_; have HO_5 := n0_; have BK351 := n1_; have HB := n2_; clear n0_ n1_ n2_))
  have n0_ := Aside0.mk (Kd.S_drew HO_5.out)
  have n1_ := Aside0.mk (blk_drew BK351.out)
  have n2_ := Aside0.mk (below_drew1 HB.out)
  clear HO_5
  clear BK351
  clear HB
  have HO_5 := n0_
  have BK351 := n1_
  have HB := n2_
  clear n0_ n1_ n2_
  refine start_ (n := 11) (S := fun w' => w'.cell? ⟨gb351, 0, none⟩ = some (.int .i64 ((rd_T69 l0 x11_1).f0)) ∧ w'.cell? ⟨gb351, 1, none⟩ = some (.slice A350_1 ((rd_T69 l0 x11_1).f1).length c350_1)) (ds := []) #[false, false, false, false, false, false, false, false, false, false, false] (by kernel_rfl) rfl rfl ⟨(blk_cell BK351.out 0).trans rfl, (blk_cell BK351.out 1).trans rfl⟩ (fun hHeld => ?_); refine with_tabW impl_keptExts_with_impl_copyExts_1.tab6 impl_keptExts_with_impl_copyExts_1.bits6 (fun HT_ HW_ => ?_)
  generalize w14.drew = w15 at HO_5 BK351 HB hHeld ⊢
  refine pu_ 0 (some 19) (tf_ 1 11) HT_ ?_
  refine pu_ 1 (some 20) (tf_ 2 11) HT_ ?_
  refine pu_ 4 (some 23) #[true, true, false, false, true, false, false, false, false, false, false] HT_ ?_
  refine ta_ 2 (some 21) #[true, true, true, false, true, false, false, false, false, false, false] HT_ HW_ hHeld ?_
  refine ta_ 5 (some 24) #[true, true, true, false, true, true, false, false, false, false, false] HT_ HW_ hHeld ?_
  refine on_ 3 (some 22) (tf_ 6 11) HT_ (fun K hK => ?_)
  refine Kd.R_lit_step (Kd.int .i64) _ 3 ?hg (N := 22) ?hd (xs := ([] : List Int)) (inner := []) (ok := fun _ => True) (okp := fun _ => True) ?hr ?hp (fun _ hk => hk) trivial (Below.refl _ _) (Nat.le_refl _) (by simp) ?_; (case hd => rfl); (case hg => rfl); (case hr => first | (go_simp; done) | (go_simp; rfl)); (case hp => exact (Reps.none _ _))
  intro v354 w16 ho17 hb hg_ hnew_
  clear hg_ hnew_
  (first | rw [← Ny353.out] at ho17 | (simp only [Int.reduceToNat] at ho17; rw [← Ny353.out] at ho17))
  have n0_ := Aside0.mk (Kd.S_elder' (ps_ HO_5.out) (Kd.R_base ho17) hb)
  have n1_ := Aside0.mk (Kd.R_lower ho17 (below_size (pb1_ HB.out GE351.out)))
  have n2_ := Aside0.mk (bb_ BK351.out hb)
  have n3_ := Aside0.mk (below_step (pb1_ HB.out GE351.out) hb)
  clear HO_5
  clear BK351
  clear HB
  have HO_5 := n0_
  have HO355 := n1_
  have BK351 := n2_
  have HB := n3_
  clear n0_ n1_ n2_ n3_
  clear hb ho17
  refine hK.out _ _ ⟨(blk_cell BK351.out 0).trans rfl, (blk_cell BK351.out 1).trans rfl⟩ (fun hHeld => ?_)
  clear hK K
  refine no_ (some 22) ?_
  refine on_ 6 (some 25) (tf_ 7 11) HT_ (fun K hK => ?_)
  refine Kd.R_append_rows_step (Kd.int .i64) (w0 := w) w.heap.size (by rfl) (.tmp 22) (.tmp 24) 23 3 (.int .i64 0) 8 rfl Try.underlying23 info3 rfl (by decide) (by omega) v354 y353 ((rd_T69 l0 x11_1).f1) _ _ _ (fun _ => True) (fun _ => False) rfl rfl ?aO ?aR (fun _ _ h => h) (fun _ h => h.elim) ?aF ?aB ?aS ?aL ?_
  (case aR => exact pc_ (Kd.C_below HR350_1.out HB.out))
  (case aB => exact (pb1_ HB.out GE351.out))
  (case aF => exact (fun _ _ => trivial))
  (case aO => exact (pr_ HO355.out))
  (case aS => exact (below_size (pb1_ HB.out GE351.out)))
  (case aL => have := LMc12.out; omega)
  intro v357 w18 ho hb hg hat
  rw [← Ny356.out] at ho
  have n0_ := Aside0.mk (Kd.S_after (ok := (fun k_ => k_ ≠ gb351)) (ps_ HO_5.out) hg hat)
  have n1_ := Aside0.mk (blk_grown (g := gb351) (o := .cells #[.int .i64 ((rd_T69 l0 x11_1).f0), .slice A350_1 ((rd_T69 l0 x11_1).f1).length c350_1] 69 (0, 0)) (pk_ BK351.out) hg (Kd.R_ne HO355.out BK351.out (by decide)))
  have n2_ := Aside0.mk (hb)
  have n3_ := Aside0.mk (ho)
  clear HO_5
  clear BK351
  clear HB
  clear HO355
  have HO_5 := n0_
  have BK351 := n1_
  have HB := n2_
  have HO358 := n3_
  clear n0_ n1_ n2_ n3_
  clear ho hb hg hat
  obtain ⟨Ao19, co19, eo19⟩ := Kd.R_slice HO358.out
  (first | subst eo19 | (injection eo19 with f1_ f2_ f3_; have f4_ := f1_.symm; have f5_ := f3_.symm; clear f1_ f2_ f3_; subst f4_; subst f5_))
  refine hK.out _ _ ⟨(blk_cell BK351.out 0).trans rfl, (blk_cell BK351.out 1).trans rfl⟩ (fun hHeld => ?_)
  clear hK K
  refine no_ (some 25) ?_
  refine pu_ 7 (some 26) (tf_ 8 11) HT_ ?_
  refine on_ 8 (some 27) (tf_ 9 11) HT_ (fun K hK => ?_)
  refine value_ (w1 := ?_) (v := ?_) (by rfl) rfl ?_ ?_
  rotate_left 2
  · go_simp
    constructor
    · rfl
    · rfl
  refine hK.out _ _ ⟨(blk_cell (blk_alloc BK351.out _) 0).trans rfl, (blk_cell (blk_alloc BK351.out _) 1).trans rfl⟩ (fun hHeld => ?_)
  clear hK K
  refine no_ (some 27) ?_
  refine on_ 9 (some 28) (tf_ 10 11) HT_ (fun K hK => ?_)
  refine Kd.S_append_step k69 (w0 := w) w.heap.size (by rfl) (.tmp 19) (.tmp 27) 48 69 (.agg #[(.int .i64 0), (.slice none 0 0)]) 32 rfl Try.underlying48 info69 rfl (by decide) (by omega) u5 x5_1 (⟨(rd_T69 l0 x11_1).f0, y356⟩ : S69) [.int .i64 ((rd_T69 l0 x11_1).f0), .slice Ao19 y356.length co19] (fun k_ => k_ ≠ gb351) (fun k_ => some k_ = (.slice Ao19 y356.length co19 : Value).ownBlock) rfl rfl ?aP (fun k_ hk_ => ((Kd.R_mono (ok' := fun k_ => ((fun k_ => k_ ≠ gb351)) k_ ∧ some k_ ≠ (u5 : Value).ownBlock) (Kd.R_types (Kd.R_apart' (HO358.out) (Kd.S_typed HO_5.out) (by decide)) BK351.out (by decide)) (fun k_ hk => ⟨hk.2, hk.1.2⟩))).1 k_ hk_.symm) ?aF ?aO ?aB ?aS ?aL ?_
  (case aP => exact k69_mkM _ _ _ (⟨(rd_T69 l0 x11_1).f0, y356⟩ : S69) (Kd.R_mono (Kd.R_tight rfl (Kd.R_mono (ok' := fun k_ => ((fun k_ => k_ ≠ gb351)) k_ ∧ some k_ ≠ (u5 : Value).ownBlock) (Kd.R_types (Kd.R_apart' (HO358.out) (Kd.S_typed HO_5.out) (by decide)) BK351.out (by decide)) (fun k_ hk => ⟨hk.2, hk.1.2⟩))) (fun _ h_ => h_)))
  (case aB => exact (pb1_ HB.out GE351.out))
  (case aF => exact (fun k_ hk => Kd.freshB (g := gb351) (o := .cells #[.int .i64 ((rd_T69 l0 x11_1).f0), .slice A350_1 ((rd_T69 l0 x11_1).f1).length c350_1] 69 (0, 0)) (pk_ BK351.out) k_ hk))
  (case aO => exact (by (with_reducible repeat (first | apply Kd.S_alloc | apply Kd.S_drewN | apply Kd.S_drew)); exact Kd.S_mono HO_5.out (fun k_ hk => ⟨hk.1, fun e_ => hk.2 e_⟩)))
  (case aS => exact (below_size (pb1_ HB.out GE351.out)))
  (case aL => have := LMc13.out; omega)
  intro v360 w20 ho hb hg hat
  rw [← Ny359.out] at ho
  have n0_ := Aside0.mk (blk_grown (g := gb351) (o := .cells #[.int .i64 ((rd_T69 l0 x11_1).f0), .slice A350_1 ((rd_T69 l0 x11_1).f1).length c350_1] 69 (0, 0)) (pk_ BK351.out) hg (Kd.S_away HO_5.out (fun _ hk => hk.1)))
  have n1_ := Aside0.mk (hb)
  have n2_ := Aside0.mk (ho)
  clear BK351
  clear HB
  clear HO_5
  clear HO358
  have BK351 := n0_
  have HB := n1_
  have HO361 := n2_
  clear n0_ n1_ n2_
  clear ho hb hg hat
  refine hK.out _ _ ⟨(blk_cell BK351.out 0).trans rfl, (blk_cell BK351.out 1).trans rfl⟩ (fun hHeld => ?_)
  clear hK K
  refine no_ (some 28) ?_
  refine pu_ 10 (some 5) (tf_ 11 11) HT_ ?_
  refine done_ (done_of HT_.out (by kernel_rfl)) ?_
  try go_wp2
  go_roundg k1
  case measure => have := HK1.out; omega
  case rel => exact ⟨(y359), (wrap64 (x11_1 + 1)), el_, H', ⟨by have := HK1.out; omega⟩, ⟨ps_ (Kd.S_mono HO361.out (fun _ hk => trivial))⟩, ⟨pb1_ HB.out GE351.out⟩⟩

/-! ### impl_copyExts: function 92 -/
def impl_copyExts.f (k : Nat) (l0 : List (S69)) : Option ((List (S69))) := (impl_keptExts_with_impl_copyExts_1.f k l0).bind fun t362 => (some t362)
theorem impl_copyExts.mono : ∀ a0 k, LeO (impl_copyExts.f k a0) (impl_copyExts.f (k + 1) a0) := by
  intro a0 k
  unfold impl_copyExts.f
  repeat' first
      | (with_reducible exact impl_keptExts_with_impl_copyExts_1.mono _ _)
      | (with_reducible exact LeO.refl _)
      | (with_reducible exact LeO.none _)
      | (with_reducible refine LeO.ite ?_ ?_)
      | (with_reducible refine LeO.bind ?_ (fun _ => ?_))
      | exact impl_keptExts_with_impl_copyExts_1.mono _ _
      | exact LeO.none _
      | refine LeO.ite ?_ ?_
      | refine LeO.bind ?_ (fun _ => ?_)
set_option maxHeartbeats 8000000 in
set_option maxRecDepth 100000 in
theorem impl_copyExts.calls (k : Nat) (A0 : Option Addr) (c0 : Nat) (l0 : List (S69)) (r : List (S69)) (w : World) (hr0 : Kd.C k69 w A0 l0.length l0) (hc0 : l0.length ≤ c0) (h : impl_copyExts.f k l0 = some r) :
    Calls Try.prog 92 #[.slice A0 l0.length c0] w fun e w' => ∃ v0_ : Value, e = .returned (v0_) ∧ Kd.S k69 69 w' w.heap.size (fun _ => True) v0_ r ∧ Below w.heap.size w w' := by
  have HR0 := Aside0.mk hr0
  have HC0 := Aside0.mk hc0
  clear hr0 hc0
  have HB := Aside0.mk (Below.refl w.heap.size w)
  have H : ((impl_keptExts_with_impl_copyExts_1.f k l0).bind fun t362 => (some t362)) = some r := h
  clear h
  replace H := Option.bind_eq_some_iff.mp H
  obtain ⟨t362, A20, H⟩ := H
  replace H : (some t362) = some r := H
  have A2 := Aside0.mk A20
  clear A20
  obtain rfl := Option.some.inj H
  go_enter Try.func92, Try.ntmps92
  go_wp2_with (first | (go_at_call 95; (with_reducible refine (impl_keptExts_with_impl_copyExts_1.calls k _ _ l0 t362 _ ?side1 ?side2 A2.out).mono ?_); (case side1 => exact pc_ HR0.out); (case side2 => exact HC0.out); rintro e w3 ⟨v363, rfl, ho0, hb⟩; have n0_ := Aside0.mk (Kd.S_lower ho0 (below_size (pb_ HB.out))); have n1_ := Aside0.mk (below_step (pb_ HB.out) hb); clear HB; have HO364 := n0_; have HB := n1_; clear n0_ n1_; (try clear hb); (try clear hb2); (try clear hk); (try clear hi); (try clear ho0)))
  go_ret
  exact ⟨_, er_, ps_ HO364.out, pb_ HB.out⟩

/-! ### impl_copyHello: function 85 -/
def impl_copyHello.f (k : Nat) (l0_0 : List Int) (l0_1 : List (S69)) : Option (List Int × (List (S69))) := (some (([] : List Int) : List Int)).bind fun y367 => (if y367.length + l0_0.length < 17592186044416 then ((impl_copyExts.f k l0_1).bind fun t373 => (some ((y367 ++ l0_0), t373))) else (none))
theorem impl_copyHello.mono : ∀ a0 a1 k, LeO (impl_copyHello.f k a0 a1) (impl_copyHello.f (k + 1) a0 a1) := by
  intro a0 a1 k
  unfold impl_copyHello.f
  repeat' first
      | (with_reducible exact impl_copyExts.mono _ _)
      | (with_reducible exact LeO.refl _)
      | (with_reducible exact LeO.none _)
      | (with_reducible refine LeO.ite ?_ ?_)
      | (with_reducible refine LeO.bind ?_ (fun _ => ?_))
      | exact impl_copyExts.mono _ _
      | exact LeO.none _
      | refine LeO.ite ?_ ?_
      | refine LeO.bind ?_ (fun _ => ?_)
def impl_copyHello.T1 : Bool × List (List Nat × List Nat) := (true, [([], []), ([], []), ([1], [1]), ([0, 2], [0, 2]), ([], []), ([4], [4]), ([5, 3], [5]), ([3, 6], [3, 6]), ([7, 6, 0, 1, 2, 3, 4, 5, 6, 7], [7])])
def impl_copyHello.B1 : List Nat := [0, 0, 2, 7, 0, 16, 63, 127, 255]
theorem impl_copyHello.tab1 : rtab .any (opsOf Try.f85 1) = impl_copyHello.T1 := by kernel_rfl
theorem impl_copyHello.bits1 : waitsOk impl_copyHello.T1.2 impl_copyHello.B1 = true := by kernel_rfl
set_option maxHeartbeats 8000000 in
set_option maxRecDepth 100000 in
theorem impl_copyHello.calls (k : Nat) (A0_0 : Option Addr) (c0_0 : Nat) (l0_0 : List Int) (A0_1 : Option Addr) (c0_1 : Nat) (l0_1 : List (S69)) (r1 : List Int) (r2 : List (S69)) (w : World) (hr0_0 : Kd.C (Kd.int .i64) w A0_0 l0_0.length l0_0) (hc0_0 : l0_0.length ≤ c0_0) (hr0_1 : Kd.C k69 w A0_1 l0_1.length l0_1) (hc0_1 : l0_1.length ≤ c0_1) (h : impl_copyHello.f k l0_0 l0_1 = some (r1, r2)) :
    Calls Try.prog 85 #[.agg #[.slice A0_0 l0_0.length c0_0, .slice A0_1 l0_1.length c0_1]] w fun e w' => ∃ v0_ v1_ : Value, e = .returned (.agg #[v0_, v1_]) ∧ Kd.R (Kd.int .i64) 3 w' w.heap.size (fun _ => True) v0_ r1 ∧ Kd.S k69 69 w' w.heap.size (fun k_ => some k_ ≠ (v0_ : Value).ownBlock) v1_ r2 ∧ Below w.heap.size w w' := by
  have hu63 := Try.underlying63
  have HR0_0 := Aside0.mk hr0_0
  have HC0_0 := Aside0.mk hc0_0
  clear hr0_0 hc0_0
  have HR0_1 := Aside0.mk hr0_1
  have HC0_1 := Aside0.mk hc0_1
  clear hr0_1 hc0_1
  have HB := Aside0.mk (Below.refl w.heap.size w)
  have H : ((some (([] : List Int) : List Int)).bind fun y367 => (if y367.length + l0_0.length < 17592186044416 then ((impl_copyExts.f k l0_1).bind fun t373 => (some ((y367 ++ l0_0), t373))) else (none))) = some (r1, r2) := h
  clear h
  obtain ⟨y367, hy367⟩ : ∃ y_ : List Int, y_ = (([] : List Int)) := ⟨_, rfl⟩
  replace H : (if y367.length + l0_0.length < 17592186044416 then ((impl_copyExts.f k l0_1).bind fun t373 => (some ((y367 ++ l0_0), t373))) else (none)) = some (r1, r2) := by first | (rw [hy367]; with_reducible exact H) | (have H2_ := (Option.bind_some _ _).symm.trans H; rw [hy367]; with_reducible exact H2_) | (have H2_ := (Option.bind_some _ _).symm.trans H; with_reducible exact H2_) | with_reducible exact H | (rw [hy367]; exact H) | exact H
  have Ny367 := Aside0.mk hy367
  clear hy367
  by_cases c2 : y367.length + l0_0.length < 17592186044416
  rotate_left
  · rw [if_neg c2] at H
    exact absurd H (by simp)
  rw [if_pos c2] at H
  have LMc2 := Aside0.mk c2
  clear c2
  obtain ⟨y370, hy370⟩ : ∃ y_ : List Int, y_ = (y367 ++ l0_0) := ⟨_, rfl⟩
  replace H : ((impl_copyExts.f k l0_1).bind fun t373 => (some (y370, t373))) = some (r1, r2) := by first | (rw [hy370]; with_reducible exact H) | (have H2_ := (Option.bind_some _ _).symm.trans H; rw [hy370]; with_reducible exact H2_) | (have H2_ := (Option.bind_some _ _).symm.trans H; with_reducible exact H2_) | with_reducible exact H | (rw [hy370]; exact H) | exact H
  have Ny370 := Aside0.mk hy370
  clear hy370
  replace H := Option.bind_eq_some_iff.mp H
  obtain ⟨t373, A30, H⟩ := H
  replace H : (some (y370, t373)) = some (r1, r2) := H
  have A3 := Aside0.mk A30
  clear A30
  simp only [Option.some.injEq, Prod.mk.injEq] at H
  obtain ⟨rfl, rfl⟩ := H
  go_enter Try.func85, Try.ntmps85
  try go_wp2_with (first | ((with_reducible refine gate_dst (N := 1) rfl ?_); refine box_event ?hg (N := 1) ?hd (cs := #[.slice A0_0 l0_0.length c0_0, .slice A0_1 l0_1.length c0_1]) (t := 63) ?hr ?_; (case hd => rfl); (case hg => rfl); (case hr => first | (go_simp; done) | (go_simp; rfl)); intro gb365 hg w4 hbox hb; have n0_ := Aside0.mk (below_step (pb_ HB.out) hb); have n1_ := Aside0.mk (hbox); have n2_ := Aside0.mk ((by rw [hg]; exact (below_size (pb_ HB.out)) : w.heap.size ≤ gb365)); have n3_ := Aside0.mk ((by rw [hg]; exact (below_size (pb_ HB.out)) : w.heap.size ≤ gb365)); clear HB; have HB := n0_; have BK365 := n1_; have GW365 := n2_; have GE365 := n3_; clear n0_ n1_ n2_ n3_; clear hb hbox hg) | ((with_reducible refine gate_dst (N := 2) rfl ?_); refine box_event ?hg (N := 2) ?hd (cs := #[.slice none 0 0, .slice none 0 0]) (t := 63) ?hr ?_; (case hd => rfl); (case hg => rfl); (case hr => first | (go_simp; done) | (go_simp; rfl)); intro gb366 hg w5 hbox hb; have n0_ := Aside0.mk (bb_ BK365.out hb); have n1_ := Aside0.mk (below_step (pb1_ HB.out GE365.out) hb); have n2_ := Aside0.mk (hbox); have n3_ := Aside0.mk ((by rw [hg]; exact (below_size (pb1_ HB.out GE365.out)) : w.heap.size ≤ gb366)); have n4_ := Aside0.mk ((by rw [hg]; exact (below_size (pb1_ HB.out GE365.out)) : w.heap.size ≤ gb366)); have n5_ := Aside0.mk ((by rw [hg]; exact Nat.ne_of_lt (blk_lt (pk_ BK365.out)) : gb365 ≠ gb366)); have n6_ := Aside0.mk ((by rw [hg]; exact Nat.ne_of_gt (blk_lt (pk_ BK365.out)) : gb366 ≠ gb365)); clear BK365; clear HB; have BK365 := n0_; have HB := n1_; have BK366 := n2_; have GW366 := n3_; have GE366 := n4_; have NB365_366 := n5_; have NB366_365 := n6_; clear n0_ n1_ n2_ n3_ n4_ n5_ n6_; clear hb hbox hg))
  have n0_ := Aside0.mk (blk_drew BK365.out)
  have n1_ := Aside0.mk (blk_drew BK366.out)
  have n2_ := Aside0.mk (below_drew1 HB.out)
  clear BK365
  clear BK366
  clear HB
  have BK365 := n0_
  have BK366 := n1_
  have HB := n2_
  clear n0_ n1_ n2_
  refine start_ (n := 9) (S := fun w' => w'.cell? ⟨gb365, 0, none⟩ = some (.slice A0_0 l0_0.length c0_0) ∧ w'.cell? ⟨gb365, 1, none⟩ = some (.slice A0_1 l0_1.length c0_1)) (ds := []) #[false, false, false, false, false, false, false, false, false] (by kernel_rfl) rfl rfl ⟨(blk_cell BK365.out 0).trans rfl, (blk_cell BK365.out 1).trans rfl⟩ (fun hHeld => ?_); refine with_tabW impl_copyHello.tab1 impl_copyHello.bits1 (fun HT_ HW_ => ?_)
  generalize w5.drew = w6 at BK365 BK366 HB hHeld ⊢
  refine pu_ 1 (some 4) #[false, true, false, false, false, false, false, false, false] HT_ ?_
  refine pu_ 4 (some 7) #[false, true, false, false, true, false, false, false, false] HT_ ?_
  refine ta_ 2 (some 5) #[false, true, true, false, true, false, false, false, false] HT_ HW_ hHeld ?_
  refine ta_ 5 (some 8) #[false, true, true, false, true, true, false, false, false] HT_ HW_ hHeld ?_
  refine on_ 0 (some 3) #[true, true, true, false, true, true, false, false, false] HT_ (fun K hK => ?_)
  refine Kd.R_lit_step (Kd.int .i64) _ 3 ?hg (N := 3) ?hd (xs := ([] : List Int)) (inner := []) (ok := fun _ => True) (okp := fun _ => True) ?hr ?hp (fun _ hk => hk) trivial (Below.refl _ _) (Nat.le_refl _) (by simp) ?_; (case hd => rfl); (case hg => rfl); (case hr => first | (go_simp; done) | (go_simp; rfl)); (case hp => exact (Reps.none _ _))
  intro v368 w7 ho8 hb hg_ hnew_
  clear hg_ hnew_
  (first | rw [← Ny367.out] at ho8 | (simp only [Int.reduceToNat] at ho8; rw [← Ny367.out] at ho8))
  have n0_ := Aside0.mk (Kd.R_lower ho8 (below_size (pb2_ HB.out GE365.out GE366.out)))
  have n1_ := Aside0.mk (bb_ BK365.out hb)
  have n2_ := Aside0.mk (bb_ BK366.out hb)
  have n3_ := Aside0.mk (below_step (pb2_ HB.out GE365.out GE366.out) hb)
  clear BK365
  clear BK366
  clear HB
  have HO369 := n0_
  have BK365 := n1_
  have BK366 := n2_
  have HB := n3_
  clear n0_ n1_ n2_ n3_
  clear hb ho8
  refine hK.out _ _ ⟨(blk_cell BK365.out 0).trans rfl, (blk_cell BK365.out 1).trans rfl⟩ (fun hHeld => ?_)
  clear hK K
  refine no_ (some 3) ?_
  refine on_ 3 (some 6) (tf_ 6 9) HT_ (fun K hK => ?_)
  refine Kd.R_append_rows_step (Kd.int .i64) (w0 := w) w.heap.size (by rfl) (.tmp 3) (.tmp 5) 23 3 (.int .i64 0) 8 rfl Try.underlying23 info3 rfl (by decide) (by omega) v368 y367 l0_0 _ _ _ (fun _ => True) (fun _ => False) rfl rfl ?aO ?aR (fun _ _ h => h) (fun _ h => h.elim) ?aF ?aB ?aS ?aL ?_
  (case aR => exact pc_ (Kd.C_below HR0_0.out HB.out))
  (case aB => exact (pb2_ HB.out GE365.out GE366.out))
  (case aF => exact (fun _ _ => trivial))
  (case aO => exact (pr_ HO369.out))
  (case aS => exact (below_size (pb2_ HB.out GE365.out GE366.out)))
  (case aL => have := LMc2.out; omega)
  intro v371 w9 ho hb hg hat
  rw [← Ny370.out] at ho
  have n0_ := Aside0.mk (blk_grown (g := gb365) (o := .cells #[.slice A0_0 l0_0.length c0_0, .slice A0_1 l0_1.length c0_1] 63 (0, 0)) (pk_ BK365.out) hg (Kd.R_ne HO369.out BK365.out (by decide)))
  have n1_ := Aside0.mk (blk_grown (g := gb366) (o := .cells #[.slice none 0 0, .slice none 0 0] 63 (0, 0)) (pk_ BK366.out) hg (Kd.R_ne HO369.out BK366.out (by decide)))
  have n2_ := Aside0.mk (hb)
  have n3_ := Aside0.mk (ho)
  clear BK365
  clear BK366
  clear HB
  clear HO369
  have BK365 := n0_
  have BK366 := n1_
  have HB := n2_
  have HO372 := n3_
  clear n0_ n1_ n2_ n3_
  clear ho hb hg hat
  refine hK.out _ _ ⟨(blk_cell BK365.out 0).trans rfl, (blk_cell BK365.out 1).trans rfl⟩ (fun hHeld => ?_)
  clear hK K
  refine no_ (some 6) ?_
  refine on_ 6 (some 9) (tf_ 7 9) HT_ (fun K hK => ?_)
  refine goes_ Try.func92 (by kernel_rfl) rfl #[.slice A0_1 l0_1.length c0_1] (by rfl) rfl rfl mp_ ?_
  with_reducible refine (impl_copyExts.calls k _ _ l0_1 t373 _ ?side1 ?side2 A3.out).mono ?_
  (case side1 => exact pc_ (Kd.C_below HR0_1.out HB.out))
  (case side2 => exact HC0_1.out)
  rintro e w10 ⟨v374, rfl, ho0, hb⟩
  refine ⟨_, rfl, ?_⟩
  have n0_ := Aside0.mk (Kd.R_below (pr_ HO372.out) hb)
  have n1_ := Aside0.mk (Kd.S_lower (Kd.S_new' ho0 (Kd.R_lt (pr_ HO372.out))) (below_size (pb2_ HB.out GE365.out GE366.out)))
  have n2_ := Aside0.mk (bb_ BK365.out hb)
  have n3_ := Aside0.mk (bb_ BK366.out hb)
  have n4_ := Aside0.mk (below_step (pb2_ HB.out GE365.out GE366.out) hb)
  clear HO372
  clear BK365
  clear BK366
  clear HB
  have HO372 := n0_
  have HO375 := n1_
  have BK365 := n2_
  have BK366 := n3_
  have HB := n4_
  clear n0_ n1_ n2_ n3_ n4_
  (try clear hb)
  (try clear hb2)
  (try clear hk)
  (try clear hi)
  (try clear ho0)
  obtain ⟨Ao11, co11, eo11⟩ := Kd.S_slice HO375.out
  (first | subst eo11 | (injection eo11 with f1_ f2_ f3_; have f4_ := f1_.symm; have f5_ := f3_.symm; clear f1_ f2_ f3_; subst f4_; subst f5_))
  obtain ⟨Ao12, co12, eo12⟩ := Kd.R_slice HO372.out
  (first | subst eo12 | (injection eo12 with f1_ f2_ f3_; have f4_ := f1_.symm; have f5_ := f3_.symm; clear f1_ f2_ f3_; subst f4_; subst f5_))
  refine hK.out _ _ ⟨(blk_cell BK365.out 0).trans rfl, (blk_cell BK365.out 1).trans rfl⟩ (fun hHeld => ?_)
  clear hK K
  refine no_ (some 9) ?_
  refine pu_ 7 (some 10) (tf_ 8 9) HT_ ?_
  refine on_ 8 (none) (tf_ 9 9) HT_ (fun K hK => ?_)
  have hs13 : w10.cell? ⟨gb366, 0, none⟩ = some (.slice none 0 0) := (blk_cell BK366.out 0).trans rfl
  have hfs13 := blk_frozen BK366.out 0
  have hns13_0 := NB365_366.out
  have hms13_0 := NB366_365.out
  have hs14 : w10.cell? ⟨gb366, 1, none⟩ = some (.slice none 0 0) := (blk_cell BK366.out 1).trans rfl
  have hfs14 := blk_frozen BK366.out 1
  have hns14_0 := NB365_366.out
  have hms14_0 := NB366_365.out
  refine skip_ (w1 := ?_) (by rfl) rfl ?_ ?_
  rotate_left
  · go_simp
    rfl
  refine hK.out _ _ ⟨((cell_far (p := ⟨gb366, _, none⟩) NB365_366.out _).trans (((cell_far (p := ⟨gb366, _, none⟩) NB365_366.out _).trans (hHeld.1)))), ((cell_far (p := ⟨gb366, _, none⟩) NB365_366.out _).trans (((cell_far (p := ⟨gb366, _, none⟩) NB365_366.out _).trans (hHeld.2))))⟩ (fun hHeld => ?_)
  clear hK K
  refine done_ (done_of HT_.out (by kernel_rfl)) ?_
  try go_wp2
  refine bodyPost_ret (results_cell_row rfl _ _ gb366 63 #[.slice Ao12 y370.length co12, .slice Ao11 t373.length co11] (0, 0) _ rfl (pp_ BK366.out) Try.underlying63 rfl (by kernel_rfl)) rfl ?_
  exact ⟨_, _, er_, pr_ (Kd.R_mono (rf2_ HO372.out BK366.out) (fun _ hk => trivial)), ps_ (Kd.S_mono (Kd.S_far (p := ⟨gb366, 1, none⟩) (Kd.S_far (p := ⟨gb366, 0, none⟩) (Kd.S_types HO375.out BK366.out (by decide)) (fun _ hk => hk.2) (.slice Ao12 y370.length co12)) (fun _ hk => hk.2) (.slice Ao11 t373.length co11)) (fun _ hk => hk.1.2)), pb2_ HB.out GE365.out GE366.out⟩

/-! ### impl_IsBox: function 60 -/
def impl_IsBox.f (k : Nat) (a0_0 : Int) (l0_1 : List Int) (l0_2 : List Int) (a0_3 : Bool) : Option (Bool) := (impl_InRange.f a0_0 0 9).bind fun t377 => (if t377 = true then (if (l0_1.length : Int) ≤ 6 then (if (l0_2.length : Int) ≤ 6 then ((impl_areNumbers.f k l0_1 0 255).bind fun t378 => (if t378 = true then ((impl_areNumbers.f k l0_2 0 255).bind fun t379 => (some t379)) else (some false))) else (some false)) else (some false)) else (some false))
theorem impl_IsBox.mono : ∀ a0 a1 a2 a3 k, LeO (impl_IsBox.f k a0 a1 a2 a3) (impl_IsBox.f (k + 1) a0 a1 a2 a3) := by
  intro a0 a1 a2 a3 k
  unfold impl_IsBox.f
  repeat' first
      | (with_reducible exact impl_areNumbers.mono _ _ _ _)
      | (with_reducible exact LeO.refl _)
      | (with_reducible exact LeO.none _)
      | (with_reducible refine LeO.ite ?_ ?_)
      | (with_reducible refine LeO.bind ?_ (fun _ => ?_))
      | exact impl_areNumbers.mono _ _ _ _
      | exact LeO.none _
      | refine LeO.ite ?_ ?_
      | refine LeO.bind ?_ (fun _ => ?_)
set_option maxHeartbeats 8000000 in
set_option maxRecDepth 100000 in
theorem impl_IsBox.calls (k : Nat) (a0_0 : Int) (A0_1 : Option Addr) (c0_1 : Nat) (l0_1 : List Int) (A0_2 : Option Addr) (c0_2 : Nat) (l0_2 : List Int) (a0_3 : Bool) (r : Bool) (w : World) (hr0_1 : Kd.C (Kd.int .i64) w A0_1 l0_1.length l0_1) (hc0_1 : l0_1.length ≤ c0_1) (hr0_2 : Kd.C (Kd.int .i64) w A0_2 l0_2.length l0_2) (hc0_2 : l0_2.length ≤ c0_2) (h : impl_IsBox.f k a0_0 l0_1 l0_2 a0_3 = some r) :
    Calls Try.prog 60 #[.agg #[.int .i64 a0_0, .slice A0_1 l0_1.length c0_1, .slice A0_2 l0_2.length c0_2, .bool a0_3]] w fun e w' => e = .returned (.bool r) ∧ Below w.heap.size w w' := by
  have hu50 := Try.underlying50
  have HR0_1 := Aside0.mk hr0_1
  have HC0_1 := Aside0.mk hc0_1
  clear hr0_1 hc0_1
  have HR0_2 := Aside0.mk hr0_2
  have HC0_2 := Aside0.mk hc0_2
  clear hr0_2 hc0_2
  have HB := Aside0.mk (Below.refl w.heap.size w)
  have H : ((impl_InRange.f a0_0 0 9).bind fun t377 => (if t377 = true then (if (l0_1.length : Int) ≤ 6 then (if (l0_2.length : Int) ≤ 6 then ((impl_areNumbers.f k l0_1 0 255).bind fun t378 => (if t378 = true then ((impl_areNumbers.f k l0_2 0 255).bind fun t379 => (some t379)) else (some false))) else (some false)) else (some false)) else (some false))) = some r := h
  clear h
  have HS_ := Aside0.mk H
  clear H
  go_enter Try.func60, Try.ntmps60
  go_upto_region 1 with (first | ((with_reducible refine gate_dst (N := 1) rfl ?_); (try (refine gate_guard (by rfl) ?_; dsimp only)); refine box_event ?hg (N := 1) ?hd (cs := #[.int .i64 a0_0, .slice A0_1 l0_1.length c0_1, .slice A0_2 l0_2.length c0_2, .bool a0_3]) (t := 50) ?hr ?_; (case hd => rfl); (case hg => rfl); (case hr => first | (go_simp; done) | (go_simp; rfl)); intro gb376 hg w2 hbox hb; have n0_ := Aside0.mk (below_step (pb_ HB.out) hb); have n1_ := Aside0.mk (hbox); have n2_ := Aside0.mk ((by rw [hg]; exact (below_size (pb_ HB.out)) : w.heap.size ≤ gb376)); have n3_ := Aside0.mk ((by rw [hg]; exact (below_size (pb_ HB.out)) : w.heap.size ≤ gb376)); clear HB; have HB := n0_; have BK376 := n1_; have GW376 := n2_; have GE376 := n3_; clear n0_ n1_ n2_ n3_; clear hb hbox hg))
  (try simp only [Act.put, List.setIfInBounds_toArray, List.set_cons_zero, List.set_cons_succ])
  have H := HS_.out
  clear HS_
  replace H := Option.bind_eq_some_iff.mp H
  obtain ⟨t377, A30, H⟩ := H
  (try dsimp only at H)
  have A3 := Aside0.mk A30
  clear A30
  by_cases c4 : t377 = true
  rotate_left
  · replace c4 := Bool.eq_false_iff.mpr c4
    subst c4
    rw [if_neg (show ¬ (false = true) by decide)] at H
    obtain rfl := Option.some.inj H
    obtain ⟨hcz5_0, hcz5_1, hcz5_2, hcz5_3, hfz5_0, hfz5_1, hfz5_2, hfz5_3⟩ := bc4_ BK376.out
    go_wp2_with (first | ((with_reducible refine gate_callee (f := 61) rfl ?_); refine goesL_ (some 5) rfl rfl Try.func61 (by kernel_rfl) rfl #[.int .i64 a0_0, .int .i64 0, .int .i64 9] rfl mp_ ?_; (with_reducible refine (impl_InRange.calls a0_0 0 9 false _ A3.out).mono ?_); rintro e w' ⟨rfl, ⟨nd, rfl⟩⟩; refine ⟨_, rfl, ?_⟩))
    go_ret
    exact ⟨er_, pb1_ HB.out GE376.out⟩
  subst c4
  rw [if_pos rfl] at H
  by_cases c6 : (l0_1.length : Int) ≤ 6
  rotate_left
  · rw [if_neg c6] at H
    have c6b0 : decide ((l0_1.length : Int) ≤ 6) = false := decide_eq_false c6
    have c6b1 : decide (l0_1.length ≤ 6) = false := decide_eq_false (by omega)
    clear c6
    (first | rw [c6b0] | (simp only [i64_w, i32_w]; rw [c6b0]) | rw [c6b1] | skip)
    obtain rfl := Option.some.inj H
    obtain ⟨hcz7_0, hcz7_1, hcz7_2, hcz7_3, hfz7_0, hfz7_1, hfz7_2, hfz7_3⟩ := bc4_ BK376.out
    go_wp2_with (first | ((with_reducible refine gate_callee (f := 61) rfl ?_); refine goesL_ (some 5) rfl rfl Try.func61 (by kernel_rfl) rfl #[.int .i64 a0_0, .int .i64 0, .int .i64 9] rfl mp_ ?_; (with_reducible refine (impl_InRange.calls a0_0 0 9 true _ A3.out).mono ?_); rintro e w' ⟨rfl, ⟨nd, rfl⟩⟩; refine ⟨_, rfl, ?_⟩))
    go_ret
    exact ⟨er_, pb1_ HB.out GE376.out⟩
  rw [if_pos c6] at H
  have c6b0 : decide ((l0_1.length : Int) ≤ 6) = true := decide_eq_true c6
  have c6b1 : decide (l0_1.length ≤ 6) = true := decide_eq_true (by omega)
  clear c6
  (first | rw [c6b0] | (simp only [i64_w, i32_w]; rw [c6b0]) | rw [c6b1] | skip)
  by_cases c8 : (l0_2.length : Int) ≤ 6
  rotate_left
  · rw [if_neg c8] at H
    have c8b0 : decide ((l0_2.length : Int) ≤ 6) = false := decide_eq_false c8
    have c8b1 : decide (l0_2.length ≤ 6) = false := decide_eq_false (by omega)
    clear c8
    obtain rfl := Option.some.inj H
    obtain ⟨hcz9_0, hcz9_1, hcz9_2, hcz9_3, hfz9_0, hfz9_1, hfz9_2, hfz9_3⟩ := bc4_ BK376.out
    go_wp2_with (first | ((with_reducible refine gate_callee (f := 61) rfl ?_); refine goesL_ (some 5) rfl rfl Try.func61 (by kernel_rfl) rfl #[.int .i64 a0_0, .int .i64 0, .int .i64 9] rfl mp_ ?_; (with_reducible refine (impl_InRange.calls a0_0 0 9 true _ A3.out).mono ?_); rintro e w' ⟨rfl, ⟨nd, rfl⟩⟩; refine ⟨_, rfl, ?_⟩))
    go_ret
    exact ⟨er_, pb1_ HB.out GE376.out⟩
  rw [if_pos c8] at H
  have c8b0 : decide ((l0_2.length : Int) ≤ 6) = true := decide_eq_true c8
  have c8b1 : decide (l0_2.length ≤ 6) = true := decide_eq_true (by omega)
  clear c8
  replace H := Option.bind_eq_some_iff.mp H
  obtain ⟨t378, A100, H⟩ := H
  (try dsimp only at H)
  have A10 := Aside0.mk A100
  clear A100
  by_cases c11 : t378 = true
  rotate_left
  · replace c11 := Bool.eq_false_iff.mpr c11
    subst c11
    rw [if_neg (show ¬ (false = true) by decide)] at H
    obtain rfl := Option.some.inj H
    obtain ⟨hcz12_0, hcz12_1, hcz12_2, hcz12_3, hfz12_0, hfz12_1, hfz12_2, hfz12_3⟩ := bc4_ BK376.out
    go_wp2_with (first | ((with_reducible refine gate_callee (f := 61) rfl ?_); refine goesL_ (some 5) rfl rfl Try.func61 (by kernel_rfl) rfl #[.int .i64 a0_0, .int .i64 0, .int .i64 9] rfl mp_ ?_; (with_reducible refine (impl_InRange.calls a0_0 0 9 true _ A3.out).mono ?_); rintro e w' ⟨rfl, ⟨nd, rfl⟩⟩; refine ⟨_, rfl, ?_⟩) | (go_at_call 79; (with_reducible refine (impl_areNumbers.calls k _ _ l0_1 0 255 false _ ?side1 ?side2 A10.out).mono ?_); (case side1 => exact pc_ (Kd.C_below HR0_1.out (pb1_ HB.out GE376.out))); (case side2 => exact HC0_1.out); rintro e w13 ⟨rfl, hb⟩; have n0_ := Aside0.mk (bb_ BK376.out hb); have n1_ := Aside0.mk (below_step (pb1_ HB.out GE376.out) hb); clear BK376; clear HB; have BK376 := n0_; have HB := n1_; clear n0_ n1_; (try clear hb); (try clear hb2); (try clear hk); (try clear hi)))
    go_ret
    exact ⟨er_, pb1_ HB.out GE376.out⟩
  subst c11
  rw [if_pos rfl] at H
  replace H := Option.bind_eq_some_iff.mp H
  obtain ⟨t379, A140, H⟩ := H
  replace H : (some t379) = some r := H
  have A14 := Aside0.mk A140
  clear A140
  obtain rfl := Option.some.inj H
  obtain ⟨hcz15_0, hcz15_1, hcz15_2, hcz15_3, hfz15_0, hfz15_1, hfz15_2, hfz15_3⟩ := bc4_ BK376.out
  go_wp2_with (first | ((with_reducible refine gate_callee (f := 61) rfl ?_); refine goesL_ (some 5) rfl rfl Try.func61 (by kernel_rfl) rfl #[.int .i64 a0_0, .int .i64 0, .int .i64 9] rfl mp_ ?_; (with_reducible refine (impl_InRange.calls a0_0 0 9 true _ A3.out).mono ?_); rintro e w' ⟨rfl, ⟨nd, rfl⟩⟩; refine ⟨_, rfl, ?_⟩) | (go_at_call 79; (with_reducible refine (impl_areNumbers.calls k _ _ l0_1 0 255 true _ ?side1 ?side2 A10.out).mono ?_); (case side1 => exact pc_ (Kd.C_below HR0_1.out (pb1_ HB.out GE376.out))); (case side2 => exact HC0_1.out); rintro e w16 ⟨rfl, hb⟩; have n0_ := Aside0.mk (bb_ BK376.out hb); have n1_ := Aside0.mk (below_step (pb1_ HB.out GE376.out) hb); clear BK376; clear HB; have BK376 := n0_; have HB := n1_; clear n0_ n1_; (try clear hb); (try clear hb2); (try clear hk); (try clear hi); have hcz17_0 : w16.cell? ⟨gb376, 0, none⟩ = some (.int .i64 a0_0) := (blk_cell BK376.out 0).trans rfl; have hcz17_1 : w16.cell? ⟨gb376, 1, none⟩ = some (.slice A0_1 l0_1.length c0_1) := (blk_cell BK376.out 1).trans rfl; have hcz17_2 : w16.cell? ⟨gb376, 2, none⟩ = some (.slice A0_2 l0_2.length c0_2) := (blk_cell BK376.out 2).trans rfl; have hcz17_3 : w16.cell? ⟨gb376, 3, none⟩ = some (.bool a0_3) := (blk_cell BK376.out 3).trans rfl; have hfz17_0 := blk_frozen BK376.out 0; have hfz17_1 := blk_frozen BK376.out 1; have hfz17_2 := blk_frozen BK376.out 2; have hfz17_3 := blk_frozen BK376.out 3) | (go_at_call 79; (with_reducible refine (impl_areNumbers.calls k _ _ l0_2 0 255 t379 _ ?side1 ?side2 A14.out).mono ?_); (case side1 => exact pc_ (Kd.C_below HR0_2.out HB.out)); (case side2 => exact HC0_2.out); rintro e w18 ⟨rfl, hb⟩; have n0_ := Aside0.mk (bb_ BK376.out hb); have n1_ := Aside0.mk (below_step (pb1_ HB.out GE376.out) hb); clear BK376; clear HB; have BK376 := n0_; have HB := n1_; clear n0_ n1_; (try clear hb); (try clear hb2); (try clear hk); (try clear hi)))
  go_ret
  exact ⟨er_, pb1_ HB.out GE376.out⟩

/-! ### slices_Max_int_int: function 104 -/
def slices_Max_int_int.l0 : Nat → List Int → Int → Int → Option (Int)
  | 0, _, _, _ => none
  | k + 1, x0, x3, x4 => if x4 < (x0.length : Int) then (if 0 ≤ x4 then (slices_Max_int_int.l0 k x0 (mx x3 (rd x0 x4)) (wrap64 (x4 + 1))) else (none)) else (some x3)
def slices_Max_int_int.f (k : Nat) (l0 : List Int) : Option (Int) := if (l0.length : Int) < 1 then (none) else (if 0 < (l0.length : Int) then (slices_Max_int_int.l0 k l0 (rd l0 0) 1) else (none))
theorem slices_Max_int_int.mono_l : ∀ k, (∀ y0 y1 y2, LeO (slices_Max_int_int.l0 k y0 y1 y2) (slices_Max_int_int.l0 (k + 1) y0 y1 y2))
  | 0 => fun _ _ _ r h => by simp [slices_Max_int_int.l0] at h
  | k + 1 => by
    have ih0 := slices_Max_int_int.mono_l k
    · intro y0 y1 y2
      unfold slices_Max_int_int.l0
      repeat' first
      | (with_reducible exact ih0 _ _ _)
      | (with_reducible exact LeO.refl _)
      | (with_reducible exact LeO.none _)
      | (with_reducible refine LeO.ite ?_ ?_)
      | (with_reducible refine LeO.bind ?_ (fun _ => ?_))
      | exact ih0 _ _ _
      | exact LeO.none _
      | refine LeO.ite ?_ ?_
      | refine LeO.bind ?_ (fun _ => ?_)
theorem slices_Max_int_int.mono : ∀ a0 k, LeO (slices_Max_int_int.f k a0) (slices_Max_int_int.f (k + 1) a0) := by
  intro a0 k
  have ih0 := slices_Max_int_int.mono_l k
  unfold slices_Max_int_int.f
  repeat' first
      | (with_reducible exact ih0 _ _ _)
      | (with_reducible exact LeO.refl _)
      | (with_reducible exact LeO.none _)
      | (with_reducible refine LeO.ite ?_ ?_)
      | (with_reducible refine LeO.bind ?_ (fun _ => ?_))
      | exact ih0 _ _ _
      | exact LeO.none _
      | refine LeO.ite ?_ ?_
      | refine LeO.bind ?_ (fun _ => ?_)
set_option maxHeartbeats 8000000 in
set_option maxRecDepth 100000 in
theorem slices_Max_int_int.calls (k : Nat) (A0 : Option Addr) (c0 : Nat) (l0 : List Int) (r : Int) (w : World) (hr0 : Kd.C (Kd.int .i64) w A0 l0.length l0) (hc0 : l0.length ≤ c0) (h : slices_Max_int_int.f k l0 = some r) :
    Calls Try.prog 104 #[.slice A0 l0.length c0] w fun e w' => e = .returned (.int .i64 r) ∧ Below w.heap.size w w' := by
  have HR0 := Aside0.mk hr0
  have HC0 := Aside0.mk hc0
  clear hr0 hc0
  have HB := Aside0.mk (Below.refl w.heap.size w)
  have H : (if (l0.length : Int) < 1 then (none) else (if 0 < (l0.length : Int) then (slices_Max_int_int.l0 k l0 (rd l0 0) 1) else (none))) = some r := h
  clear h
  by_cases c2 : (l0.length : Int) < 1
  · rw [if_pos c2] at H
    exact absurd H (by simp)
  rw [if_neg c2] at H
  have c2b0 : decide ((l0.length : Int) < 1) = false := decide_eq_false c2
  have c2b1 : decide (l0.length < 1) = false := decide_eq_false (by omega)
  clear c2
  by_cases c3 : 0 < (l0.length : Int)
  rotate_left
  · rw [if_neg c3] at H
    exact absurd H (by simp)
  rw [if_pos c3] at H
  have c3b0 : decide (0 < (l0.length : Int)) = true := decide_eq_true c3
  have c3b1 : decide (0 < l0.length) = true := decide_eq_true (by omega)
  clear c3
  have H' := Aside0.mk H
  clear H
  have p380 : 0 ≤ (0 : Int) := (by omega)
  have q380 : 0 < (l0.length : Int) := dt_
  obtain ⟨ad380, e380, hx380_0⟩ := Kd.at_int HR0.out 0 p380 q380
  cases e380
  have qi380 : (0 < l0.length) = True := eq_true (by omega)
  (try rw [show ((0 : Int)).toNat = 0 from rfl] at hx380_0)
  (try rw [Addr.add_zero'] at hx380_0)
  replace p380 := eq_true p380
  replace q380 := eq_true q380
  go_enter Try.func104, Try.ntmps104
  go_wp2
  go_loopg [3, 4] k (fun kq v3 v4 w' => ∃ (x3_1 : Int) (x4_1 : Int), v3 = .int .i64 x3_1 ∧ v4 = .int .i64 x4_1 ∧ Aside0 (slices_Max_int_int.l0 kq l0 x3_1 x4_1 = some r) ∧ Aside0 (kq ≤ k) ∧ Aside0 (Below w.heap.size w w'))
  case atStart => exact ⟨(rd l0 0), (1), el_, el_, H', ⟨Nat.le_refl _⟩, ⟨pb_ HB.out⟩⟩
  clear H'
  try clear c1
  try clear c2
  try clear c2b0
  try clear c2b1
  try clear p2
  try clear c3
  try clear c3b0
  try clear c3b1
  try clear p3
  try clear q3
  try clear hx3
  try clear qi3
  try clear hx380_0
  try clear p380
  try clear q380
  obtain ⟨x3_1, x4_1, rfl, rfl, HA, HK1, HB⟩ := hrel
  rcases gk with _ | k1
  · exact absurd HA.out (by simp [slices_Max_int_int.l0])
  have H := HA.out
  clear HA
  simp only [slices_Max_int_int.l0] at H
  by_cases c4 : x4_1 < (l0.length : Int)
  rotate_left
  · rw [if_neg c4] at H
    have c4b0 : decide (x4_1 < (l0.length : Int)) = false := decide_eq_false c4
    clear c4
    obtain rfl := Option.some.inj H
    go_wp2
    go_ret
    exact ⟨er_, pb_ HB.out⟩
  rw [if_pos c4] at H
  have c4b0 : decide (x4_1 < (l0.length : Int)) = true := decide_eq_true c4
  clear c4
  by_cases c5 : 0 ≤ x4_1
  rotate_left
  · rw [if_neg c5] at H
    exact absurd H (by simp)
  rw [if_pos c5] at H
  have c5b0 : decide (0 ≤ x4_1) = true := decide_eq_true c5
  clear c5
  obtain ⟨ji6, hji6⟩ : ∃ j_ : Int, (mx x3_1 (rd l0 x4_1)) = j_ := ⟨_, rfl⟩
  replace H : (slices_Max_int_int.l0 k1 l0 ji6 (wrap64 (x4_1 + 1))) = some r := by first | (rw [hji6] at H; exact H) | (simp only [hji6] at H ⊢; exact H)
  have hji6_ : (if x3_1 < (rd l0 x4_1) then (rd l0 x4_1) else x3_1) = ji6 := hji6
  have H' := Aside0.mk H
  clear H
  have p381 : 0 ≤ (x4_1 : Int) := dt_
  have q381 : x4_1 < (l0.length : Int) := dt_
  obtain ⟨ad381, e381, hx381_0⟩ := Kd.at_int HR0.out x4_1 p381 q381
  obtain rfl : ad380 = ad381 := (by injection e381)
  replace hx381_0 := (HB.out.cell (World.block_lt_of_cell? w _ hx381_0)).trans hx381_0
  replace p381 := eq_true p381
  replace q381 := eq_true q381
  go_wp2
  go_roundg k1
  case measure => have := HK1.out; omega
  case rel => exact ⟨(ji6), (wrap64 (x4_1 + 1)), (by first | rfl | (simp; done) | (simp only [← hji6] <;> (first | rfl | simp)) | (simp [*]; done)), el_, H', ⟨by have := HK1.out; omega⟩, ⟨pb_ HB.out⟩⟩

/-! ### slices_Index_int_int: function 83 -/
def slices_Index_int_int.l0 : Nat → List Int → Int → Int → Int → Option (Int)
  | 0, _, _, _, _ => none
  | k + 1, x0, x1, x7, x8 => if x8 < x7 then (if 0 ≤ x8 then (if x8 < (x0.length : Int) then (if x1 = (rd x0 x8) then (some x8) else (slices_Index_int_int.l0 k x0 x1 x7 (wrap64 (x8 + 1)))) else (none)) else (none)) else (some (-1))
def slices_Index_int_int.f (k : Nat) (l0 : List Int) (a1 : Int) : Option (Int) := slices_Index_int_int.l0 k l0 a1 (l0.length : Int) 0
theorem slices_Index_int_int.mono_l : ∀ k, (∀ y0 y1 y2 y3, LeO (slices_Index_int_int.l0 k y0 y1 y2 y3) (slices_Index_int_int.l0 (k + 1) y0 y1 y2 y3))
  | 0 => fun _ _ _ _ r h => by simp [slices_Index_int_int.l0] at h
  | k + 1 => by
    have ih0 := slices_Index_int_int.mono_l k
    · intro y0 y1 y2 y3
      unfold slices_Index_int_int.l0
      repeat' first
      | (with_reducible exact ih0 _ _ _ _)
      | (with_reducible exact LeO.refl _)
      | (with_reducible exact LeO.none _)
      | (with_reducible refine LeO.ite ?_ ?_)
      | (with_reducible refine LeO.bind ?_ (fun _ => ?_))
      | exact ih0 _ _ _ _
      | exact LeO.none _
      | refine LeO.ite ?_ ?_
      | refine LeO.bind ?_ (fun _ => ?_)
theorem slices_Index_int_int.mono : ∀ a0 a1 k, LeO (slices_Index_int_int.f k a0 a1) (slices_Index_int_int.f (k + 1) a0 a1) := by
  intro a0 a1 k
  have ih0 := slices_Index_int_int.mono_l k
  unfold slices_Index_int_int.f
  repeat' first
      | (with_reducible exact ih0 _ _ _ _)
      | (with_reducible exact LeO.refl _)
      | (with_reducible exact LeO.none _)
      | (with_reducible refine LeO.ite ?_ ?_)
      | (with_reducible refine LeO.bind ?_ (fun _ => ?_))
      | exact ih0 _ _ _ _
      | exact LeO.none _
      | refine LeO.ite ?_ ?_
      | refine LeO.bind ?_ (fun _ => ?_)
set_option maxHeartbeats 8000000 in
set_option maxRecDepth 100000 in
theorem slices_Index_int_int.calls (k : Nat) (A0 : Option Addr) (c0 : Nat) (l0 : List Int) (a1 : Int) (r : Int) (w : World) (hr0 : Kd.C (Kd.int .i64) w A0 l0.length l0) (hc0 : l0.length ≤ c0) (h : slices_Index_int_int.f k l0 a1 = some r) :
    Calls Try.prog 83 #[.slice A0 l0.length c0, .int .i64 a1] w fun e w' => e = .returned (.int .i64 r) ∧ Drawn0 w w' := by
  have HR0 := Aside0.mk hr0
  have HC0 := Aside0.mk hc0
  clear hr0 hc0
  have H : (slices_Index_int_int.l0 k l0 a1 (l0.length : Int) 0) = some r := h
  clear h
  have H' := Aside0.mk H
  clear H
  go_enter Try.func83, Try.ntmps83
  go_wp2
  go_loopg [8] k (fun kq v8 w' => ∃ (x8_1 : Int), v8 = .int .i64 x8_1 ∧ Aside0 (slices_Index_int_int.l0 kq l0 a1 (l0.length : Int) x8_1 = some r) ∧ Aside0 (kq ≤ k) ∧ Drawn0 w w')
  case atStart => exact ⟨(0), el_, H', ⟨Nat.le_refl _⟩, by repeat (first | exact Drawn0.refl _ | apply Drawn0.step)⟩
  clear H'
  try clear p2
  obtain ⟨x8_1, rfl, HA, HK1, ⟨m1, rfl⟩⟩ := hrel
  rcases gk with _ | k1
  · exact absurd HA.out (by simp [slices_Index_int_int.l0])
  have H := HA.out
  clear HA
  simp only [slices_Index_int_int.l0] at H
  by_cases c3 : x8_1 < (l0.length : Int)
  rotate_left
  · rw [if_neg c3] at H
    have c3b0 : decide (x8_1 < (l0.length : Int)) = false := decide_eq_false c3
    clear c3
    obtain rfl := Option.some.inj H
    go_wp2
    go_ret
    exact ⟨by first | rfl | (simp; done) | (simp [*]; done), by repeat (first | exact Drawn0.refl _ | apply Drawn0.step)⟩
  rw [if_pos c3] at H
  have c3b0 : decide (x8_1 < (l0.length : Int)) = true := decide_eq_true c3
  clear c3
  by_cases c4 : 0 ≤ x8_1
  rotate_left
  · rw [if_neg c4] at H
    exact absurd H (by simp)
  rw [if_pos c4] at H
  have c4b0 : decide (0 ≤ x8_1) = true := decide_eq_true c4
  clear c4
  by_cases c5 : x8_1 < (l0.length : Int)
  rotate_left
  · rw [if_neg c5] at H
    exact absurd H (by simp)
  rw [if_pos c5] at H
  have c5b0 : decide (x8_1 < (l0.length : Int)) = true := decide_eq_true c5
  clear c5
  by_cases c6 : a1 = (rd l0 x8_1)
  rotate_left
  · rw [if_neg c6] at H
    have c6b0 : (a1 == (rd l0 x8_1)) = false := beq_eq_false_iff_ne.mpr c6
    have c6b1 : (a1 != (rd l0 x8_1)) = true := bne_iff_ne.mpr c6
    have H' := Aside0.mk H
    clear H
    have p382 : 0 ≤ (x8_1 : Int) := dt_
    have q382 : x8_1 < (l0.length : Int) := dt_
    obtain ⟨ad382, e382, hx382_0⟩ := Kd.at_int HR0.out x8_1 p382 q382
    cases e382
    replace p382 := eq_true p382
    replace q382 := eq_true q382
    go_wp2
    go_roundg k1
    case measure => have := HK1.out; omega
    case rel => exact ⟨(wrap64 (x8_1 + 1)), el_, H', ⟨by have := HK1.out; omega⟩, by repeat (first | exact Drawn0.refl _ | apply Drawn0.step)⟩
  rw [if_pos c6] at H
  have c6b0 : (a1 == (rd l0 x8_1)) = true := beq_iff_eq.mpr c6
  have c6b1 : (a1 != (rd l0 x8_1)) = false := bne_eq_false_iff_eq.mpr c6
  clear c6
  obtain rfl := Option.some.inj H
  have p382 : 0 ≤ (x8_1 : Int) := dt_
  have q382 : x8_1 < (l0.length : Int) := dt_
  obtain ⟨ad382, e382, hx382_0⟩ := Kd.at_int HR0.out x8_1 p382 q382
  cases e382
  replace p382 := eq_true p382
  replace q382 := eq_true q382
  go_wp2
  go_ret
  exact ⟨by first | rfl | (simp; done) | (simp [*]; done), by repeat (first | exact Drawn0.refl _ | apply Drawn0.step)⟩

/-! ### slices_Contains_int_int: function 63 -/
def slices_Contains_int_int.f (k : Nat) (l0 : List Int) (a1 : Int) : Option (Bool) := (slices_Index_int_int.f k l0 a1).bind fun t383 => (some (decide (t383 ≥ 0)))
theorem slices_Contains_int_int.mono : ∀ a0 a1 k, LeO (slices_Contains_int_int.f k a0 a1) (slices_Contains_int_int.f (k + 1) a0 a1) := by
  intro a0 a1 k
  unfold slices_Contains_int_int.f
  repeat' first
      | (with_reducible exact slices_Index_int_int.mono _ _ _)
      | (with_reducible exact LeO.refl _)
      | (with_reducible exact LeO.none _)
      | (with_reducible refine LeO.ite ?_ ?_)
      | (with_reducible refine LeO.bind ?_ (fun _ => ?_))
      | exact slices_Index_int_int.mono _ _ _
      | exact LeO.none _
      | refine LeO.ite ?_ ?_
      | refine LeO.bind ?_ (fun _ => ?_)
set_option maxHeartbeats 8000000 in
set_option maxRecDepth 100000 in
theorem slices_Contains_int_int.calls (k : Nat) (A0 : Option Addr) (c0 : Nat) (l0 : List Int) (a1 : Int) (r : Bool) (w : World) (hr0 : Kd.C (Kd.int .i64) w A0 l0.length l0) (hc0 : l0.length ≤ c0) (h : slices_Contains_int_int.f k l0 a1 = some r) :
    Calls Try.prog 63 #[.slice A0 l0.length c0, .int .i64 a1] w fun e w' => e = .returned (.bool r) ∧ Drawn0 w w' := by
  have HR0 := Aside0.mk hr0
  have HC0 := Aside0.mk hc0
  clear hr0 hc0
  have H : ((slices_Index_int_int.f k l0 a1).bind fun t383 => (some (decide (t383 ≥ 0)))) = some r := h
  clear h
  replace H := Option.bind_eq_some_iff.mp H
  obtain ⟨t383, A30, H⟩ := H
  replace H : (some (decide (t383 ≥ 0))) = some r := H
  have A3 := Aside0.mk A30
  clear A30
  obtain rfl := Option.some.inj H
  go_enter Try.func63, Try.ntmps63
  go_wp2_with (first | ((with_reducible refine gate_callee (f := 83) rfl ?_); refine goesL_ (some 7) rfl rfl Try.func83 (by kernel_rfl) rfl #[.slice A0 l0.length c0, .int .i64 a1] rfl mp_ ?_; (with_reducible refine (slices_Index_int_int.calls k _ _ l0 a1 t383 _ ?side1 ?side2 A3.out).mono ?_); (case side1 => exact pc_ HR0.out); (case side2 => exact HC0.out); rintro e w' ⟨rfl, ⟨nd, rfl⟩⟩; refine ⟨_, rfl, ?_⟩))
  go_ret
  exact ⟨by first | rfl | (simp; done) | (simp [*]; done), by repeat (first | exact Drawn0.refl _ | apply Drawn0.step)⟩

end Go.Proofs.Ytpoandlbmaljhaa.Print
