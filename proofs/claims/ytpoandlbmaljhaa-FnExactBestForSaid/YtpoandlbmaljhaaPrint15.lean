-- Written by a program of this session (printx.py) out of the translation; Lean checks it.
import Derived.Test.YtpoandlbmaljhaaPrint0
import Derived.Test.YtpoandlbmaljhaaPrint1
import Derived.Test.YtpoandlbmaljhaaPrint8
import Derived.Test.YtpoandlbmaljhaaPrint10
import Derived.Test.YtpoandlbmaljhaaPrint11
import Derived.Test.YtpoandlbmaljhaaPrint14
namespace Go.Proofs.Ytpoandlbmaljhaa.Print
open Go.RowKit Go.Proofs.YtpoandlbmaljhaaW.PrintWords Go.Proofs.YtpoandlbmaljhaaW.PrintLast Go.Proofs.YtpoandlbmaljhaaW.PrintMore Go.Proofs.Ytpoandlbmaljhaa.Short
attribute [local go_sem] max2_int min2_int max_two min_two max_three min_three max_four min_four   -- for this text's walks alone
set_option linter.unusedVariables false
set_option linter.unusedSimpArgs false

/-! ### impl_LostVersions: function 40 -/
def impl_LostVersions.l0 : Nat → List (S50) → List Int → List Int → Int → Int → Option (List Int)
  | 0, _, _, _, _, _ => none
  | k + 1, x0, x5, x15, x16, x17 => if x17 < x16 then (if 0 ≤ x17 then (if x17 < (x15.length : Int) then ((impl_PlainHello.f (([rd x15 x17] : List Int))).bind fun bt521 => ((impl_PassPath.f k x0 bt521.1 bt521.2).bind fun bt527 => (if bt527.2.2 = true then (impl_LostVersions.l0 k x0 x5 x15 x16 (wrap64 (x17 + 1))) else (if x5.length < 17592186044416 then (impl_LostVersions.l0 k x0 (x5 ++ [rd x15 x17]) x15 x16 (wrap64 (x17 + 1))) else (none))))) else (none)) else (none)) else (some x5)
def impl_LostVersions.f (k : Nat) (l0 : List (S50)) (l1 : List Int) : Option (List Int) := (some (([] : List Int) : List Int)).bind fun y513 => ((impl_AreVersions.f k l1).bind fun t516 => (if t516 = true then (impl_LostVersions.l0 k l0 y513 l1 (l1.length : Int) 0) else (some y513)))
theorem impl_LostVersions.mono_l : ∀ k, (∀ y0 y1 y2 y3 y4, LeO (impl_LostVersions.l0 k y0 y1 y2 y3 y4) (impl_LostVersions.l0 (k + 1) y0 y1 y2 y3 y4))
  | 0 => fun _ _ _ _ _ r h => by simp [impl_LostVersions.l0] at h
  | k + 1 => by
    have ih0 := impl_LostVersions.mono_l k
    · intro y0 y1 y2 y3 y4
      unfold impl_LostVersions.l0
      repeat' first
      | (with_reducible exact ih0 _ _ _ _ _)
      | (with_reducible exact impl_AreVersions.mono _ _)
      | (with_reducible exact impl_PassPath.mono _ _ _ _)
      | (with_reducible exact LeO.refl _)
      | (with_reducible exact LeO.none _)
      | (with_reducible refine LeO.ite ?_ ?_)
      | (with_reducible refine LeO.bind ?_ (fun _ => ?_))
      | exact ih0 _ _ _ _ _
      | exact impl_AreVersions.mono _ _
      | exact impl_PassPath.mono _ _ _ _
      | exact LeO.none _
      | refine LeO.ite ?_ ?_
      | refine LeO.bind ?_ (fun _ => ?_)
theorem impl_LostVersions.mono : ∀ a0 a1 k, LeO (impl_LostVersions.f k a0 a1) (impl_LostVersions.f (k + 1) a0 a1) := by
  intro a0 a1 k
  have ih0 := impl_LostVersions.mono_l k
  unfold impl_LostVersions.f
  repeat' first
      | (with_reducible exact ih0 _ _ _ _ _)
      | (with_reducible exact impl_AreVersions.mono _ _)
      | (with_reducible exact impl_PassPath.mono _ _ _ _)
      | (with_reducible exact LeO.refl _)
      | (with_reducible exact LeO.none _)
      | (with_reducible refine LeO.ite ?_ ?_)
      | (with_reducible refine LeO.bind ?_ (fun _ => ?_))
      | exact ih0 _ _ _ _ _
      | exact impl_AreVersions.mono _ _
      | exact impl_PassPath.mono _ _ _ _
      | exact LeO.none _
      | refine LeO.ite ?_ ?_
      | refine LeO.bind ?_ (fun _ => ?_)
set_option maxHeartbeats 8000000 in
set_option maxRecDepth 100000 in
theorem impl_LostVersions.calls (k : Nat) (A0 : Option Addr) (c0 : Nat) (l0 : List (S50)) (A1 : Option Addr) (c1 : Nat) (l1 : List Int) (r : List Int) (w : World) (hr0 : Kd.C k50 w A0 l0.length l0) (hc0 : l0.length ≤ c0) (hr1 : Kd.C (Kd.int .i64) w A1 l1.length l1) (hc1 : l1.length ≤ c1) (h : impl_LostVersions.f k l0 l1 = some r) :
    Calls Try.prog 40 #[.slice A0 l0.length c0, .slice A1 l1.length c1] w fun e w' => ∃ v0_ : Value, e = .returned (v0_) ∧ Kd.R (Kd.int .i64) 3 w' w.heap.size (fun _ => True) v0_ r ∧ Below w.heap.size w w' := by
  have hu63 := Try.underlying63
  have HR0 := Aside0.mk hr0
  have HC0 := Aside0.mk hc0
  clear hr0 hc0
  have HR1 := Aside0.mk hr1
  have HC1 := Aside0.mk hc1
  clear hr1 hc1
  have HB := Aside0.mk (Below.refl w.heap.size w)
  have H : ((some (([] : List Int) : List Int)).bind fun y513 => ((impl_AreVersions.f k l1).bind fun t516 => (if t516 = true then (impl_LostVersions.l0 k l0 y513 l1 (l1.length : Int) 0) else (some y513)))) = some r := h
  clear h
  obtain ⟨y513, hy513⟩ : ∃ y_ : List Int, y_ = (([] : List Int)) := ⟨_, rfl⟩
  replace H : ((impl_AreVersions.f k l1).bind fun t516 => (if t516 = true then (impl_LostVersions.l0 k l0 y513 l1 (l1.length : Int) 0) else (some y513))) = some r := by first | (rw [hy513]; with_reducible exact H) | (have H2_ := (Option.bind_some _ _).symm.trans H; rw [hy513]; with_reducible exact H2_) | (have H2_ := (Option.bind_some _ _).symm.trans H; with_reducible exact H2_) | with_reducible exact H | (rw [hy513]; exact H) | exact H
  have Ny513 := Aside0.mk hy513
  clear hy513
  have HS_ := Aside0.mk H
  clear H
  go_enter Try.func40, Try.ntmps40
  go_upto_region 2 with (first | ((with_reducible refine gate_dst (N := 10) rfl ?_); refine Kd.R_lit (Kd.int .i64) _ 3 ?hg (N := 10) ?hd (xs := ([] : List Int)) (inner := []) (ok := fun _ => True) (okp := fun _ => True) ?hr ?hp (fun _ hk => hk) trivial (Below.refl _ _) (Nat.le_refl _) (by simp) ?_; (case hd => rfl); (case hg => rfl); (case hr => first | (go_simp; done) | (go_simp; rfl)); (case hp => exact (Reps.none _ _)); intro v514 w3 ho4 hb hg_ hnew_; clear hg_ hnew_; (first | rw [← Ny513.out] at ho4 | (simp only [Int.reduceToNat] at ho4; rw [← Ny513.out] at ho4)); have n0_ := Aside0.mk (Kd.R_lower ho4 (below_size (pb_ HB.out))); have n1_ := Aside0.mk (below_step (pb_ HB.out) hb); clear HB; have HO515 := n0_; have HB := n1_; clear n0_ n1_; clear hb ho4))
  (try simp only [Act.put, List.setIfInBounds_toArray, List.set_cons_zero, List.set_cons_succ])
  have H := HS_.out
  clear HS_
  replace H := Option.bind_eq_some_iff.mp H
  obtain ⟨t516, A50, H⟩ := H
  (try dsimp only at H)
  have A5 := Aside0.mk A50
  clear A50
  have HS_ := Aside0.mk H
  clear H
  go_upto_if 13 with (first | ((with_reducible refine gate_callee (f := 55) rfl ?_); refine goesL_ (some 12) rfl rfl Try.func55 (by kernel_rfl) rfl #[.slice A1 l1.length c1] rfl mp_ ?_; (with_reducible refine (impl_AreVersions.calls k _ _ l1 t516 _ ?side1 ?side2 A5.out).mono ?_); (case side1 => exact pc_ (Kd.C_below HR1.out HB.out)); (case side2 => exact HC1.out); rintro e w' ⟨rfl, ⟨nd, rfl⟩⟩; refine ⟨_, rfl, ?_⟩))
  (try simp only [Act.put, List.setIfInBounds_toArray, List.set_cons_zero, List.set_cons_succ])
  have H := HS_.out
  clear HS_
  by_cases c6 : t516 = true
  rotate_left
  · replace c6 := Bool.eq_false_iff.mpr c6
    subst c6
    rw [if_neg (show ¬ (false = true) by decide)] at H
    obtain rfl := Option.some.inj H
    go_wp2
    go_ret
    exact ⟨_, er_, pr_ HO515.out, pb_ HB.out⟩
  subst c6
  rw [if_pos rfl] at H
  have H' := Aside0.mk H
  clear H
  go_wp2
  go_loopg [5, 17] k (fun kq v5 v17 w' => ∃ (x5_1 : List Int) (x17_1 : Int), v17 = .int .i64 x17_1 ∧ Aside0 (impl_LostVersions.l0 kq l0 x5_1 l1 (l1.length : Int) x17_1 = some r) ∧ Aside0 (kq ≤ k) ∧ Aside0 (Kd.R (Kd.int .i64) 3 w' w.heap.size (fun _ => True) v5 x5_1) ∧ Aside0 (Below w.heap.size w w'))
  case atStart => exact ⟨(y513), (0), el_, H', ⟨Nat.le_refl _⟩, ⟨pr_ HO515.out⟩, ⟨pb_ HB.out⟩⟩
  clear H'
  try clear c1
  try clear p2
  try clear c4
  try clear c5
  try clear c6
  obtain ⟨x5_1, x17_1, rfl, HA, HK1, HO_5, HB⟩ := hrel
  rcases gk with _ | k1
  · exact absurd HA.out (by simp [impl_LostVersions.l0])
  have H := HA.out
  clear HA
  simp only [impl_LostVersions.l0] at H
  by_cases c7 : x17_1 < (l1.length : Int)
  rotate_left
  · rw [if_neg c7] at H
    have c7b0 : decide (x17_1 < (l1.length : Int)) = false := decide_eq_false c7
    clear c7
    (first | rw [c7b0] | (simp only [i64_w, i32_w]; rw [c7b0]) | skip)
    obtain rfl := Option.some.inj H
    go_wp2
    go_ret
    exact ⟨_, er_, pr_ HO_5.out, pb_ HB.out⟩
  rw [if_pos c7] at H
  have c7b0 : decide (x17_1 < (l1.length : Int)) = true := decide_eq_true c7
  clear c7
  (first | rw [c7b0] | (simp only [i64_w, i32_w]; rw [c7b0]) | skip)
  by_cases c8 : 0 ≤ x17_1
  rotate_left
  · rw [if_neg c8] at H
    exact absurd H (by simp)
  rw [if_pos c8] at H
  have c8b0 : decide (0 ≤ x17_1) = true := decide_eq_true c8
  clear c8
  by_cases c9 : x17_1 < (l1.length : Int)
  rotate_left
  · rw [if_neg c9] at H
    exact absurd H (by simp)
  rw [if_pos c9] at H
  have c9b0 : decide (x17_1 < (l1.length : Int)) = true := decide_eq_true c9
  clear c9
  obtain ⟨y518, hy518⟩ : ∃ y_ : List Int, y_ = (([rd l1 x17_1] : List Int)) := ⟨_, rfl⟩
  replace H : ((impl_PlainHello.f y518).bind fun bt521 => ((impl_PassPath.f k1 l0 bt521.1 bt521.2).bind fun bt527 => (if bt527.2.2 = true then (impl_LostVersions.l0 k1 l0 x5_1 l1 (l1.length : Int) (wrap64 (x17_1 + 1))) else (if x5_1.length < 17592186044416 then (impl_LostVersions.l0 k1 l0 (x5_1 ++ [rd l1 x17_1]) l1 (l1.length : Int) (wrap64 (x17_1 + 1))) else (none))))) = some r := by first | (rw [hy518]; with_reducible exact H) | (have H2_ := (Option.bind_some _ _).symm.trans H; rw [hy518]; with_reducible exact H2_) | (have H2_ := (Option.bind_some _ _).symm.trans H; with_reducible exact H2_) | with_reducible exact H | (rw [hy518]; exact H) | exact H
  have Ny518 := Aside0.mk hy518
  clear hy518
  replace H := Option.bind_eq_some_iff.mp H
  obtain ⟨⟨t521, t524⟩, A100, H⟩ := H
  (try dsimp only at H)
  have A10 := Aside0.mk A100
  clear A100
  replace H := Option.bind_eq_some_iff.mp H
  obtain ⟨⟨t527, t530, t533⟩, A110, H⟩ := H
  (try dsimp only at H)
  have A11 := Aside0.mk A110
  clear A110
  have HS_ := Aside0.mk H
  clear H
  have p517 : 0 ≤ (x17_1 : Int) := dt_
  have q517 : x17_1 < (l1.length : Int) := dt_
  obtain ⟨ad517, e517, hx517_0⟩ := Kd.at_int HR1.out x17_1 p517 q517
  cases e517
  replace hx517_0 := (HB.out.cell (World.block_lt_of_cell? w _ hx517_0)).trans hx517_0
  replace p517 := eq_true p517
  replace q517 := eq_true q517
  go_upto_if 30 with (first | ((with_reducible refine gate_dst (N := 24) rfl ?_); refine Kd.R_lit (Kd.int .i64) _ 3 ?hg (N := 24) ?hd (xs := ([rd l1 x17_1] : List Int)) (inner := [.int .i64 (rd l1 x17_1)]) (ok := fun _ => True) (okp := fun _ => True) ?hr ?hp (fun _ hk => hk) trivial (Below.refl _ _) (Nat.le_refl _) (by simp) ?_; (case hd => rfl); (case hg => rfl); (case hr => first | (go_simp; done) | (go_simp; rfl)); (case hp => exact (Reps.one (show Kd.M (Kd.int .i64) _ _ _ (rd l1 x17_1) [.int .i64 (rd l1 x17_1)] from rfl) (Reps.none _ _))); intro v519 w12 ho13 hb hg_ hnew_; clear hg_ hnew_; (first | rw [← Ny518.out] at ho13 | (simp only [Int.reduceToNat] at ho13; rw [← Ny518.out] at ho13)); have n0_ := Aside0.mk (Kd.R_elder' (pr_ HO_5.out) (Kd.R_base ho13) hb); have n1_ := Aside0.mk (Kd.R_lower (Kd.R_new' ho13 (Kd.R_lt (pr_ HO_5.out))) (below_size (pb_ HB.out))); have n2_ := Aside0.mk (below_step (pb_ HB.out) hb); clear HO_5; clear HB; have HO_5 := n0_; have HO520 := n1_; have HB := n2_; clear n0_ n1_ n2_; clear hb ho13; obtain ⟨Ao14, co14, eo14⟩ := Kd.R_slice HO520.out; subst eo14) | ((with_reducible refine gate_callee (f := 65) rfl ?_); refine goesL_ (some 25) rfl rfl Try.func65 (by kernel_rfl) rfl #[.slice Ao14 y518.length co14] rfl mp_ ?_; (with_reducible refine (impl_PlainHello.calls _ _ y518 t521 t524 _ ?side1 ?side2 A10.out).mono ?_); (case side1 => exact pc_ ((Kd.R_reads' HO520.out).2.2)); (case side2 => exact (Kd.R_reads' HO520.out).2.1); rintro e w15 ⟨v522, v525, rfl, ho0, ho1, hb⟩; refine ⟨_, rfl, ?_⟩; have n0_ := Aside0.mk (Kd.R_elder' (pr_ HO_5.out) (Kd.R_base ho0) hb); have n1_ := Aside0.mk (Kd.R_elder' (pr_ HO520.out) (Kd.R_base ho0) hb); have n2_ := Aside0.mk (Kd.R_lower (Kd.R_new' (Kd.R_new' ho0 (Kd.R_lt (pr_ HO_5.out))) (Kd.R_lt (pr_ HO520.out))) (below_size (pb_ HB.out))); have n3_ := Aside0.mk (Kd.S_lower (Kd.S_new' (Kd.S_new' ho1 (Kd.R_lt (pr_ HO_5.out))) (Kd.R_lt (pr_ HO520.out))) (below_size (pb_ HB.out))); have n4_ := Aside0.mk (below_step (pb_ HB.out) hb); clear HO_5; clear HO520; clear HB; have HO_5 := n0_; have HO520 := n1_; have HO523 := n2_; have HO526 := n3_; have HB := n4_; clear n0_ n1_ n2_ n3_ n4_; (try clear hb); (try clear hb2); (try clear hk); (try clear hi); (try clear ho0); (try clear ho1); obtain ⟨Ao16, co16, eo16⟩ := Kd.R_slice HO523.out; subst eo16; obtain ⟨Ao17, co17, eo17⟩ := Kd.S_slice HO526.out; subst eo17) | ((with_reducible refine gate_callee (f := 64) rfl ?_); refine goesL_ (some 26) rfl rfl Try.func64 (by kernel_rfl) rfl #[.slice A0 l0.length c0, .agg #[.slice Ao16 t521.length co16, .slice Ao17 t524.length co17]] rfl mp_ ?_; (with_reducible refine (impl_PassPath.calls k1 _ _ l0 _ _ t521 _ _ t524 t527 t530 t533 _ ?side1 ?side2 ?side3 ?side4 ?side5 ?side6 A11.out).mono ?_); (case side1 => exact pc_ (Kd.C_below HR0.out HB.out)); (case side2 => exact HC0.out); (case side3 => exact pc_ ((Kd.R_reads' HO523.out).2.2)); (case side4 => exact (Kd.R_reads' HO523.out).2.1); (case side5 => exact pc_ ((Kd.S_reads' HO526.out).2.2)); (case side6 => exact (Kd.S_reads' HO526.out).2.1); rintro e w18 ⟨v528, v531, rfl, ho0, ho1, hb⟩; refine ⟨_, rfl, ?_⟩; have n0_ := Aside0.mk (Kd.R_elder' (pr_ HO_5.out) (Kd.R_base ho0) hb); have n1_ := Aside0.mk (Kd.R_elder' (pr_ HO520.out) (Kd.R_base ho0) hb); have n2_ := Aside0.mk (Kd.R_elder' (pr_ HO523.out) (Kd.R_base ho0) hb); have n3_ := Aside0.mk (Kd.S_mono (Kd.S_told (Kd.S_told (Kd.S_old (ps_ HO526.out) hb) (Kd.R_base ho0)) (Kd.S_base ho1)) (fun _ h_ => h_.1)); have n4_ := Aside0.mk (Kd.R_lower (Kd.R_new' (Kd.R_new' (Kd.R_new' ho0 (Kd.R_lt (pr_ HO_5.out))) (Kd.R_lt (pr_ HO520.out))) (Kd.R_lt (pr_ HO523.out))) (below_size (pb_ HB.out))); have n5_ := Aside0.mk (Kd.S_lower (Kd.S_new' (Kd.S_new' (Kd.S_new' (Kd.S_new' ho1 (Kd.R_lt (pr_ HO_5.out))) (Kd.R_lt (pr_ HO520.out))) (Kd.R_lt (pr_ HO523.out))) (Kd.S_lt (ps_ HO526.out))) (below_size (pb_ HB.out))); have n6_ := Aside0.mk (below_step (pb_ HB.out) hb); clear HO_5; clear HO520; clear HO523; clear HO526; clear HB; have HO_5 := n0_; have HO520 := n1_; have HO523 := n2_; have HO526 := n3_; have HO529 := n4_; have HO532 := n5_; have HB := n6_; clear n0_ n1_ n2_ n3_ n4_ n5_ n6_; (try clear hb); (try clear hb2); (try clear hk); (try clear hi); (try clear ho0); (try clear ho1)) | ((with_reducible refine gate_dst (N := 8) rfl ?_); refine box_event ?hg (N := 8) ?hd (cs := #[.slice none 0 0, .slice none 0 0]) (t := 63) ?hr ?_; (case hd => rfl); (case hg => rfl); (case hr => first | (go_simp; done) | (go_simp; rfl)); intro gb534 hg w19 hbox hb; have n0_ := Aside0.mk (Kd.R_below (pr_ HO_5.out) hb); have n1_ := Aside0.mk (Kd.R_below (pr_ HO520.out) hb); have n2_ := Aside0.mk (Kd.R_below (pr_ HO523.out) hb); have n3_ := Aside0.mk (Kd.S_below (ps_ HO526.out) hb); have n4_ := Aside0.mk (Kd.R_below (pr_ HO529.out) hb); have n5_ := Aside0.mk (Kd.S_below (ps_ HO532.out) hb); have n6_ := Aside0.mk (below_step (pb_ HB.out) hb); have n7_ := Aside0.mk (hbox); have n8_ := Aside0.mk ((by rw [hg]; exact (below_size (pb_ HB.out)) : w.heap.size ≤ gb534)); have n9_ := Aside0.mk ((by rw [hg]; exact (below_size (pb_ HB.out)) : w.heap.size ≤ gb534)); clear HO_5; clear HO520; clear HO523; clear HO526; clear HO529; clear HO532; clear HB; have HO_5 := n0_; have HO520 := n1_; have HO523 := n2_; have HO526 := n3_; have HO529 := n4_; have HO532 := n5_; have HB := n6_; have BK534 := n7_; have GW534 := n8_; have GE534 := n9_; clear n0_ n1_ n2_ n3_ n4_ n5_ n6_ n7_ n8_ n9_; clear hb hbox hg; obtain ⟨Ao20, co20, eo20⟩ := Kd.R_slice HO529.out; subst eo20; have hcz21_0 : w19.cell? ⟨gb534, 0, none⟩ = some (.slice none 0 0) := (blk_cell BK534.out 0).trans rfl; have hcz21_1 : w19.cell? ⟨gb534, 1, none⟩ = some (.slice none 0 0) := (blk_cell BK534.out 1).trans rfl; have hfz21_0 := blk_frozen BK534.out 0; have hfz21_1 := blk_frozen BK534.out 1; obtain ⟨Ao22, co22, eo22⟩ := Kd.S_slice HO532.out; subst eo22))
  (try simp only [Act.put, List.setIfInBounds_toArray, List.set_cons_zero, List.set_cons_succ])
  have H := HS_.out
  clear HS_
  by_cases c23 : t533 = true
  · subst c23
    rw [if_pos rfl] at H
    have H' := Aside0.mk H
    clear H
    go_wp2
    go_roundg k1
    case measure => have := HK1.out; omega
    case rel => exact ⟨(x5_1), (wrap64 (x17_1 + 1)), el_, H', ⟨by have := HK1.out; omega⟩, ⟨pr_ (Kd.R_mono (rf2_ HO_5.out BK534.out) (fun _ hk => trivial))⟩, ⟨pb1_ HB.out GE534.out⟩⟩
  replace c23 := Bool.eq_false_iff.mpr c23
  subst c23
  rw [if_neg (show ¬ (false = true) by decide)] at H
  by_cases c24 : x5_1.length < 17592186044416
  rotate_left
  · rw [if_neg c24] at H
    exact absurd H (by simp)
  rw [if_pos c24] at H
  have LMc24 := Aside0.mk c24
  clear c24
  obtain ⟨y535, hy535⟩ : ∃ y_ : List Int, y_ = (x5_1 ++ [rd l1 x17_1]) := ⟨_, rfl⟩
  replace H : (impl_LostVersions.l0 k1 l0 y535 l1 (l1.length : Int) (wrap64 (x17_1 + 1))) = some r := by first | (rw [hy535]; with_reducible exact H) | (have H2_ := (Option.bind_some _ _).symm.trans H; rw [hy535]; with_reducible exact H2_) | (have H2_ := (Option.bind_some _ _).symm.trans H; with_reducible exact H2_) | with_reducible exact H | (rw [hy535]; exact H) | exact H
  have Ny535 := Aside0.mk hy535
  clear hy535
  have H' := Aside0.mk H
  clear H
  go_wp2_with (first | ((with_reducible refine gate_builtin (b := .append) (xs := #[.tmp 31, .tmp 33]) rfl ?_); at_builtin; refine Kd.R_append (Kd.int .i64) (w0 := w) w.heap.size rfl (.tmp 31) (.tmp 33) 23 3 (.int .i64 0) 8 rfl Try.underlying23 info3 rfl (by decide) (by omega) u5 x5_1 (rd l1 x17_1) [.int .i64 (rd l1 x17_1)] (fun k_ => some k_ ≠ (.slice Ao14 y518.length co14 : Value).ownBlock ∧ some k_ ≠ (.slice Ao16 t521.length co16 : Value).ownBlock ∧ some k_ ≠ (.slice Ao20 t527.length co20 : Value).ownBlock) (fun _ => False) rfl (by first | (go_simp; done) | (go_simp; rfl)) ?aP (fun _ hk => hk.elim) ?aF ?aO ?aB ?aS ?aL ?_; (case aP => exact rfl); (case aB => exact (pb1_ HB.out GE534.out)); (case aF => exact (fun k_ hk => ⟨Kd.fresh' (Kd.R_lt (pr_ (rf2_ HO520.out BK534.out))) k_ hk, Kd.fresh' (Kd.R_lt (pr_ (rf2_ HO523.out BK534.out))) k_ hk, Kd.fresh' (Kd.R_lt (pr_ (rf2_ HO529.out BK534.out))) k_ hk⟩)); (case aO => exact (by (with_reducible repeat (first | apply Kd.R_alloc | apply Kd.R_drewN | apply Kd.R_drew)); exact Kd.R_mono (Kd.R_far (p := ⟨gb534, 1, none⟩) (Kd.R_far (p := ⟨gb534, 0, none⟩) (Kd.R_types HO_5.out BK534.out (by decide)) (fun _ hk => hk.2) (.slice Ao20 t527.length co20)) (fun _ hk => hk.2) (.slice Ao22 t530.length co22)) (fun _ hk => ⟨hk.1.1.1.2, ⟨hk.1.1.2, hk.1.2⟩⟩))); (case aS => exact (below_size (pb1_ HB.out GE534.out))); (case aL => have := LMc24.out; omega); intro v536 w25 ho hb hg hat; rw [← Ny535.out] at ho; have n0_ := Aside0.mk (Kd.R_after (ok := (fun k_ => some k_ ≠ (.slice Ao16 t521.length co16 : Value).ownBlock ∧ some k_ ≠ (.slice Ao20 t527.length co20 : Value).ownBlock)) (by (with_reducible repeat (first | apply Kd.R_alloc | apply Kd.R_drewN | apply Kd.R_drew)); exact Kd.R_mono (Kd.R_far (p := ⟨gb534, 1, none⟩) (Kd.R_far (p := ⟨gb534, 0, none⟩) (Kd.R_types HO520.out BK534.out (by decide)) (fun _ hk => hk.2) (.slice Ao20 t527.length co20)) (fun _ hk => hk.2) (.slice Ao22 t530.length co22)) (fun _ hk => ⟨⟨hk.1.1.2, hk.1.2⟩, hk.1.1.1.2⟩)) hg hat); have n1_ := Aside0.mk (Kd.R_after (ok := (fun k_ => some k_ ≠ (.slice Ao14 y518.length co14 : Value).ownBlock ∧ some k_ ≠ (.slice Ao20 t527.length co20 : Value).ownBlock)) (by (with_reducible repeat (first | apply Kd.R_alloc | apply Kd.R_drewN | apply Kd.R_drew)); exact Kd.R_mono (Kd.R_far (p := ⟨gb534, 1, none⟩) (Kd.R_far (p := ⟨gb534, 0, none⟩) (Kd.R_types HO523.out BK534.out (by decide)) (fun _ hk => hk.2) (.slice Ao20 t527.length co20)) (fun _ hk => hk.2) (.slice Ao22 t530.length co22)) (fun _ hk => ⟨⟨hk.1.1.2, hk.1.2⟩, hk.1.1.1.2⟩)) hg hat); have n2_ := Aside0.mk (Kd.S_after (ok := (fun k_ => some k_ ≠ (.slice Ao14 y518.length co14 : Value).ownBlock ∧ some k_ ≠ (.slice Ao16 t521.length co16 : Value).ownBlock ∧ some k_ ≠ (.slice Ao20 t527.length co20 : Value).ownBlock ∧ some k_ ≠ (.slice Ao22 t530.length co22 : Value).ownBlock)) (by (with_reducible repeat (first | apply Kd.S_alloc | apply Kd.S_drewN | apply Kd.S_drew)); exact Kd.S_mono (Kd.S_far (p := ⟨gb534, 1, none⟩) (Kd.S_far (p := ⟨gb534, 0, none⟩) (Kd.S_types HO526.out BK534.out (by decide)) (fun _ hk => hk.2) (.slice Ao20 t527.length co20)) (fun _ hk => hk.2) (.slice Ao22 t530.length co22)) (fun _ hk => ⟨⟨hk.1.1.1.2, ⟨hk.1.1.1.1.1, ⟨hk.1.1.2, hk.1.2⟩⟩⟩, hk.1.1.1.1.2⟩)) hg hat); have n3_ := Aside0.mk (Kd.R_after (ok := (fun k_ => some k_ ≠ (.slice Ao14 y518.length co14 : Value).ownBlock ∧ some k_ ≠ (.slice Ao16 t521.length co16 : Value).ownBlock)) (by (with_reducible repeat (first | apply Kd.R_alloc | apply Kd.R_drewN | apply Kd.R_drew)); exact Kd.R_mono (Kd.R_far (p := ⟨gb534, 1, none⟩) (Kd.R_far (p := ⟨gb534, 0, none⟩) (Kd.R_types HO529.out BK534.out (by decide)) (fun _ hk => hk.2) (.slice Ao20 t527.length co20)) (fun _ hk => hk.2) (.slice Ao22 t530.length co22)) (fun _ hk => ⟨⟨hk.1.1.2, hk.1.2⟩, hk.1.1.1.2⟩)) hg hat); have n4_ := Aside0.mk (Kd.S_after (ok := (fun k_ => some k_ ≠ (.slice Ao14 y518.length co14 : Value).ownBlock ∧ some k_ ≠ (.slice Ao16 t521.length co16 : Value).ownBlock ∧ some k_ ≠ (.slice Ao17 t524.length co17 : Value).ownBlock ∧ some k_ ≠ (.slice Ao20 t527.length co20 : Value).ownBlock)) (by (with_reducible repeat (first | apply Kd.S_alloc | apply Kd.S_drewN | apply Kd.S_drew)); exact Kd.S_mono (Kd.S_far (p := ⟨gb534, 1, none⟩) (Kd.S_far (p := ⟨gb534, 0, none⟩) (Kd.S_types HO532.out BK534.out (by decide)) (fun _ hk => hk.2) (.slice Ao20 t527.length co20)) (fun _ hk => hk.2) (.slice Ao22 t530.length co22)) (fun _ hk => ⟨⟨hk.1.1.1.2, ⟨hk.1.1.2, ⟨hk.1.2, hk.1.1.1.1.1⟩⟩⟩, hk.1.1.1.1.2⟩)) hg hat); have n5_ := Aside0.mk (blk_grown (g := gb534) (o := .cells #[.slice Ao20 t527.length co20, .slice Ao22 t530.length co22] 63 (0, 0)) (pp_ BK534.out) hg (Kd.R_ne HO_5.out BK534.out (by decide))); have n6_ := Aside0.mk (hb); have n7_ := Aside0.mk (ho); clear HO520; clear HO523; clear HO526; clear HO529; clear HO532; clear BK534; clear HB; clear HO_5; have HO520 := n0_; have HO523 := n1_; have HO526 := n2_; have HO529 := n3_; have HO532 := n4_; have BK534 := n5_; have HB := n6_; have HO537 := n7_; clear n0_ n1_ n2_ n3_ n4_ n5_ n6_ n7_; clear ho hb hg hat))
  go_roundg k1
  case measure => have := HK1.out; omega
  case rel => exact ⟨(y535), (wrap64 (x17_1 + 1)), el_, H', ⟨by have := HK1.out; omega⟩, ⟨pr_ (Kd.R_mono HO537.out (fun _ hk => trivial))⟩, ⟨pb1_ HB.out GE534.out⟩⟩

/-! ### impl_BestFor: function 19 -/
def impl_BestFor.f (k : Nat) (l0_0 : List Int) (l0_1 : List Int) (l0_2 : List (S50)) (a0_3 : Int) (l1 : List Int) : Option (Int) := (impl_IsEndpoint.f k l0_0 l0_1 l0_2 a0_3).bind fun t539 => (if t539 = true then ((impl_LostVersions.f k l0_2 l0_0).bind fun t540 => ((impl_without.f k l0_0 t540).bind fun t543 => ((impl_BestCommon.f k l1 t543).bind fun t546 => (some t546)))) else (some 0))
theorem impl_BestFor.mono : ∀ a0 a1 a2 a3 a4 k, LeO (impl_BestFor.f k a0 a1 a2 a3 a4) (impl_BestFor.f (k + 1) a0 a1 a2 a3 a4) := by
  intro a0 a1 a2 a3 a4 k
  unfold impl_BestFor.f
  repeat' first
      | (with_reducible exact impl_BestCommon.mono _ _ _)
      | (with_reducible exact impl_IsEndpoint.mono _ _ _ _ _)
      | (with_reducible exact impl_LostVersions.mono _ _ _)
      | (with_reducible exact impl_without.mono _ _ _)
      | (with_reducible exact LeO.refl _)
      | (with_reducible exact LeO.none _)
      | (with_reducible refine LeO.ite ?_ ?_)
      | (with_reducible refine LeO.bind ?_ (fun _ => ?_))
      | exact impl_BestCommon.mono _ _ _
      | exact impl_IsEndpoint.mono _ _ _ _ _
      | exact impl_LostVersions.mono _ _ _
      | exact impl_without.mono _ _ _
      | exact LeO.none _
      | refine LeO.ite ?_ ?_
      | refine LeO.bind ?_ (fun _ => ?_)
def impl_BestFor.T3 : Bool × List (List Nat × List Nat) := (true, [([], []), ([], []), ([1], [1]), ([], []), ([3], [3]), ([], []), ([5], [5]), ([4, 6], [4, 6]), ([2, 7, 7], [2, 7]), ([0, 8, 8], [0, 8]), ([9, 9, 0, 1, 2, 3, 4, 5, 6, 7, 8, 9], [9])])
def impl_BestFor.B3 : List Nat := [0, 0, 2, 0, 8, 0, 32, 120, 254, 511, 1023]
theorem impl_BestFor.tab3 : rtab .any (opsOf Try.f19 3) = impl_BestFor.T3 := by kernel_rfl
theorem impl_BestFor.bits3 : waitsOk impl_BestFor.T3.2 impl_BestFor.B3 = true := by kernel_rfl
set_option maxHeartbeats 8000000 in
set_option maxRecDepth 100000 in
theorem impl_BestFor.calls (k : Nat) (A0_0 : Option Addr) (c0_0 : Nat) (l0_0 : List Int) (A0_1 : Option Addr) (c0_1 : Nat) (l0_1 : List Int) (A0_2 : Option Addr) (c0_2 : Nat) (l0_2 : List (S50)) (a0_3 : Int) (A1 : Option Addr) (c1 : Nat) (l1 : List Int) (r : Int) (w : World) (hr0_0 : Kd.C (Kd.int .i64) w A0_0 l0_0.length l0_0) (hc0_0 : l0_0.length ≤ c0_0) (hr0_1 : Kd.C (Kd.int .i64) w A0_1 l0_1.length l0_1) (hc0_1 : l0_1.length ≤ c0_1) (hr0_2 : Kd.C k50 w A0_2 l0_2.length l0_2) (hc0_2 : l0_2.length ≤ c0_2) (hr1 : Kd.C (Kd.int .i64) w A1 l1.length l1) (hc1 : l1.length ≤ c1) (h : impl_BestFor.f k l0_0 l0_1 l0_2 a0_3 l1 = some r) :
    Calls Try.prog 19 #[.agg #[.slice A0_0 l0_0.length c0_0, .slice A0_1 l0_1.length c0_1, .slice A0_2 l0_2.length c0_2, .int .i64 a0_3], .slice A1 l1.length c1] w fun e w' => e = .returned (.int .i64 r) ∧ Below w.heap.size w w' := by
  have hu39 := Try.underlying39
  have HR0_0 := Aside0.mk hr0_0
  have HC0_0 := Aside0.mk hc0_0
  clear hr0_0 hc0_0
  have HR0_1 := Aside0.mk hr0_1
  have HC0_1 := Aside0.mk hc0_1
  clear hr0_1 hc0_1
  have HR0_2 := Aside0.mk hr0_2
  have HC0_2 := Aside0.mk hc0_2
  clear hr0_2 hc0_2
  have HR1 := Aside0.mk hr1
  have HC1 := Aside0.mk hc1
  clear hr1 hc1
  have HB := Aside0.mk (Below.refl w.heap.size w)
  have H : ((impl_IsEndpoint.f k l0_0 l0_1 l0_2 a0_3).bind fun t539 => (if t539 = true then ((impl_LostVersions.f k l0_2 l0_0).bind fun t540 => ((impl_without.f k l0_0 t540).bind fun t543 => ((impl_BestCommon.f k l1 t543).bind fun t546 => (some t546)))) else (some 0))) = some r := h
  clear h
  have HS_ := Aside0.mk H
  clear H
  go_enter Try.func19, Try.ntmps19
  go_upto_region 1 with (first | ((with_reducible refine gate_dst (N := 2) rfl ?_); refine box_event ?hg (N := 2) ?hd (cs := #[.slice A0_0 l0_0.length c0_0, .slice A0_1 l0_1.length c0_1, .slice A0_2 l0_2.length c0_2, .int .i64 a0_3]) (t := 39) ?hr ?_; (case hd => rfl); (case hg => rfl); (case hr => first | (go_simp; done) | (go_simp; rfl)); intro gb538 hg w3 hbox hb; have n0_ := Aside0.mk (below_step (pb_ HB.out) hb); have n1_ := Aside0.mk (hbox); have n2_ := Aside0.mk ((by rw [hg]; exact (below_size (pb_ HB.out)) : w.heap.size ≤ gb538)); have n3_ := Aside0.mk ((by rw [hg]; exact (below_size (pb_ HB.out)) : w.heap.size ≤ gb538)); clear HB; have HB := n0_; have BK538 := n1_; have GW538 := n2_; have GE538 := n3_; clear n0_ n1_ n2_ n3_; clear hb hbox hg))
  (try simp only [Act.put, List.setIfInBounds_toArray, List.set_cons_zero, List.set_cons_succ])
  have H := HS_.out
  clear HS_
  replace H := Option.bind_eq_some_iff.mp H
  obtain ⟨t539, A40, H⟩ := H
  (try dsimp only at H)
  have A4 := Aside0.mk A40
  clear A40
  have HS_ := Aside0.mk H
  clear H
  obtain ⟨hcz5_0, hcz5_1, hcz5_2, hcz5_3, hfz5_0, hfz5_1, hfz5_2, hfz5_3⟩ := bc4_ BK538.out
  go_upto_if 7 with (first | ((with_reducible refine gate_callee (f := 37) rfl ?_); refine goesL_ (some 6) rfl rfl Try.func37 (by kernel_rfl) rfl #[.agg #[.slice A0_0 l0_0.length c0_0, .slice A0_1 l0_1.length c0_1, .slice A0_2 l0_2.length c0_2, .int .i64 a0_3]] rfl mp_ ?_; (with_reducible refine (impl_IsEndpoint.calls k _ _ l0_0 _ _ l0_1 _ _ l0_2 a0_3 t539 _ ?side1 ?side2 ?side3 ?side4 ?side5 ?side6 A4.out).mono ?_); (case side1 => exact pc_ (Kd.C_below HR0_0.out HB.out)); (case side2 => exact HC0_0.out); (case side3 => exact pc_ (Kd.C_below HR0_1.out HB.out)); (case side4 => exact HC0_1.out); (case side5 => exact pc_ (Kd.C_below HR0_2.out HB.out)); (case side6 => exact HC0_2.out); rintro e w6 ⟨rfl, hb⟩; refine ⟨_, rfl, ?_⟩; have n0_ := Aside0.mk (bb_ BK538.out hb); have n1_ := Aside0.mk (below_step (pb1_ HB.out GE538.out) hb); clear BK538; clear HB; have BK538 := n0_; have HB := n1_; clear n0_ n1_; (try clear hb); (try clear hb2); (try clear hk); (try clear hi)))
  (try simp only [Act.put, List.setIfInBounds_toArray, List.set_cons_zero, List.set_cons_succ])
  have H := HS_.out
  clear HS_
  by_cases c7 : t539 = true
  rotate_left
  · replace c7 := Bool.eq_false_iff.mpr c7
    subst c7
    rw [if_neg (show ¬ (false = true) by decide)] at H
    obtain rfl := Option.some.inj H
    go_wp2
    go_ret
    exact ⟨er_, pb1_ HB.out GE538.out⟩
  subst c7
  rw [if_pos rfl] at H
  replace H := Option.bind_eq_some_iff.mp H
  obtain ⟨t540, A80, H⟩ := H
  (try dsimp only at H)
  have A8 := Aside0.mk A80
  clear A80
  replace H := Option.bind_eq_some_iff.mp H
  obtain ⟨t543, A90, H⟩ := H
  replace H : ((impl_BestCommon.f k l1 t543).bind fun t546 => (some t546)) = some r := H
  have A9 := Aside0.mk A90
  clear A90
  replace H := Option.bind_eq_some_iff.mp H
  obtain ⟨t546, A100, H⟩ := H
  replace H : (some t546) = some r := H
  have A10 := Aside0.mk A100
  clear A100
  obtain rfl := Option.some.inj H
  try go_wp2
  have n0_ := Aside0.mk (blk_drew BK538.out)
  have n1_ := Aside0.mk (below_drew1 HB.out)
  clear BK538
  clear HB
  have BK538 := n0_
  have HB := n1_
  clear n0_ n1_
  refine start_ (n := 11) (S := fun w' => w'.cell? ⟨gb538, 0, none⟩ = some (.slice A0_0 l0_0.length c0_0) ∧ w'.cell? ⟨gb538, 1, none⟩ = some (.slice A0_1 l0_1.length c0_1) ∧ w'.cell? ⟨gb538, 2, none⟩ = some (.slice A0_2 l0_2.length c0_2) ∧ w'.cell? ⟨gb538, 3, none⟩ = some (.int .i64 a0_3)) (ds := []) #[false, false, false, false, false, false, false, false, false, false, false] (by kernel_rfl) rfl rfl ⟨(blk_cell BK538.out 0).trans rfl, (blk_cell BK538.out 1).trans rfl, (blk_cell BK538.out 2).trans rfl, (blk_cell BK538.out 3).trans rfl⟩ (fun hHeld => ?_); refine with_tabW impl_BestFor.tab3 impl_BestFor.bits3 (fun HT_ HW_ => ?_)
  generalize w6.drew = w11 at BK538 HB hHeld ⊢
  refine pu_ 0 (some 8) (tf_ 1 11) HT_ ?_
  refine pu_ 1 (some 9) (tf_ 2 11) HT_ ?_
  refine pu_ 3 (some 11) #[true, true, false, true, false, false, false, false, false, false, false] HT_ ?_
  refine pu_ 5 (some 13) #[true, true, false, true, false, true, false, false, false, false, false] HT_ ?_
  refine ta_ 2 (some 10) #[true, true, true, true, false, true, false, false, false, false, false] HT_ HW_ hHeld ?_
  refine ta_ 4 (some 12) (tf_ 6 11) HT_ HW_ hHeld ?_
  refine ta_ 6 (some 14) (tf_ 7 11) HT_ HW_ hHeld ?_
  refine on_ 7 (some 15) (tf_ 8 11) HT_ (fun K hK => ?_)
  refine goes_ Try.func40 (by kernel_rfl) rfl #[.slice A0_2 l0_2.length c0_2, .slice A0_0 l0_0.length c0_0] (by rfl) rfl rfl mp_ ?_
  with_reducible refine (impl_LostVersions.calls k _ _ l0_2 _ _ l0_0 t540 _ ?side1 ?side2 ?side3 ?side4 A8.out).mono ?_
  (case side1 => exact pc_ (Kd.C_below HR0_2.out HB.out))
  (case side2 => exact HC0_2.out)
  (case side3 => exact pc_ (Kd.C_below HR0_0.out HB.out))
  (case side4 => exact HC0_0.out)
  rintro e w12 ⟨v541, rfl, ho0, hb⟩
  refine ⟨_, rfl, ?_⟩
  have n0_ := Aside0.mk (Kd.R_lower ho0 (below_size (pb1_ HB.out GE538.out)))
  have n1_ := Aside0.mk (bb_ BK538.out hb)
  have n2_ := Aside0.mk (below_step (pb1_ HB.out GE538.out) hb)
  clear BK538
  clear HB
  have HO542 := n0_
  have BK538 := n1_
  have HB := n2_
  clear n0_ n1_ n2_
  (try clear hb)
  (try clear hb2)
  (try clear hk)
  (try clear hi)
  (try clear ho0)
  obtain ⟨Ao13, co13, eo13⟩ := Kd.R_slice HO542.out
  (first | subst eo13 | (injection eo13 with f1_ f2_ f3_; have f4_ := f1_.symm; have f5_ := f3_.symm; clear f1_ f2_ f3_; subst f4_; subst f5_))
  (try (obtain ⟨Ao_, co_, eo_⟩ := Kd.R_slice HO542.out; subst eo_))
  refine hK.out _ _ ⟨(blk_cell BK538.out 0).trans rfl, (blk_cell BK538.out 1).trans rfl, (blk_cell BK538.out 2).trans rfl, (blk_cell BK538.out 3).trans rfl⟩ (fun hHeld => ?_)
  clear hK K
  refine no_ (some 15) ?_
  refine on_ 8 (some 16) (tf_ 9 11) HT_ (fun K hK => ?_)
  refine goes_ Try.func39 (by kernel_rfl) rfl #[.slice A0_0 l0_0.length c0_0, .slice Ao13 t540.length co13] (by rfl) rfl rfl mp_ ?_
  with_reducible refine (impl_without.calls k _ _ l0_0 _ _ t540 t543 _ ?side1 ?side2 ?side3 ?side4 A9.out).mono ?_
  (case side1 => exact pc_ (Kd.C_below HR0_0.out HB.out))
  (case side2 => exact HC0_0.out)
  (case side3 => exact pc_ ((Kd.R_reads' HO542.out).2.2))
  (case side4 => exact (Kd.R_reads' HO542.out).2.1)
  rintro e w14 ⟨v544, rfl, ho0, hb⟩
  refine ⟨_, rfl, ?_⟩
  have n0_ := Aside0.mk (Kd.R_elder' (pr_ HO542.out) (Kd.R_base ho0) hb)
  have n1_ := Aside0.mk (Kd.R_lower (Kd.R_new' ho0 (Kd.R_lt (pr_ HO542.out))) (below_size (pb1_ HB.out GE538.out)))
  have n2_ := Aside0.mk (bb_ BK538.out hb)
  have n3_ := Aside0.mk (below_step (pb1_ HB.out GE538.out) hb)
  clear HO542
  clear BK538
  clear HB
  have HO542 := n0_
  have HO545 := n1_
  have BK538 := n2_
  have HB := n3_
  clear n0_ n1_ n2_ n3_
  (try clear hb)
  (try clear hb2)
  (try clear hk)
  (try clear hi)
  (try clear ho0)
  obtain ⟨Ao15, co15, eo15⟩ := Kd.R_slice HO545.out
  (first | subst eo15 | (injection eo15 with f1_ f2_ f3_; have f4_ := f1_.symm; have f5_ := f3_.symm; clear f1_ f2_ f3_; subst f4_; subst f5_))
  refine hK.out _ _ ⟨(blk_cell BK538.out 0).trans rfl, (blk_cell BK538.out 1).trans rfl, (blk_cell BK538.out 2).trans rfl, (blk_cell BK538.out 3).trans rfl⟩ (fun hHeld => ?_)
  clear hK K
  refine no_ (some 16) ?_
  refine on_ 9 (some 17) (tf_ 10 11) HT_ (fun K hK => ?_)
  refine goes_ Try.func38 (by kernel_rfl) rfl #[.slice A1 l1.length c1, .slice Ao15 t543.length co15] (by rfl) rfl rfl mp_ ?_
  with_reducible refine (impl_BestCommon.calls k _ _ l1 _ _ t543 t546 _ ?side1 ?side2 ?side3 ?side4 A10.out).mono ?_
  (case side1 => exact pc_ (Kd.C_below HR1.out HB.out))
  (case side2 => exact HC1.out)
  (case side3 => exact pc_ ((Kd.R_reads' HO545.out).2.2))
  (case side4 => exact (Kd.R_reads' HO545.out).2.1)
  rintro e w16 ⟨rfl, hb⟩
  refine ⟨_, rfl, ?_⟩
  have n0_ := Aside0.mk (Kd.R_below (pr_ HO542.out) hb)
  have n1_ := Aside0.mk (Kd.R_below (pr_ HO545.out) hb)
  have n2_ := Aside0.mk (bb_ BK538.out hb)
  have n3_ := Aside0.mk (below_step (pb1_ HB.out GE538.out) hb)
  clear HO542
  clear HO545
  clear BK538
  clear HB
  have HO542 := n0_
  have HO545 := n1_
  have BK538 := n2_
  have HB := n3_
  clear n0_ n1_ n2_ n3_
  (try clear hb)
  (try clear hb2)
  (try clear hk)
  (try clear hi)
  refine hK.out _ _ ⟨(blk_cell BK538.out 0).trans rfl, (blk_cell BK538.out 1).trans rfl, (blk_cell BK538.out 2).trans rfl, (blk_cell BK538.out 3).trans rfl⟩ (fun hHeld => ?_)
  clear hK K
  refine no_ (some 17) ?_
  refine pu_ 10 (some 4) (tf_ 11 11) HT_ ?_
  refine done_ (done_of HT_.out (by kernel_rfl)) ?_
  try go_wp2
  go_ret
  exact ⟨er_, pb1_ HB.out GE538.out⟩

/-! ### laws_eqBox: function 29 -/
def laws_eqBox.f (k : Nat) (a0_0 : Int) (l0_1 : List Int) (l0_2 : List Int) (a0_3 : Bool) (a1_0 : Int) (l1_1 : List Int) (l1_2 : List Int) (a1_3 : Bool) : Option (Bool) := if a0_0 = a1_0 then ((laws_eqIntS.f k l0_1 l1_1).bind fun t549 => (if t549 = true then ((laws_eqIntS.f k l0_2 l1_2).bind fun t550 => (if t550 = true then (if a0_3 = true then (if a1_3 = true then (some true) else (some false)) else (if a1_3 = true then (some false) else (some true))) else (some false))) else (some false))) else (some false)
theorem laws_eqBox.mono : ∀ a0 a1 a2 a3 a4 a5 a6 a7 k, LeO (laws_eqBox.f k a0 a1 a2 a3 a4 a5 a6 a7) (laws_eqBox.f (k + 1) a0 a1 a2 a3 a4 a5 a6 a7) := by
  intro a0 a1 a2 a3 a4 a5 a6 a7 k
  unfold laws_eqBox.f
  repeat' first
      | (with_reducible exact laws_eqIntS.mono _ _ _)
      | (with_reducible exact LeO.refl _)
      | (with_reducible exact LeO.none _)
      | (with_reducible refine LeO.ite ?_ ?_)
      | (with_reducible refine LeO.bind ?_ (fun _ => ?_))
      | exact laws_eqIntS.mono _ _ _
      | exact LeO.none _
      | refine LeO.ite ?_ ?_
      | refine LeO.bind ?_ (fun _ => ?_)
set_option maxHeartbeats 8000000 in
set_option maxRecDepth 100000 in
theorem laws_eqBox.calls (k : Nat) (a0_0 : Int) (A0_1 : Option Addr) (c0_1 : Nat) (l0_1 : List Int) (A0_2 : Option Addr) (c0_2 : Nat) (l0_2 : List Int) (a0_3 : Bool) (a1_0 : Int) (A1_1 : Option Addr) (c1_1 : Nat) (l1_1 : List Int) (A1_2 : Option Addr) (c1_2 : Nat) (l1_2 : List Int) (a1_3 : Bool) (r : Bool) (w : World) (hr0_1 : Kd.C (Kd.int .i64) w A0_1 l0_1.length l0_1) (hc0_1 : l0_1.length ≤ c0_1) (hr0_2 : Kd.C (Kd.int .i64) w A0_2 l0_2.length l0_2) (hc0_2 : l0_2.length ≤ c0_2) (hr1_1 : Kd.C (Kd.int .i64) w A1_1 l1_1.length l1_1) (hc1_1 : l1_1.length ≤ c1_1) (hr1_2 : Kd.C (Kd.int .i64) w A1_2 l1_2.length l1_2) (hc1_2 : l1_2.length ≤ c1_2) (h : laws_eqBox.f k a0_0 l0_1 l0_2 a0_3 a1_0 l1_1 l1_2 a1_3 = some r) :
    Calls Try.prog 29 #[.agg #[.int .i64 a0_0, .slice A0_1 l0_1.length c0_1, .slice A0_2 l0_2.length c0_2, .bool a0_3], .agg #[.int .i64 a1_0, .slice A1_1 l1_1.length c1_1, .slice A1_2 l1_2.length c1_2, .bool a1_3]] w fun e w' => e = .returned (.bool r) ∧ Below w.heap.size w w' := by
  have hu50 := Try.underlying50
  have HR0_1 := Aside0.mk hr0_1
  have HC0_1 := Aside0.mk hc0_1
  clear hr0_1 hc0_1
  have HR0_2 := Aside0.mk hr0_2
  have HC0_2 := Aside0.mk hc0_2
  clear hr0_2 hc0_2
  have HR1_1 := Aside0.mk hr1_1
  have HC1_1 := Aside0.mk hc1_1
  clear hr1_1 hc1_1
  have HR1_2 := Aside0.mk hr1_2
  have HC1_2 := Aside0.mk hc1_2
  clear hr1_2 hc1_2
  have HB := Aside0.mk (Below.refl w.heap.size w)
  have H : (if a0_0 = a1_0 then ((laws_eqIntS.f k l0_1 l1_1).bind fun t549 => (if t549 = true then ((laws_eqIntS.f k l0_2 l1_2).bind fun t550 => (if t550 = true then (if a0_3 = true then (if a1_3 = true then (some true) else (some false)) else (if a1_3 = true then (some false) else (some true))) else (some false))) else (some false))) else (some false)) = some r := h
  clear h
  have HS_ := Aside0.mk H
  clear H
  go_enter Try.func29, Try.ntmps29
  go_upto_region 1 with (first | ((with_reducible refine gate_dst (N := 2) rfl ?_); refine box_event ?hg (N := 2) ?hd (cs := #[.int .i64 a0_0, .slice A0_1 l0_1.length c0_1, .slice A0_2 l0_2.length c0_2, .bool a0_3]) (t := 50) ?hr ?_; (case hd => rfl); (case hg => rfl); (case hr => first | (go_simp; done) | (go_simp; rfl)); intro gb547 hg w3 hbox hb; have n0_ := Aside0.mk (below_step (pb_ HB.out) hb); have n1_ := Aside0.mk (hbox); have n2_ := Aside0.mk ((by rw [hg]; exact (below_size (pb_ HB.out)) : w.heap.size ≤ gb547)); have n3_ := Aside0.mk ((by rw [hg]; exact (below_size (pb_ HB.out)) : w.heap.size ≤ gb547)); clear HB; have HB := n0_; have BK547 := n1_; have GW547 := n2_; have GE547 := n3_; clear n0_ n1_ n2_ n3_; clear hb hbox hg) | ((with_reducible refine gate_dst (N := 3) rfl ?_); refine box_event ?hg (N := 3) ?hd (cs := #[.int .i64 a1_0, .slice A1_1 l1_1.length c1_1, .slice A1_2 l1_2.length c1_2, .bool a1_3]) (t := 50) ?hr ?_; (case hd => rfl); (case hg => rfl); (case hr => first | (go_simp; done) | (go_simp; rfl)); intro gb548 hg w4 hbox hb; have n0_ := Aside0.mk (bb_ BK547.out hb); have n1_ := Aside0.mk (below_step (pb1_ HB.out GE547.out) hb); have n2_ := Aside0.mk (hbox); have n3_ := Aside0.mk ((by rw [hg]; exact (below_size (pb1_ HB.out GE547.out)) : w.heap.size ≤ gb548)); have n4_ := Aside0.mk ((by rw [hg]; exact (below_size (pb1_ HB.out GE547.out)) : w.heap.size ≤ gb548)); have n5_ := Aside0.mk ((by rw [hg]; exact Nat.ne_of_lt (blk_lt (pk_ BK547.out)) : gb547 ≠ gb548)); have n6_ := Aside0.mk ((by rw [hg]; exact Nat.ne_of_gt (blk_lt (pk_ BK547.out)) : gb548 ≠ gb547)); clear BK547; clear HB; have BK547 := n0_; have HB := n1_; have BK548 := n2_; have GW548 := n3_; have GE548 := n4_; have NB547_548 := n5_; have NB548_547 := n6_; clear n0_ n1_ n2_ n3_ n4_ n5_ n6_; clear hb hbox hg))
  (try simp only [Act.put, List.setIfInBounds_toArray, List.set_cons_zero, List.set_cons_succ])
  have H := HS_.out
  clear HS_
  by_cases c5 : a0_0 = a1_0
  rotate_left
  · rw [if_neg c5] at H
    have c5b0 : (a0_0 == a1_0) = false := beq_eq_false_iff_ne.mpr c5
    have c5b1 : (a0_0 != a1_0) = true := bne_iff_ne.mpr c5
    (first | rw [c5b0] | (simp only [i64_w, i32_w]; rw [c5b0]) | rw [c5b1] | (have c_ := c5b1; rw [bne] at c_; rw [c_]; clear c_) | skip)
    obtain rfl := Option.some.inj H
    have hnb6 := NB547_548.out
    have hnc6 := NB548_547.out
    obtain ⟨hcz7_0, hcz7_1, hcz7_2, hcz7_3, hfz7_0, hfz7_1, hfz7_2, hfz7_3⟩ := bc4_ BK547.out
    obtain ⟨hcz8_0, hcz8_1, hcz8_2, hcz8_3, hfz8_0, hfz8_1, hfz8_2, hfz8_3⟩ := bc4_ BK548.out
    go_wp2
    go_ret
    exact ⟨er_, pb2_ HB.out GE547.out GE548.out⟩
  rw [if_pos c5] at H
  have c5b0 : (a0_0 == a1_0) = true := beq_iff_eq.mpr c5
  have c5b1 : (a0_0 != a1_0) = false := bne_eq_false_iff_eq.mpr c5
  clear c5
  (first | rw [c5b0] | (simp only [i64_w, i32_w]; rw [c5b0]) | rw [c5b1] | (have c_ := c5b1; rw [bne] at c_; rw [c_]; clear c_) | skip)
  replace H := Option.bind_eq_some_iff.mp H
  obtain ⟨t549, A90, H⟩ := H
  (try dsimp only at H)
  have A9 := Aside0.mk A90
  clear A90
  have HS_ := Aside0.mk H
  clear H
  have hnb10 := NB547_548.out
  have hnc10 := NB548_547.out
  obtain ⟨hcz11_0, hcz11_1, hcz11_2, hcz11_3, hfz11_0, hfz11_1, hfz11_2, hfz11_3⟩ := bc4_ BK547.out
  obtain ⟨hcz12_0, hcz12_1, hcz12_2, hcz12_3, hfz12_0, hfz12_1, hfz12_2, hfz12_3⟩ := bc4_ BK548.out
  go_upto_if 15 with (first | ((with_reducible refine gate_callee (f := 13) rfl ?_); refine goesL_ (some 14) rfl rfl Try.func13 (by kernel_rfl) rfl #[.slice A0_1 l0_1.length c0_1, .slice A1_1 l1_1.length c1_1] rfl mp_ ?_; (with_reducible refine (laws_eqIntS.calls k _ _ l0_1 _ _ l1_1 t549 _ ?side1 ?side2 ?side3 ?side4 A9.out).mono ?_); (case side1 => exact pc_ (Kd.C_below HR0_1.out HB.out)); (case side2 => exact HC0_1.out); (case side3 => exact pc_ (Kd.C_below HR1_1.out HB.out)); (case side4 => exact HC1_1.out); rintro e w' ⟨rfl, ⟨nd, rfl⟩⟩; refine ⟨_, rfl, ?_⟩))
  (try simp only [Act.put, List.setIfInBounds_toArray, List.set_cons_zero, List.set_cons_succ])
  have H := HS_.out
  clear HS_
  by_cases c13 : t549 = true
  rotate_left
  · replace c13 := Bool.eq_false_iff.mpr c13
    subst c13
    rw [if_neg (show ¬ (false = true) by decide)] at H
    obtain rfl := Option.some.inj H
    go_wp2
    go_ret
    exact ⟨er_, pb2_ HB.out GE547.out GE548.out⟩
  subst c13
  rw [if_pos rfl] at H
  replace H := Option.bind_eq_some_iff.mp H
  obtain ⟨t550, A140, H⟩ := H
  (try dsimp only at H)
  have A14 := Aside0.mk A140
  clear A140
  have HS_ := Aside0.mk H
  clear H
  have hnb15 := NB547_548.out
  have hnc15 := NB548_547.out
  obtain ⟨hcz16_0, hcz16_1, hcz16_2, hcz16_3, hfz16_0, hfz16_1, hfz16_2, hfz16_3⟩ := bc4_ BK547.out
  obtain ⟨hcz17_0, hcz17_1, hcz17_2, hcz17_3, hfz17_0, hfz17_1, hfz17_2, hfz17_3⟩ := bc4_ BK548.out
  go_upto_if 21 with (first | ((with_reducible refine gate_callee (f := 13) rfl ?_); refine goesL_ (some 20) rfl rfl Try.func13 (by kernel_rfl) rfl #[.slice A0_2 l0_2.length c0_2, .slice A1_2 l1_2.length c1_2] rfl mp_ ?_; (with_reducible refine (laws_eqIntS.calls k _ _ l0_2 _ _ l1_2 t550 _ ?side1 ?side2 ?side3 ?side4 A14.out).mono ?_); (case side1 => exact pc_ (Kd.C_below HR0_2.out (pb2_ HB.out GE547.out GE548.out))); (case side2 => exact HC0_2.out); (case side3 => exact pc_ (Kd.C_below HR1_2.out (pb2_ HB.out GE547.out GE548.out))); (case side4 => exact HC1_2.out); rintro e w' ⟨rfl, ⟨nd, rfl⟩⟩; refine ⟨_, rfl, ?_⟩))
  (try simp only [Act.put, List.setIfInBounds_toArray, List.set_cons_zero, List.set_cons_succ])
  have H := HS_.out
  clear HS_
  by_cases c18 : t550 = true
  rotate_left
  · replace c18 := Bool.eq_false_iff.mpr c18
    subst c18
    rw [if_neg (show ¬ (false = true) by decide)] at H
    obtain rfl := Option.some.inj H
    go_wp2
    go_ret
    exact ⟨er_, pb2_ HB.out GE547.out GE548.out⟩
  subst c18
  rw [if_pos rfl] at H
  by_cases c19 : a0_3 = true
  rotate_left
  · replace c19 := Bool.eq_false_iff.mpr c19
    subst c19
    rw [if_neg (show ¬ (false = true) by decide)] at H
    by_cases c20 : a1_3 = true
    rotate_left
    · replace c20 := Bool.eq_false_iff.mpr c20
      subst c20
      rw [if_neg (show ¬ (false = true) by decide)] at H
      obtain rfl := Option.some.inj H
      have hnb21 := NB547_548.out
      have hnc21 := NB548_547.out
      obtain ⟨hcz22_0, hcz22_1, hcz22_2, hcz22_3, hfz22_0, hfz22_1, hfz22_2, hfz22_3⟩ := bc4_ BK547.out
      obtain ⟨hcz23_0, hcz23_1, hcz23_2, hcz23_3, hfz23_0, hfz23_1, hfz23_2, hfz23_3⟩ := bc4_ BK548.out
      go_wp2
      go_ret
      exact ⟨er_, pb2_ HB.out GE547.out GE548.out⟩
    subst c20
    rw [if_pos rfl] at H
    obtain rfl := Option.some.inj H
    have hnb24 := NB547_548.out
    have hnc24 := NB548_547.out
    obtain ⟨hcz25_0, hcz25_1, hcz25_2, hcz25_3, hfz25_0, hfz25_1, hfz25_2, hfz25_3⟩ := bc4_ BK547.out
    obtain ⟨hcz26_0, hcz26_1, hcz26_2, hcz26_3, hfz26_0, hfz26_1, hfz26_2, hfz26_3⟩ := bc4_ BK548.out
    go_wp2
    go_ret
    exact ⟨er_, pb2_ HB.out GE547.out GE548.out⟩
  subst c19
  rw [if_pos rfl] at H
  by_cases c27 : a1_3 = true
  rotate_left
  · replace c27 := Bool.eq_false_iff.mpr c27
    subst c27
    rw [if_neg (show ¬ (false = true) by decide)] at H
    obtain rfl := Option.some.inj H
    have hnb28 := NB547_548.out
    have hnc28 := NB548_547.out
    obtain ⟨hcz29_0, hcz29_1, hcz29_2, hcz29_3, hfz29_0, hfz29_1, hfz29_2, hfz29_3⟩ := bc4_ BK547.out
    obtain ⟨hcz30_0, hcz30_1, hcz30_2, hcz30_3, hfz30_0, hfz30_1, hfz30_2, hfz30_3⟩ := bc4_ BK548.out
    go_wp2
    go_ret
    exact ⟨er_, pb2_ HB.out GE547.out GE548.out⟩
  subst c27
  rw [if_pos rfl] at H
  obtain rfl := Option.some.inj H
  have hnb31 := NB547_548.out
  have hnc31 := NB548_547.out
  obtain ⟨hcz32_0, hcz32_1, hcz32_2, hcz32_3, hfz32_0, hfz32_1, hfz32_2, hfz32_3⟩ := bc4_ BK547.out
  obtain ⟨hcz33_0, hcz33_1, hcz33_2, hcz33_3, hfz33_0, hfz33_1, hfz33_2, hfz33_3⟩ := bc4_ BK548.out
  go_wp2
  go_ret
  exact ⟨er_, pb2_ HB.out GE547.out GE548.out⟩

/-! ### laws_eqBoxS: function 12 -/
def laws_eqBoxS.l0 : Nat → List (S50) → List (S50) → Int → Option (Bool)
  | 0, _, _, _ => none
  | k + 1, x0, x1, x5 => if x5 < (x0.length : Int) then (if 0 ≤ x5 then (if x5 < (x1.length : Int) then ((laws_eqBox.f k ((rd_T50 x0 x5).f0) ((rd_T50 x0 x5).f1) ((rd_T50 x0 x5).f2) ((rd_T50 x0 x5).f3) ((rd_T50 x1 x5).f0) ((rd_T50 x1 x5).f1) ((rd_T50 x1 x5).f2) ((rd_T50 x1 x5).f3)).bind fun t553 => (if t553 = true then (laws_eqBoxS.l0 k x0 x1 (wrap64 (x5 + 1))) else (some false))) else (none)) else (none)) else (some true)
def laws_eqBoxS.f (k : Nat) (l0 : List (S50)) (l1 : List (S50)) : Option (Bool) := if (l0.length : Int) = (l1.length : Int) then (laws_eqBoxS.l0 k l0 l1 0) else (some false)
theorem laws_eqBoxS.mono_l : ∀ k, (∀ y0 y1 y2, LeO (laws_eqBoxS.l0 k y0 y1 y2) (laws_eqBoxS.l0 (k + 1) y0 y1 y2))
  | 0 => fun _ _ _ r h => by simp [laws_eqBoxS.l0] at h
  | k + 1 => by
    have ih0 := laws_eqBoxS.mono_l k
    · intro y0 y1 y2
      unfold laws_eqBoxS.l0
      repeat' first
      | (with_reducible exact ih0 _ _ _)
      | (with_reducible exact laws_eqBox.mono _ _ _ _ _ _ _ _ _)
      | (with_reducible exact LeO.refl _)
      | (with_reducible exact LeO.none _)
      | (with_reducible refine LeO.ite ?_ ?_)
      | (with_reducible refine LeO.bind ?_ (fun _ => ?_))
      | exact ih0 _ _ _
      | exact laws_eqBox.mono _ _ _ _ _ _ _ _ _
      | exact LeO.none _
      | refine LeO.ite ?_ ?_
      | refine LeO.bind ?_ (fun _ => ?_)
theorem laws_eqBoxS.mono : ∀ a0 a1 k, LeO (laws_eqBoxS.f k a0 a1) (laws_eqBoxS.f (k + 1) a0 a1) := by
  intro a0 a1 k
  have ih0 := laws_eqBoxS.mono_l k
  unfold laws_eqBoxS.f
  repeat' first
      | (with_reducible exact ih0 _ _ _)
      | (with_reducible exact laws_eqBox.mono _ _ _ _ _ _ _ _ _)
      | (with_reducible exact LeO.refl _)
      | (with_reducible exact LeO.none _)
      | (with_reducible refine LeO.ite ?_ ?_)
      | (with_reducible refine LeO.bind ?_ (fun _ => ?_))
      | exact ih0 _ _ _
      | exact laws_eqBox.mono _ _ _ _ _ _ _ _ _
      | exact LeO.none _
      | refine LeO.ite ?_ ?_
      | refine LeO.bind ?_ (fun _ => ?_)
def laws_eqBoxS.T6 : Bool × List (List Nat × List Nat) := (true, [([], []), ([], []), ([0, 1], [0, 1]), ([2], [2]), ([], []), ([], []), ([4, 5], [4, 5]), ([6], [6]), ([3, 7], [3, 7]), ([8], [8])])
def laws_eqBoxS.B6 : List Nat := [0, 0, 3, 7, 0, 0, 48, 112, 255, 511]
theorem laws_eqBoxS.tab6 : rtab .any (opsOf Try.f12 6) = laws_eqBoxS.T6 := by kernel_rfl
theorem laws_eqBoxS.bits6 : waitsOk laws_eqBoxS.T6.2 laws_eqBoxS.B6 = true := by kernel_rfl
set_option maxHeartbeats 8000000 in
set_option maxRecDepth 100000 in
theorem laws_eqBoxS.calls (k : Nat) (A0 : Option Addr) (c0 : Nat) (l0 : List (S50)) (A1 : Option Addr) (c1 : Nat) (l1 : List (S50)) (r : Bool) (w : World) (hr0 : Kd.C k50 w A0 l0.length l0) (hc0 : l0.length ≤ c0) (hr1 : Kd.C k50 w A1 l1.length l1) (hc1 : l1.length ≤ c1) (h : laws_eqBoxS.f k l0 l1 = some r) :
    Calls Try.prog 12 #[.slice A0 l0.length c0, .slice A1 l1.length c1] w fun e w' => e = .returned (.bool r) ∧ Below w.heap.size w w' := by
  have hu50 := Try.underlying50
  have HR0 := Aside0.mk hr0
  have HC0 := Aside0.mk hc0
  clear hr0 hc0
  have HR1 := Aside0.mk hr1
  have HC1 := Aside0.mk hc1
  clear hr1 hc1
  have HB := Aside0.mk (Below.refl w.heap.size w)
  have H : (if (l0.length : Int) = (l1.length : Int) then (laws_eqBoxS.l0 k l0 l1 0) else (some false)) = some r := h
  clear h
  by_cases c3 : (l0.length : Int) = (l1.length : Int)
  rotate_left
  · rw [if_neg c3] at H
    have c3b0 : ((l0.length : Int) == (l1.length : Int)) = false := beq_eq_false_iff_ne.mpr c3
    have c3b1 : ((l0.length : Int) != (l1.length : Int)) = true := bne_iff_ne.mpr c3
    have c3b2 : (l0.length == l1.length) = false := by first | simpa using c3 | (simp at c3 ⊢; omega)
    obtain rfl := Option.some.inj H
    go_enter Try.func12, Try.ntmps12
    go_wp2
    go_ret
    exact ⟨er_, pb_ HB.out⟩
  rw [if_pos c3] at H
  have c3b0 : ((l0.length : Int) == (l1.length : Int)) = true := beq_iff_eq.mpr c3
  have c3b1 : ((l0.length : Int) != (l1.length : Int)) = false := bne_eq_false_iff_eq.mpr c3
  have c3b2 : (l0.length == l1.length) = true := by first | simpa using c3 | (simp at c3 ⊢; omega)
  clear c3
  have H' := Aside0.mk H
  clear H
  go_enter Try.func12, Try.ntmps12
  go_wp2
  go_loopg [5] k (fun kq v5 w' => ∃ (x5_1 : Int), v5 = .int .i64 x5_1 ∧ Aside0 (laws_eqBoxS.l0 kq l0 l1 x5_1 = some r) ∧ Aside0 (kq ≤ k) ∧ Aside0 (Below w.heap.size w w'))
  case atStart => exact ⟨(0), el_, H', ⟨Nat.le_refl _⟩, ⟨pb_ HB.out⟩⟩
  clear H'
  try clear c1
  try clear p2
  try clear c3
  try clear c3b0
  try clear c3b1
  try clear c3b2
  obtain ⟨x5_1, rfl, HA, HK1, HB⟩ := hrel
  rcases gk with _ | k1
  · exact absurd HA.out (by simp [laws_eqBoxS.l0])
  have H := HA.out
  clear HA
  simp only [laws_eqBoxS.l0] at H
  by_cases c4 : x5_1 < (l0.length : Int)
  rotate_left
  · rw [if_neg c4] at H
    have c4b0 : decide (x5_1 < (l0.length : Int)) = false := decide_eq_false c4
    clear c4
    obtain rfl := Option.some.inj H
    go_wp2
    go_ret
    exact ⟨er_, pb_ HB.out⟩
  rw [if_pos c4] at H
  have c4b0 : decide (x5_1 < (l0.length : Int)) = true := decide_eq_true c4
  clear c4
  by_cases c5 : 0 ≤ x5_1
  rotate_left
  · rw [if_neg c5] at H
    exact absurd H (by simp)
  rw [if_pos c5] at H
  have c5b0 : decide (0 ≤ x5_1) = true := decide_eq_true c5
  clear c5
  by_cases c6 : x5_1 < (l1.length : Int)
  rotate_left
  · rw [if_neg c6] at H
    exact absurd H (by simp)
  rw [if_pos c6] at H
  have c6b0 : decide (x5_1 < (l1.length : Int)) = true := decide_eq_true c6
  clear c6
  replace H := Option.bind_eq_some_iff.mp H
  obtain ⟨t553, A70, H⟩ := H
  (try dsimp only at H)
  have A7 := Aside0.mk A70
  clear A70
  have HS_ := Aside0.mk H
  clear H
  try go_wp2
  have n0_ := Aside0.mk (below_drew1 HB.out)
  clear HB
  have HB := n0_
  clear n0_
  have p551 : 0 ≤ (x5_1 : Int) := dt_
  have q551 : x5_1 < (l0.length : Int) := dt_
  obtain ⟨ad551, A551_1, c551_1, A551_2, c551_2, e551, hx551_0, hx551_1, hx551_2, hx551_3, hl551_1, hi551_1, hl551_2, hi551_2⟩ := at_T50 HR0.out x5_1 p551 q551
  have hw551_3 := hx551_3
  have hw551_2 := hx551_2
  have hw551_1 := hx551_1
  have hw551_0 := hx551_0
  cases e551
  replace hx551_0 := (HB.out.cell (World.block_lt_of_cell? w _ hx551_0)).trans hx551_0
  replace hx551_1 := (HB.out.cell (World.block_lt_of_cell? w _ hx551_1)).trans hx551_1
  replace hx551_2 := (HB.out.cell (World.block_lt_of_cell? w _ hx551_2)).trans hx551_2
  replace hx551_3 := (HB.out.cell (World.block_lt_of_cell? w _ hx551_3)).trans hx551_3
  have HR551_1 := Aside0.mk hi551_1
  have HC551_1 := Aside0.mk hl551_1
  clear hi551_1 hl551_1
  have HR551_2 := Aside0.mk hi551_2
  have HC551_2 := Aside0.mk hl551_2
  clear hi551_2 hl551_2
  replace p551 := eq_true p551
  replace q551 := eq_true q551
  have p552 : 0 ≤ (x5_1 : Int) := dt_
  have q552 : x5_1 < (l1.length : Int) := dt_
  obtain ⟨ad552, A552_1, c552_1, A552_2, c552_2, e552, hx552_0, hx552_1, hx552_2, hx552_3, hl552_1, hi552_1, hl552_2, hi552_2⟩ := at_T50 HR1.out x5_1 p552 q552
  have hw552_3 := hx552_3
  have hw552_2 := hx552_2
  have hw552_1 := hx552_1
  have hw552_0 := hx552_0
  cases e552
  replace hx552_0 := (HB.out.cell (World.block_lt_of_cell? w _ hx552_0)).trans hx552_0
  replace hx552_1 := (HB.out.cell (World.block_lt_of_cell? w _ hx552_1)).trans hx552_1
  replace hx552_2 := (HB.out.cell (World.block_lt_of_cell? w _ hx552_2)).trans hx552_2
  replace hx552_3 := (HB.out.cell (World.block_lt_of_cell? w _ hx552_3)).trans hx552_3
  have HR552_1 := Aside0.mk hi552_1
  have HC552_1 := Aside0.mk hl552_1
  clear hi552_1 hl552_1
  have HR552_2 := Aside0.mk hi552_2
  have HC552_2 := Aside0.mk hl552_2
  clear hi552_2 hl552_2
  replace p552 := eq_true p552
  replace q552 := eq_true q552
  refine start_ (n := 10) (S := fun w' => w'.cell? (ad551.add ((x5_1).toNat * 4)) = some (.int .i64 ((rd_T50 l0 x5_1).f0)) ∧ w'.cell? ⟨(ad551.add ((x5_1).toNat * 4)).block, (ad551.add ((x5_1).toNat * 4)).off + 1, none⟩ = some (.slice A551_1 ((rd_T50 l0 x5_1).f1).length c551_1) ∧ w'.cell? ⟨(ad551.add ((x5_1).toNat * 4)).block, (ad551.add ((x5_1).toNat * 4)).off + 2, none⟩ = some (.slice A551_2 ((rd_T50 l0 x5_1).f2).length c551_2) ∧ w'.cell? ⟨(ad551.add ((x5_1).toNat * 4)).block, (ad551.add ((x5_1).toNat * 4)).off + 3, none⟩ = some (.bool ((rd_T50 l0 x5_1).f3)) ∧ w'.cell? (ad552.add ((x5_1).toNat * 4)) = some (.int .i64 ((rd_T50 l1 x5_1).f0)) ∧ w'.cell? ⟨(ad552.add ((x5_1).toNat * 4)).block, (ad552.add ((x5_1).toNat * 4)).off + 1, none⟩ = some (.slice A552_1 ((rd_T50 l1 x5_1).f1).length c552_1) ∧ w'.cell? ⟨(ad552.add ((x5_1).toNat * 4)).block, (ad552.add ((x5_1).toNat * 4)).off + 2, none⟩ = some (.slice A552_2 ((rd_T50 l1 x5_1).f2).length c552_2) ∧ w'.cell? ⟨(ad552.add ((x5_1).toNat * 4)).block, (ad552.add ((x5_1).toNat * 4)).off + 3, none⟩ = some (.bool ((rd_T50 l1 x5_1).f3))) (ds := []) #[false, false, false, false, false, false, false, false, false, false] (by kernel_rfl) rfl rfl ⟨((HB.out.cell (World.block_lt_of_cell? w _ hw551_0)).trans hw551_0), ((HB.out.cell (World.block_lt_of_cell? w _ hw551_1)).trans hw551_1), ((HB.out.cell (World.block_lt_of_cell? w _ hw551_2)).trans hw551_2), ((HB.out.cell (World.block_lt_of_cell? w _ hw551_3)).trans hw551_3), ((HB.out.cell (World.block_lt_of_cell? w _ hw552_0)).trans hw552_0), ((HB.out.cell (World.block_lt_of_cell? w _ hw552_1)).trans hw552_1), ((HB.out.cell (World.block_lt_of_cell? w _ hw552_2)).trans hw552_2), ((HB.out.cell (World.block_lt_of_cell? w _ hw552_3)).trans hw552_3)⟩ (fun hHeld => ?_); refine with_tabW laws_eqBoxS.tab6 laws_eqBoxS.bits6 (fun HT_ HW_ => ?_)
  generalize wr.drew = w8 at HB HR551_1 HR551_2 HR552_1 HR552_2 hx551_0 hx551_1 hx551_2 hx551_3 hx552_0 hx552_1 hx552_2 hx552_3 hHeld ⊢
  refine pu_ 0 (some 17) (tf_ 1 10) HT_ ?_
  refine pu_ 1 (some 18) (tf_ 2 10) HT_ ?_
  refine pu_ 2 (some 19) (tf_ 3 10) HT_ ?_
  refine pu_ 4 (some 21) #[true, true, true, false, true, false, false, false, false, false] HT_ ?_
  refine pu_ 5 (some 22) #[true, true, true, false, true, true, false, false, false, false] HT_ ?_
  refine pu_ 6 (some 23) #[true, true, true, false, true, true, true, false, false, false] HT_ ?_
  refine ta_ 3 (some 20) (tf_ 7 10) HT_ HW_ hHeld ?_
  refine ta_ 7 (some 24) (tf_ 8 10) HT_ HW_ hHeld ?_
  refine on_ 8 (some 25) (tf_ 9 10) HT_ (fun K hK => ?_)
  refine goes_ Try.func29 (by kernel_rfl) rfl #[.agg #[.int .i64 ((rd_T50 l0 x5_1).f0), .slice A551_1 ((rd_T50 l0 x5_1).f1).length c551_1, .slice A551_2 ((rd_T50 l0 x5_1).f2).length c551_2, .bool ((rd_T50 l0 x5_1).f3)], .agg #[.int .i64 ((rd_T50 l1 x5_1).f0), .slice A552_1 ((rd_T50 l1 x5_1).f1).length c552_1, .slice A552_2 ((rd_T50 l1 x5_1).f2).length c552_2, .bool ((rd_T50 l1 x5_1).f3)]] (by rfl) rfl rfl mp_ ?_
  with_reducible refine (laws_eqBox.calls k1 ((rd_T50 l0 x5_1).f0) _ _ ((rd_T50 l0 x5_1).f1) _ _ ((rd_T50 l0 x5_1).f2) ((rd_T50 l0 x5_1).f3) ((rd_T50 l1 x5_1).f0) _ _ ((rd_T50 l1 x5_1).f1) _ _ ((rd_T50 l1 x5_1).f2) ((rd_T50 l1 x5_1).f3) t553 _ ?side1 ?side2 ?side3 ?side4 ?side5 ?side6 ?side7 ?side8 A7.out).mono ?_
  (case side1 => exact pc_ (Kd.C_below HR551_1.out HB.out))
  (case side2 => exact HC551_1.out)
  (case side3 => exact pc_ (Kd.C_below HR551_2.out HB.out))
  (case side4 => exact HC551_2.out)
  (case side5 => exact pc_ (Kd.C_below HR552_1.out HB.out))
  (case side6 => exact HC552_1.out)
  (case side7 => exact pc_ (Kd.C_below HR552_2.out HB.out))
  (case side8 => exact HC552_2.out)
  rintro e w9 ⟨rfl, hb⟩
  refine ⟨_, rfl, ?_⟩
  have n0_ := Aside0.mk (below_step (pb_ HB.out) hb)
  clear HB
  have HB := n0_
  clear n0_
  (try clear hb)
  (try clear hb2)
  (try clear hk)
  (try clear hi)
  refine hK.out _ _ ⟨((HB.out.cell (World.block_lt_of_cell? w _ hw551_0)).trans hw551_0), ((HB.out.cell (World.block_lt_of_cell? w _ hw551_1)).trans hw551_1), ((HB.out.cell (World.block_lt_of_cell? w _ hw551_2)).trans hw551_2), ((HB.out.cell (World.block_lt_of_cell? w _ hw551_3)).trans hw551_3), ((HB.out.cell (World.block_lt_of_cell? w _ hw552_0)).trans hw552_0), ((HB.out.cell (World.block_lt_of_cell? w _ hw552_1)).trans hw552_1), ((HB.out.cell (World.block_lt_of_cell? w _ hw552_2)).trans hw552_2), ((HB.out.cell (World.block_lt_of_cell? w _ hw552_3)).trans hw552_3)⟩ (fun hHeld => ?_)
  clear hK K
  refine no_ (some 25) ?_
  refine pu_ 9 (some 26) (tf_ 10 10) HT_ ?_
  refine done_ (done_of HT_.out (by kernel_rfl)) ?_
  go_upto_if 26 with (fail)
  have H := HS_.out
  clear HS_
  by_cases c10 : t553 = true
  rotate_left
  · replace c10 := Bool.eq_false_iff.mpr c10
    subst c10
    rw [if_neg (show ¬ (false = true) by decide)] at H
    obtain rfl := Option.some.inj H
    go_wp2
    go_ret
    exact ⟨er_, pb_ HB.out⟩
  subst c10
  rw [if_pos rfl] at H
  have H' := Aside0.mk H
  clear H
  go_wp2
  go_roundg k1
  case measure => have := HK1.out; omega
  case rel => exact ⟨(wrap64 (x5_1 + 1)), el_, H', ⟨by have := HK1.out; omega⟩, ⟨pb_ HB.out⟩⟩

end Go.Proofs.Ytpoandlbmaljhaa.Print
