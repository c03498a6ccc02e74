-- Written by a program of this session (printx.py) out of the translation; Lean checks it.
import Derived.Test.YtpoandlbmaljhaaPrint0
import Derived.Test.YtpoandlbmaljhaaPrint7
import Derived.Test.YtpoandlbmaljhaaPrint8
import Derived.Test.YtpoandlbmaljhaaPrint11
import Derived.Test.YtpoandlbmaljhaaPrint12
namespace Go.Proofs.Ytpoandlbmaljhaa.Print
open Go.RowKit Go.Proofs.YtpoandlbmaljhaaW.PrintWords Go.Proofs.YtpoandlbmaljhaaW.PrintLast Go.Proofs.YtpoandlbmaljhaaW.PrintMore Go.Proofs.Ytpoandlbmaljhaa.Short
attribute [local go_sem] max2_int min2_int max_two min_two max_three min_three max_four min_four   -- for this text's walks alone
set_option linter.unusedVariables false
set_option linter.unusedSimpArgs false

/-! ### impl_LostTags: function 46 -/
mutual
def impl_LostTags.j0 : Nat → List (S50) → List Int → List (S69) → List Int → Bool → Option (List Int)
  | 0, _, _, _, _, _ => none
  | k + 1, x0, x1, x2, x7, x19 => if x19 = true then (some x7) else (impl_LostTags.l0 k x0 x1 x7 x2 (x2.length : Int) 0)
def impl_LostTags.l0 : Nat → List (S50) → List Int → List Int → List (S69) → Int → Int → Option (List Int)
  | 0, _, _, _, _, _, _ => none
  | k + 1, x0, x1, x7, x21, x22, x23 => if x23 < x22 then (if 0 ≤ x23 then (if x23 < (x21.length : Int) then (if 1 ≤ (x1.length : Int) then ((impl_PassesWhole.f k (x1.take 1) (([(⟨(rd_T69 x21 x23).f0, (rd_T69 x21 x23).f1⟩ : S69)] : List (S69))) x0).bind fun t507 => (if t507 = true then (impl_LostTags.l0 k x0 x1 x7 x21 x22 (wrap64 (x23 + 1))) else (if x7.length < 17592186044416 then (impl_LostTags.l0 k x0 x1 (x7 ++ [(rd_T69 x21 x23).f0]) x21 x22 (wrap64 (x23 + 1))) else (none)))) else (none)) else (none)) else (none)) else (some x7)
end
def impl_LostTags.f (k : Nat) (l0 : List (S50)) (l1 : List Int) (l2 : List (S69)) : Option (List Int) := (some (([] : List Int) : List Int)).bind fun y496 => ((impl_IsOpenPath.f k l0 l1).bind fun t499 => (if t499 = true then ((impl_AreExts.f k l2).bind fun t500 => (impl_LostTags.j0 k l0 l1 l2 y496 (!t500))) else (impl_LostTags.j0 k l0 l1 l2 y496 true)))
theorem impl_LostTags.mono_l : ∀ k, (∀ y0 y1 y2 y3 y4, LeO (impl_LostTags.j0 k y0 y1 y2 y3 y4) (impl_LostTags.j0 (k + 1) y0 y1 y2 y3 y4)) ∧ (∀ y0 y1 y2 y3 y4 y5, LeO (impl_LostTags.l0 k y0 y1 y2 y3 y4 y5) (impl_LostTags.l0 (k + 1) y0 y1 y2 y3 y4 y5))
  | 0 => ⟨fun _ _ _ _ _ r h => by simp [impl_LostTags.j0] at h, fun _ _ _ _ _ _ r h => by simp [impl_LostTags.l0] at h⟩
  | k + 1 => by
    obtain ⟨ih0, ih1⟩ := impl_LostTags.mono_l k
    refine ⟨?_, ?_⟩
    · intro y0 y1 y2 y3 y4
      unfold impl_LostTags.j0
      repeat' first
      | (with_reducible exact ih0 _ _ _ _ _)
      | (with_reducible exact ih1 _ _ _ _ _ _)
      | (with_reducible exact impl_AreExts.mono _ _)
      | (with_reducible exact impl_IsOpenPath.mono _ _ _)
      | (with_reducible exact impl_PassesWhole.mono _ _ _ _)
      | (with_reducible exact LeO.refl _)
      | (with_reducible exact LeO.none _)
      | (with_reducible refine LeO.ite ?_ ?_)
      | (with_reducible refine LeO.bind ?_ (fun _ => ?_))
      | exact ih0 _ _ _ _ _
      | exact ih1 _ _ _ _ _ _
      | exact impl_AreExts.mono _ _
      | exact impl_IsOpenPath.mono _ _ _
      | exact impl_PassesWhole.mono _ _ _ _
      | exact LeO.none _
      | refine LeO.ite ?_ ?_
      | refine LeO.bind ?_ (fun _ => ?_)
    · intro y0 y1 y2 y3 y4 y5
      unfold impl_LostTags.l0
      repeat' first
      | (with_reducible exact ih0 _ _ _ _ _)
      | (with_reducible exact ih1 _ _ _ _ _ _)
      | (with_reducible exact impl_AreExts.mono _ _)
      | (with_reducible exact impl_IsOpenPath.mono _ _ _)
      | (with_reducible exact impl_PassesWhole.mono _ _ _ _)
      | (with_reducible exact LeO.refl _)
      | (with_reducible exact LeO.none _)
      | (with_reducible refine LeO.ite ?_ ?_)
      | (with_reducible refine LeO.bind ?_ (fun _ => ?_))
      | exact ih0 _ _ _ _ _
      | exact ih1 _ _ _ _ _ _
      | exact impl_AreExts.mono _ _
      | exact impl_IsOpenPath.mono _ _ _
      | exact impl_PassesWhole.mono _ _ _ _
      | exact LeO.none _
      | refine LeO.ite ?_ ?_
      | refine LeO.bind ?_ (fun _ => ?_)
theorem impl_LostTags.mono : ∀ a0 a1 a2 k, LeO (impl_LostTags.f k a0 a1 a2) (impl_LostTags.f (k + 1) a0 a1 a2) := by
  intro a0 a1 a2 k
  obtain ⟨ih0, ih1⟩ := impl_LostTags.mono_l k
  unfold impl_LostTags.f
  repeat' first
      | (with_reducible exact ih0 _ _ _ _ _)
      | (with_reducible exact ih1 _ _ _ _ _ _)
      | (with_reducible exact impl_AreExts.mono _ _)
      | (with_reducible exact impl_IsOpenPath.mono _ _ _)
      | (with_reducible exact impl_PassesWhole.mono _ _ _ _)
      | (with_reducible exact LeO.refl _)
      | (with_reducible exact LeO.none _)
      | (with_reducible refine LeO.ite ?_ ?_)
      | (with_reducible refine LeO.bind ?_ (fun _ => ?_))
      | exact ih0 _ _ _ _ _
      | exact ih1 _ _ _ _ _ _
      | exact impl_AreExts.mono _ _
      | exact impl_IsOpenPath.mono _ _ _
      | exact impl_PassesWhole.mono _ _ _ _
      | exact LeO.none _
      | refine LeO.ite ?_ ?_
      | refine LeO.bind ?_ (fun _ => ?_)
def impl_LostTags.T7 : Bool × List (List Nat × List Nat) := (true, [([], []), ([0], [0]), ([], []), ([2], [2]), ([1, 3], [1, 3]), ([], []), ([4, 5], [4, 5]), ([6], [6])])
def impl_LostTags.B7 : List Nat := [0, 1, 0, 4, 15, 0, 63, 127]
theorem impl_LostTags.tab7 : rtab .any (opsOf Try.f46 7) = impl_LostTags.T7 := by kernel_rfl
theorem impl_LostTags.bits7 : waitsOk impl_LostTags.T7.2 impl_LostTags.B7 = true := by kernel_rfl
set_option maxHeartbeats 8000000 in
set_option maxRecDepth 100000 in
theorem impl_LostTags.calls (k : Nat) (A0 : Option Addr) (c0 : Nat) (l0 : List (S50)) (A1 : Option Addr) (c1 : Nat) (l1 : List Int) (P2_ : Nat → Prop) (A2 : Option Addr) (c2 : Nat) (l2 : List (S69)) (r : List Int) (w : World) (hr0 : Kd.C k50 w A0 l0.length l0) (hc0 : l0.length ≤ c0) (hr1 : Kd.C (Kd.int .i64) w A1 l1.length l1) (hc1 : l1.length ≤ c1) (hs2 : Kd.V k69 69 w w.heap.size (fun k_ => P2_ k_) (.slice A2 l2.length c2) l2) (h : impl_LostTags.f k l0 l1 l2 = some r) :
    Calls Try.prog 46 #[.slice A0 l0.length c0, .slice A1 l1.length c1, .slice A2 l2.length c2] w fun e w' => ∃ v0_ : Value, e = .returned (v0_) ∧ Kd.R (Kd.int .i64) 3 w' w.heap.size (fun k_ => (w.heap.size ≤ k_)) v0_ r ∧ Below w.heap.size w w' := by
  have hu69 := Try.underlying69
  have hu63 := Try.underlying63
  have HR0 := Aside0.mk hr0
  have HC0 := Aside0.mk hc0
  clear hr0 hc0
  have HR1 := Aside0.mk hr1
  have HC1 := Aside0.mk hc1
  clear hr1 hc1
  have HO2 := Aside0.mk (show Kd.V k69 69 w w.heap.size (fun k_ => (P2_ k_ ∨ w.heap.size ≤ k_)) (.slice A2 l2.length c2) l2 from Kd.V_mono hs2 (fun k_ hk => .inl hk))
  have HB := Aside0.mk (Below.refl w.heap.size w)
  have H : ((some (([] : List Int) : List Int)).bind fun y496 => ((impl_IsOpenPath.f k l0 l1).bind fun t499 => (if t499 = true then ((impl_AreExts.f k l2).bind fun t500 => (impl_LostTags.j0 k l0 l1 l2 y496 (!t500))) else (impl_LostTags.j0 k l0 l1 l2 y496 true)))) = some r := h
  clear h
  obtain ⟨y496, hy496⟩ : ∃ y_ : List Int, y_ = (([] : List Int)) := ⟨_, rfl⟩
  replace H : ((impl_IsOpenPath.f k l0 l1).bind fun t499 => (if t499 = true then ((impl_AreExts.f k l2).bind fun t500 => (impl_LostTags.j0 k l0 l1 l2 y496 (!t500))) else (impl_LostTags.j0 k l0 l1 l2 y496 true))) = some r := by first | (rw [hy496]; with_reducible exact H) | (have H2_ := (Option.bind_some _ _).symm.trans H; rw [hy496]; with_reducible exact H2_) | (have H2_ := (Option.bind_some _ _).symm.trans H; with_reducible exact H2_) | with_reducible exact H | (rw [hy496]; exact H) | exact H
  have Ny496 := Aside0.mk hy496
  clear hy496
  have HC4 := Aside0.mk H
  clear H
  go_enter Try.func46, Try.ntmps46
  go_upto_region 2 with (first | ((with_reducible refine gate_dst (N := 10) rfl ?_); refine Kd.R_lit (Kd.int .i64) _ 3 ?hg (N := 10) ?hd (xs := ([] : List Int)) (inner := []) (ok := fun _ => True) (okp := fun _ => True) ?hr ?hp (fun _ hk => hk) trivial (Below.refl _ _) (Nat.le_refl _) (by simp) ?_; (case hd => rfl); (case hg => rfl); (case hr => first | (go_simp; done) | (go_simp; rfl)); (case hp => exact (Reps.none _ _)); intro v497 w5 ho6 hb hg_ hnew_; clear hg_ hnew_; (first | rw [← Ny496.out] at ho6 | (simp only [Int.reduceToNat] at ho6; rw [← Ny496.out] at ho6)); have n0_ := Aside0.mk (Kd.V_elder' (by (with_reducible repeat (first | apply Kd.V_alloc | apply Kd.V_drewN | apply Kd.V_drew)); exact HO2.out) (Kd.R_base ho6) hb); have n1_ := Aside0.mk (Kd.R_lower (Kd.R_newM (M := fun k_ => (w.heap.size ≤ k_)) ho6 (below_size (pb_ HB.out)) (fun k_ h_ => h_)) (below_size (pb_ HB.out))); have n2_ := Aside0.mk (below_step (pb_ HB.out) hb); clear HO2; clear HB; have HO2 := n0_; have HO498 := n1_; have HB := n2_; clear n0_ n1_ n2_; clear hb ho6))
  (try simp only [Act.put, List.setIfInBounds_toArray, List.set_cons_zero, List.set_cons_succ])
  go_cut [19] (fun v19 wc => ∃ (kq : Nat) (x19_3 : Bool), v19 = .bool x19_3 ∧ Aside0 (impl_LostTags.j0 kq l0 l1 l2 y496 x19_3 = some r) ∧ Aside0 (kq ≤ k) ∧ Aside0 (Kd.V k69 69 wc w.heap.size (fun k_ => (P2_ k_ ∨ w.heap.size ≤ k_) ∧ some k_ ≠ (v497 : Value).ownBlock) (.slice A2 l2.length c2) l2) ∧ Aside0 (Kd.R (Kd.int .i64) 3 wc w.heap.size (fun k_ => (w.heap.size ≤ k_)) v497 y496) ∧ Aside0 (Below w.heap.size w wc))
  case first =>
    have H := HC4.out
    clear HC4
    replace H := Option.bind_eq_some_iff.mp H
    obtain ⟨t499, A70, H⟩ := H
    (try dsimp only at H)
    have A7 := Aside0.mk A70
    clear A70
    by_cases c8 : t499 = true
    rotate_left
    · replace c8 := Bool.eq_false_iff.mpr c8
      subst c8
      rw [if_neg (show ¬ (false = true) by decide)] at H
      have H' := Aside0.mk H
      clear H
      go_wp2_with (first | ((with_reducible refine gate_callee (f := 72) rfl ?_); refine goesL_ (some 13) rfl rfl Try.func72 (by kernel_rfl) rfl #[.slice A0 l0.length c0, .slice A1 l1.length c1] rfl mp_ ?_; (with_reducible refine (impl_IsOpenPath.calls k _ _ l0 _ _ l1 false _ ?side1 ?side2 ?side3 ?side4 A7.out).mono ?_); (case side1 => exact pc_ (Kd.C_below HR0.out HB.out)); (case side2 => exact HC0.out); (case side3 => exact pc_ (Kd.C_below HR1.out HB.out)); (case side4 => exact HC1.out); rintro e w9 ⟨rfl, hb⟩; refine ⟨_, rfl, ?_⟩; have n0_ := Aside0.mk (Kd.V_below (by (with_reducible repeat (first | apply Kd.V_alloc | apply Kd.V_drewN | apply Kd.V_drew)); exact HO2.out) hb); have n1_ := Aside0.mk (Kd.R_below (pr_ HO498.out) hb); have n2_ := Aside0.mk (below_step (pb_ HB.out) hb); clear HO2; clear HO498; clear HB; have HO2 := n0_; have HO498 := n1_; have HB := n2_; clear n0_ n1_ n2_; (try clear hb); (try clear hb2); (try clear hk); (try clear hi)))
      go_meet
      case rel => exact ⟨_, (true), el_, H', ⟨by first | omega | exact Nat.le_refl _⟩, ⟨by (with_reducible repeat (first | apply Kd.V_alloc | apply Kd.V_drewN | apply Kd.V_drew)); exact HO2.out⟩, ⟨pr_ (Kd.R_mono HO498.out (fun _ hk => hk.1))⟩, ⟨pb_ HB.out⟩⟩
    subst c8
    rw [if_pos rfl] at H
    replace H := Option.bind_eq_some_iff.mp H
    obtain ⟨t500, A100, H⟩ := H
    replace H : (impl_LostTags.j0 k l0 l1 l2 y496 (!t500)) = some r := H
    have A10 := Aside0.mk A100
    clear A100
    have H' := Aside0.mk H
    clear H
    go_wp2_with (first | ((with_reducible refine gate_callee (f := 72) rfl ?_); refine goesL_ (some 13) rfl rfl Try.func72 (by kernel_rfl) rfl #[.slice A0 l0.length c0, .slice A1 l1.length c1] rfl mp_ ?_; (with_reducible refine (impl_IsOpenPath.calls k _ _ l0 _ _ l1 true _ ?side1 ?side2 ?side3 ?side4 A7.out).mono ?_); (case side1 => exact pc_ (Kd.C_below HR0.out HB.out)); (case side2 => exact HC0.out); (case side3 => exact pc_ (Kd.C_below HR1.out HB.out)); (case side4 => exact HC1.out); rintro e w11 ⟨rfl, hb⟩; refine ⟨_, rfl, ?_⟩; have n0_ := Aside0.mk (Kd.V_below (by (with_reducible repeat (first | apply Kd.V_alloc | apply Kd.V_drewN | apply Kd.V_drew)); exact HO2.out) hb); have n1_ := Aside0.mk (Kd.R_below (pr_ HO498.out) hb); have n2_ := Aside0.mk (below_step (pb_ HB.out) hb); clear HO2; clear HO498; clear HB; have HO2 := n0_; have HO498 := n1_; have HB := n2_; clear n0_ n1_ n2_; (try clear hb); (try clear hb2); (try clear hk); (try clear hi)) | (go_at_call 73; (with_reducible refine (impl_AreExts.calls k _ _ l2 t500 _ ?side1 ?side2 A10.out).mono ?_); (case side1 => exact pc_ ((Kd.V_reads' HO2.out).2.2)); (case side2 => exact (Kd.V_reads' HO2.out).2.1); rintro e w12 ⟨rfl, hb⟩; have n0_ := Aside0.mk (Kd.V_below (by (with_reducible repeat (first | apply Kd.V_alloc | apply Kd.V_drewN | apply Kd.V_drew)); exact HO2.out) hb); have n1_ := Aside0.mk (Kd.R_below (pr_ HO498.out) hb); have n2_ := Aside0.mk (below_step (pb_ HB.out) hb); clear HO2; clear HO498; clear HB; have HO2 := n0_; have HO498 := n1_; have HB := n2_; clear n0_ n1_ n2_; (try clear hb); (try clear hb2); (try clear hk); (try clear hi)))
    go_meet
    case rel => exact ⟨_, (!t500), el_, H', ⟨by first | omega | exact Nat.le_refl _⟩, ⟨by (with_reducible repeat (first | apply Kd.V_alloc | apply Kd.V_drewN | apply Kd.V_drew)); exact HO2.out⟩, ⟨pr_ (Kd.R_mono HO498.out (fun _ hk => hk.1))⟩, ⟨pb_ HB.out⟩⟩
  clear HC4
  try clear c1
  try clear c2
  try clear p2
  try clear c4
  try clear c7
  try clear c8
  obtain ⟨kq, x19_3, rfl, HA, HJ3, HO_2, HO_7, HB⟩ := hcut
  rcases kq with _ | kj3
  · exact absurd HA.out (by simp [impl_LostTags.j0])
  have H := HA.out
  clear HA
  simp only [impl_LostTags.j0] at H
  by_cases c13 : x19_3 = true
  · subst c13
    rw [if_pos rfl] at H
    obtain rfl := Option.some.inj H
    go_wp2
    go_ret
    exact ⟨_, er_, pr_ HO_7.out, pb_ HB.out⟩
  replace c13 := Bool.eq_false_iff.mpr c13
  subst c13
  rw [if_neg (show ¬ (false = true) by decide)] at H
  have H' := Aside0.mk H
  clear H
  go_wp2
  go_loopg [7, 23] kj3 (fun kq v7 v23 w' => ∃ (x7_2 : List Int) (x23_2 : Int), v23 = .int .i64 x23_2 ∧ Aside0 (impl_LostTags.l0 kq l0 l1 x7_2 l2 (l2.length : Int) x23_2 = some r) ∧ Aside0 (kq ≤ kj3) ∧ Aside0 (Kd.R (Kd.int .i64) 3 w' w.heap.size (fun k_ => (w.heap.size ≤ k_)) v7 x7_2) ∧ Aside0 (Kd.V k69 69 w' w.heap.size (fun k_ => (P2_ k_ ∨ w.heap.size ≤ k_) ∧ some k_ ≠ (v7 : Value).ownBlock) (.slice A2 l2.length c2) l2) ∧ Aside0 (Below w.heap.size w w'))
  case atStart => exact ⟨(y496), (0), el_, H', ⟨Nat.le_refl _⟩, ⟨pr_ HO_7.out⟩, ⟨by (with_reducible repeat (first | apply Kd.V_alloc | apply Kd.V_drewN | apply Kd.V_drew)); exact HO_2.out⟩, ⟨pb_ HB.out⟩⟩
  clear H'
  try clear c1
  try clear c2
  try clear p2
  try clear c4
  try clear c7
  try clear c8
  try clear c13
  try clear p2
  obtain ⟨x7_2, x23_2, rfl, HA, HK2, HO_7, HO_21, HB⟩ := hrel
  rcases gk with _ | k2
  · exact absurd HA.out (by simp [impl_LostTags.l0])
  have H := HA.out
  clear HA
  simp only [impl_LostTags.l0] at H
  by_cases c14 : x23_2 < (l2.length : Int)
  rotate_left
  · rw [if_neg c14] at H
    have c14b0 : decide (x23_2 < (l2.length : Int)) = false := decide_eq_false c14
    clear c14
    obtain rfl := Option.some.inj H
    go_wp2
    go_ret
    exact ⟨_, er_, pr_ HO_7.out, pb_ HB.out⟩
  rw [if_pos c14] at H
  have c14b0 : decide (x23_2 < (l2.length : Int)) = true := decide_eq_true c14
  clear c14
  by_cases c15 : 0 ≤ x23_2
  rotate_left
  · rw [if_neg c15] at H
    exact absurd H (by simp)
  rw [if_pos c15] at H
  have c15b0 : decide (0 ≤ x23_2) = true := decide_eq_true c15
  clear c15
  by_cases c16 : x23_2 < (l2.length : Int)
  rotate_left
  · rw [if_neg c16] at H
    exact absurd H (by simp)
  rw [if_pos c16] at H
  have c16b0 : decide (x23_2 < (l2.length : Int)) = true := decide_eq_true c16
  clear c16
  have HS_ := Aside0.mk H
  clear H
  have p501 : 0 ≤ (x23_2 : Int) := dt_
  have q501 : x23_2 < (l2.length : Int) := dt_
  obtain ⟨ad501, A501_1, c501_1, e501, hx501_0, hx501_1, hl501_1, hi501_1⟩ := at_T69 (Kd.V_reads' HO_21.out).2.2 x23_2 p501 q501
  cases e501
  obtain ⟨ce501, hce501, hMe501, hcc501⟩ := Kd.V_get HO_21.out z69 x23_2 p501 (by first | exact q501 | exact dt_ | (have e_ := (Kd.V_reads' HO_21.out).1; omega))
  obtain ⟨ua501_1, uc501_1, rfl, ul501_1, ge501_1⟩ := k69_openF hMe501
  have hv501_1 := hcc501 1 _ rfl
  rw [add_field _ _ 1 (by omega)] at hv501_1
  replace hv501_1 := Option.some.inj (hv501_1.symm.trans hx501_1)
  injection hv501_1 with hva_ hvn_ hvc_
  rw [hva_] at ge501_1
  rw [hvc_] at ul501_1
  have HL501_1 := Aside0.mk (show Kd.V (Kd.int .i64) 3 _ w.heap.size _ _ ((rd_T69 l2 x23_2).f1) from Kd.V_mk ul501_1 ge501_1)
  clear hva_ hvn_ hvc_ ge501_1 ul501_1
  clear hcc501 hce501
  have HR501_1 := Aside0.mk hi501_1
  have HC501_1 := Aside0.mk hl501_1
  clear hi501_1 hl501_1
  replace p501 := eq_true p501
  replace q501 := eq_true q501
  go_upto_region 7 with (first | ((with_reducible refine gate_dst (N := 9) rfl ?_); refine box_event ?hg (N := 9) ?hd (cs := #[.int .i64 0, .slice none 0 0]) (t := 69) ?hr ?_; (case hd => rfl); (case hg => rfl); (case hr => first | (go_simp; done) | (go_simp; rfl)); intro gb502 hg w17 hbox hb; have n0_ := Aside0.mk (Kd.R_below (pr_ HO_7.out) hb); have n1_ := Aside0.mk (Kd.V_below (Kd.V_elderB (by (with_reducible repeat (first | apply Kd.V_alloc | apply Kd.V_drewN | apply Kd.V_drew)); exact HO_21.out) gb502 (Nat.le_of_eq hg.symm)) hb); have n2_ := Aside0.mk (Kd.V_below (Kd.V_elderB (by (with_reducible repeat (first | apply Kd.V_alloc | apply Kd.V_drewN | apply Kd.V_drew)); exact HL501_1.out) gb502 (Nat.le_of_eq hg.symm)) hb); have n3_ := Aside0.mk (Kd.C_below (by repeat (first | (with_reducible exact HR501_1.out) | (with_reducible refine Kd.C_alloc ?_ _) | (with_reducible refine Kd.C_drewN ?_ _) | (with_reducible refine Kd.C_drew ?_) | exact HR501_1.out)) hb); have n4_ := Aside0.mk (below_step (pb_ HB.out) hb); have n5_ := Aside0.mk (hbox); have n6_ := Aside0.mk ((by rw [hg]; exact (below_size (pb_ HB.out)) : w.heap.size ≤ gb502)); have n7_ := Aside0.mk ((by rw [hg]; exact (below_size (pb_ HB.out)) : w.heap.size ≤ gb502)); clear HO_7; clear HO_21; clear HL501_1; clear HR501_1; clear HB; have HO_7 := n0_; have HO_21 := n1_; have HL501_1 := n2_; have HR501_1 := n3_; have HB := n4_; have BK502 := n5_; have GW502 := n6_; have GE502 := n7_; clear n0_ n1_ n2_ n3_ n4_ n5_ n6_ n7_; clear hb hbox hg; have hcz18_0 : w17.cell? ⟨gb502, 0, none⟩ = some (.int .i64 0) := (blk_cell BK502.out 0).trans rfl; have hcz18_1 : w17.cell? ⟨gb502, 1, none⟩ = some (.slice none 0 0) := (blk_cell BK502.out 1).trans rfl; have hfz18_0 := blk_frozen BK502.out 0; have hfz18_1 := blk_frozen BK502.out 1))
  (try simp only [Act.put, List.setIfInBounds_toArray, List.set_cons_zero, List.set_cons_succ])
  have H := HS_.out
  clear HS_
  by_cases c19 : 1 ≤ (l1.length : Int)
  rotate_left
  · rw [if_neg c19] at H
    exact absurd H (by simp)
  rw [if_pos c19] at H
  have c19b0 := eq_true c19
  have c19b1 : decide (1 ≤ (l1.length : Int)) = true := decide_eq_true c19
  clear c19
  obtain ⟨y504, hy504⟩ : ∃ y_ : List (S69), y_ = (([(⟨(rd_T69 l2 x23_2).f0, (rd_T69 l2 x23_2).f1⟩ : S69)] : List (S69))) := ⟨_, rfl⟩
  replace H : ((impl_PassesWhole.f k2 (l1.take 1) y504 l0).bind fun t507 => (if t507 = true then (impl_LostTags.l0 k2 l0 l1 x7_2 l2 (l2.length : Int) (wrap64 (x23_2 + 1))) else (if x7_2.length < 17592186044416 then (impl_LostTags.l0 k2 l0 l1 (x7_2 ++ [(rd_T69 l2 x23_2).f0]) l2 (l2.length : Int) (wrap64 (x23_2 + 1))) else (none)))) = some r := by first | (rw [hy504]; with_reducible exact H) | (have H2_ := (Option.bind_some _ _).symm.trans H; rw [hy504]; with_reducible exact H2_) | (have H2_ := (Option.bind_some _ _).symm.trans H; with_reducible exact H2_) | with_reducible exact H | (rw [hy504]; exact H) | exact H
  have Ny504 := Aside0.mk hy504
  clear hy504
  replace H := Option.bind_eq_some_iff.mp H
  obtain ⟨t507, A200, H⟩ := H
  (try dsimp only at H)
  have A20 := Aside0.mk A200
  clear A200
  have HS_ := Aside0.mk H
  clear H
  try go_wp2
  have n0_ : Aside0 (Kd.R (Kd.int .i64) 3 ((w17.setCell ⟨gb502, 0, none⟩ (.int .i64 ((rd_T69 l2 x23_2).f0))).setCell ⟨gb502, 1, none⟩ (.slice A501_1 ((rd_T69 l2 x23_2).f1).length c501_1)) w.heap.size (fun k_ => (w.heap.size ≤ k_)) u7 x7_2) := ⟨pr_ (Kd.R_mono (Kd.R_far (p := ⟨gb502, 1, none⟩) (Kd.R_far (p := ⟨gb502, 0, none⟩) (Kd.R_types HO_7.out BK502.out (by decide)) (fun _ hk => hk.2) (.int .i64 ((rd_T69 l2 x23_2).f0))) (fun _ hk => hk.2) (.slice A501_1 ((rd_T69 l2 x23_2).f1).length c501_1)) (fun _ hk => hk.1))⟩
  have n1_ : Aside0 (Kd.V k69 69 ((w17.setCell ⟨gb502, 0, none⟩ (.int .i64 ((rd_T69 l2 x23_2).f0))).setCell ⟨gb502, 1, none⟩ (.slice A501_1 ((rd_T69 l2 x23_2).f1).length c501_1)) w.heap.size (fun k_ => (P2_ k_ ∨ w.heap.size ≤ k_) ∧ some k_ ≠ (u7 : Value).ownBlock ∧ k_ ≠ gb502) (.slice (some ad501) l2.length c2) l2) := ⟨by (with_reducible repeat (first | apply Kd.V_alloc | apply Kd.V_drewN | apply Kd.V_drew)); exact Kd.V_mono (Kd.V_far (p := ⟨gb502, 1, none⟩) (Kd.V_far (p := ⟨gb502, 0, none⟩) (Kd.V_mono HO_21.out (fun k_ hk => (⟨hk, hk.2⟩ : _ ∧ k_ ≠ gb502))) (fun _ hk => hk.2) (.int .i64 ((rd_T69 l2 x23_2).f0))) (fun _ hk => hk.2) (.slice A501_1 ((rd_T69 l2 x23_2).f1).length c501_1)) (fun _ hk => ⟨hk.1.1.1, ⟨hk.1.1.2, hk.1.2⟩⟩)⟩
  have n2_ : Aside0 (Kd.V (Kd.int .i64) 3 ((w17.setCell ⟨gb502, 0, none⟩ (.int .i64 ((rd_T69 l2 x23_2).f0))).setCell ⟨gb502, 1, none⟩ (.slice A501_1 ((rd_T69 l2 x23_2).f1).length c501_1)) w.heap.size (fun k_ => (P2_ k_ ∨ w.heap.size ≤ k_) ∧ some k_ ≠ (u7 : Value).ownBlock ∧ k_ ≠ gb502) (.slice A501_1 ((rd_T69 l2 x23_2).f1).length c501_1) ((rd_T69 l2 x23_2).f1)) := ⟨by (with_reducible repeat (first | apply Kd.V_alloc | apply Kd.V_drewN | apply Kd.V_drew)); exact Kd.V_mono (Kd.V_far (p := ⟨gb502, 1, none⟩) (Kd.V_far (p := ⟨gb502, 0, none⟩) (Kd.V_mono HL501_1.out (fun k_ hk => (⟨hk, hk.2⟩ : _ ∧ k_ ≠ gb502))) (fun _ hk => hk.2) (.int .i64 ((rd_T69 l2 x23_2).f0))) (fun _ hk => hk.2) (.slice A501_1 ((rd_T69 l2 x23_2).f1).length c501_1)) (fun _ hk => ⟨hk.1.1.1, ⟨hk.1.1.2, hk.1.2⟩⟩)⟩
  have n3_ : Aside0 (((w17.setCell ⟨gb502, 0, none⟩ (.int .i64 ((rd_T69 l2 x23_2).f0))).setCell ⟨gb502, 1, none⟩ (.slice A501_1 ((rd_T69 l2 x23_2).f1).length c501_1)).heap[gb502]? = some (.cells #[.int .i64 ((rd_T69 l2 x23_2).f0), .slice A501_1 ((rd_T69 l2 x23_2).f1).length c501_1] 69 (0, 0))) := ⟨pp_ BK502.out⟩
  have n4_ : Aside0 (Below w.heap.size w ((w17.setCell ⟨gb502, 0, none⟩ (.int .i64 ((rd_T69 l2 x23_2).f0))).setCell ⟨gb502, 1, none⟩ (.slice A501_1 ((rd_T69 l2 x23_2).f1).length c501_1))) := ⟨pb1_ HB.out GE502.out⟩
  (try clear HO_7)
  (try clear HO_21)
  (try clear HL501_1)
  (try clear BK502)
  (try clear HB)
  generalize ((w17.setCell ⟨gb502, 0, none⟩ (.int .i64 ((rd_T69 l2 x23_2).f0))).setCell ⟨gb502, 1, none⟩ (.slice A501_1 ((rd_T69 l2 x23_2).f1).length c501_1)) = w21 at n0_ n1_ n2_ n3_ n4_ ⊢
  have HO_7 := n0_
  have HO_21 := n1_
  have HL501_1 := n2_
  have BK502 := n3_
  have HB := n4_
  clear n0_ n1_ n2_ n3_ n4_
  have n0_ := Aside0.mk (Kd.R_drew HO_7.out)
  have n1_ := Aside0.mk (Kd.V_drew HO_21.out)
  have n2_ := Aside0.mk (Kd.V_drew HL501_1.out)
  have n3_ := Aside0.mk (blk_drew BK502.out)
  have n4_ := Aside0.mk (below_drew1 HB.out)
  clear HO_7
  clear HO_21
  clear HL501_1
  clear BK502
  clear HB
  have HO_7 := n0_
  have HO_21 := n1_
  have HL501_1 := n2_
  have BK502 := n3_
  have HB := n4_
  clear n0_ n1_ n2_ n3_ n4_
  obtain ⟨i023, hi023, _, hsz23, _⟩ := info_parts info3
  obtain ⟨hcut23, hA23, hC23⟩ := print_take_of (P := Try.prog) (Value.int .i64) 0 23 3 .i64 Try.underlying23 hi023 hsz23 A1 c1 l1 1 (by omega) dt_ HC1.out
  have HR503 := Aside0.mk (Kd.C_of_reads (h1 := fun _ => rfl) (hA23 _ (Kd.reads_of_C HR1.out)))
  have HC503 := Aside0.mk hC23
  clear hA23 hC23 hi023 hsz23
  refine start_ (n := 8) (S := fun w' => w'.cell? ⟨gb502, 0, none⟩ = some (.int .i64 ((rd_T69 l2 x23_2).f0)) ∧ w'.cell? ⟨gb502, 1, none⟩ = some (.slice A501_1 ((rd_T69 l2 x23_2).f1).length c501_1)) (ds := []) #[false, false, false, false, false, false, false, false] (by kernel_rfl) rfl rfl ⟨(blk_cell BK502.out 0).trans rfl, (blk_cell BK502.out 1).trans rfl⟩ (fun hHeld => ?_); refine with_tabW impl_LostTags.tab7 impl_LostTags.bits7 (fun HT_ HW_ => ?_)
  generalize w21.drew = w22 at HO_7 HO_21 HL501_1 BK502 HB HR503 hHeld ⊢
  refine pu_ 0 (some 27) (tf_ 1 8) HT_ ?_
  refine pu_ 1 (some 28) (tf_ 2 8) HT_ ?_
  refine pu_ 5 (some 32) #[true, true, false, false, false, true, false, false] HT_ ?_
  refine ta_ 2 (some 29) #[true, true, true, false, false, true, false, false] HT_ HW_ hHeld ?_
  refine on_ 3 (some 30) #[true, true, true, true, false, true, false, false] HT_ (fun K hK => ?_)
  refine Kd.N_lit_step k69 _ 69 ?hg (N' := 30) ?hd (xs := ([(⟨(rd_T69 l2 x23_2).f0, (rd_T69 l2 x23_2).f1⟩ : S69)] : List (S69))) (inner := [.int .i64 ((rd_T69 l2 x23_2).f0), .slice A501_1 ((rd_T69 l2 x23_2).f1).length c501_1]) (ok := (fun k_ => (P2_ k_ ∨ w.heap.size ≤ k_) ∧ some k_ ≠ (u7 : Value).ownBlock ∧ k_ ≠ gb502)) (okp := (fun k_ => (P2_ k_ ∨ w.heap.size ≤ k_) ∧ some k_ ≠ (u7 : Value).ownBlock ∧ k_ ≠ gb502)) ?hr ?hp (fun _ hk => hk) ((show ∀ k_, w22.heap.size ≤ k_ → (fun k_ => (P2_ k_ ∨ w.heap.size ≤ k_) ∧ some k_ ≠ (u7 : Value).ownBlock ∧ k_ ≠ gb502) k_ from fun k_ hk => ⟨(.inr (Nat.le_trans (below_size (pb1_ HB.out GE502.out)) hk)), Kd.fresh' (Kd.R_lt (pr_ HO_7.out)) k_ hk, Kd.freshB (g := gb502) (o := .cells #[.int .i64 ((rd_T69 l2 x23_2).f0), .slice A501_1 ((rd_T69 l2 x23_2).f1).length c501_1] 69 (0, 0)) (pk_ BK502.out) k_ hk⟩) _ (Nat.le_refl _)) (Below.refl _ _) (Nat.le_refl _) (by simp) ?_; (case hd => rfl); (case hg => rfl); (case hr => first | (go_simp; done) | (go_simp; rfl)); (case hp => exact (Reps.c2 (show Kd.FK k69 _ _ (⟨(rd_T69 l2 x23_2).f0, (rd_T69 l2 x23_2).f1⟩ : S69) [.int .i64 ((rd_T69 l2 x23_2).f0), .slice A501_1 ((rd_T69 l2 x23_2).f1).length c501_1] from (k69_mkF _ _ (⟨(rd_T69 l2 x23_2).f0, (rd_T69 l2 x23_2).f1⟩ : S69) (Kd.V_reads' (Kd.V_mono (ok' := (fun k_ => (P2_ k_ ∨ w.heap.size ≤ k_) ∧ some k_ ≠ (u7 : Value).ownBlock ∧ k_ ≠ gb502)) (HL501_1.out) (fun k_ hk => ⟨hk.1, ⟨hk.2.1, hk.2.2⟩⟩))).2.1 (Kd.V_F (Kd.V_mono (ok' := (fun k_ => (P2_ k_ ∨ w.heap.size ≤ k_) ∧ some k_ ≠ (u7 : Value).ownBlock ∧ k_ ≠ gb502)) (HL501_1.out) (fun k_ hk => ⟨hk.1, ⟨hk.2.1, hk.2.2⟩⟩))))) (Reps.none _ _)))
  intro v505 w24 ho25 hb hg_ hnew_
  clear hg_ hnew_
  (first | rw [← Ny504.out] at ho25 | (simp only [Int.reduceToNat] at ho25; rw [← Ny504.out] at ho25))
  have n0_ := Aside0.mk (Kd.R_below (pr_ HO_7.out) hb)
  have n1_ := Aside0.mk (Kd.V_elder' (by (with_reducible repeat (first | apply Kd.V_alloc | apply Kd.V_drewN | apply Kd.V_drew)); exact HO_21.out) (Kd.N_base ho25) hb)
  have n2_ := Aside0.mk (Kd.V_elder' (by (with_reducible repeat (first | apply Kd.V_alloc | apply Kd.V_drewN | apply Kd.V_drew)); exact HL501_1.out) (Kd.N_base ho25) hb)
  have n3_ := Aside0.mk (Kd.N_lower ho25 (below_size (pb1_ HB.out GE502.out)))
  have n4_ := Aside0.mk (bb_ BK502.out hb)
  have n5_ := Aside0.mk (below_step (pb1_ HB.out GE502.out) hb)
  clear HO_7
  clear HO_21
  clear HL501_1
  clear BK502
  clear HB
  have HO_7 := n0_
  have HO_21 := n1_
  have HL501_1 := n2_
  have HO506 := n3_
  have BK502 := n4_
  have HB := n5_
  clear n0_ n1_ n2_ n3_ n4_ n5_
  clear hb ho25
  obtain ⟨Ao26, co26, eo26⟩ := Kd.N_slice HO506.out
  (first | subst eo26 | (injection eo26 with f1_ f2_ f3_; have f4_ := f1_.symm; have f5_ := f3_.symm; clear f1_ f2_ f3_; subst f4_; subst f5_))
  refine hK.out _ _ ⟨(blk_cell BK502.out 0).trans rfl, (blk_cell BK502.out 1).trans rfl⟩ (fun hHeld => ?_)
  clear hK K
  refine no_ (some 30) ?_
  refine pu_ 4 (some 31) (tf_ 6 8) HT_ ?_
  refine on_ 6 (some 33) (tf_ 7 8) HT_ (fun K hK => ?_)
  refine goes_ Try.func74 (by kernel_rfl) rfl #[.agg #[.slice A1 (l1.take 1).length c1, .slice Ao26 y504.length co26], .slice A0 l0.length c0] (by rfl) rfl rfl (by (try simp only [List.map_toArray, List.map_cons, List.map_nil]); first | done | (rw [show (l1.take 1).length = 1 from (by rw [List.length_take]; have h_ : (1 : Int) ≤ (l1.length : Int) := dt_; omega)] <;> rfl) | rfl | (simp only [List.length_drop, List.length_take]; rfl)) ?_
  with_reducible refine (impl_PassesWhole.calls k2 _ _ (l1.take 1) _ _ y504 _ _ l0 t507 _ ?side1 ?side2 ?side3 ?side4 ?side5 ?side6 A20.out).mono ?_
  (case side1 => exact pc_ (Kd.C_below HR503.out HB.out))
  (case side2 => exact HC503.out)
  (case side3 => exact pc_ ((Kd.N_reads' HO506.out).2.2))
  (case side4 => exact (Kd.N_reads' HO506.out).2.1)
  (case side5 => exact pc_ (Kd.C_below HR0.out HB.out))
  (case side6 => exact HC0.out)
  rintro e w27 ⟨rfl, hb⟩
  refine ⟨_, rfl, ?_⟩
  have n0_ := Aside0.mk (Kd.R_below (pr_ HO_7.out) hb)
  have n1_ := Aside0.mk (Kd.V_below (by (with_reducible repeat (first | apply Kd.V_alloc | apply Kd.V_drewN | apply Kd.V_drew)); exact HO_21.out) hb)
  have n2_ := Aside0.mk (Kd.V_below (by (with_reducible repeat (first | apply Kd.V_alloc | apply Kd.V_drewN | apply Kd.V_drew)); exact HL501_1.out) hb)
  have n3_ := Aside0.mk (Kd.N_below (by (with_reducible repeat (first | apply Kd.N_alloc | apply Kd.N_drewN | apply Kd.N_drew)); exact HO506.out) hb)
  have n4_ := Aside0.mk (bb_ BK502.out hb)
  have n5_ := Aside0.mk (below_step (pb1_ HB.out GE502.out) hb)
  clear HO_7
  clear HO_21
  clear HL501_1
  clear HO506
  clear BK502
  clear HB
  have HO_7 := n0_
  have HO_21 := n1_
  have HL501_1 := n2_
  have HO506 := n3_
  have BK502 := n4_
  have HB := n5_
  clear n0_ n1_ n2_ n3_ n4_ n5_
  (try clear hb)
  (try clear hb2)
  (try clear hk)
  (try clear hi)
  refine hK.out _ _ ⟨(blk_cell BK502.out 0).trans rfl, (blk_cell BK502.out 1).trans rfl⟩ (fun hHeld => ?_)
  clear hK K
  refine no_ (some 33) ?_
  refine pu_ 7 (some 34) (tf_ 8 8) HT_ ?_
  refine done_ (done_of HT_.out (by kernel_rfl)) ?_
  go_upto_if 34 with (fail)
  have H := HS_.out
  clear HS_
  by_cases c28 : t507 = true
  · subst c28
    rw [if_pos rfl] at H
    have H' := Aside0.mk H
    clear H
    go_wp2
    go_roundg k2
    case measure => have := HJ3.out; have := HK2.out; omega
    case rel => exact ⟨(x7_2), (wrap64 (x23_2 + 1)), el_, H', ⟨by have := HJ3.out; have := HK2.out; omega⟩, ⟨pr_ HO_7.out⟩, ⟨by (with_reducible repeat (first | apply Kd.V_alloc | apply Kd.V_drewN | apply Kd.V_drew)); exact Kd.V_mono HO_21.out (fun _ hk => ⟨hk.1.1, hk.1.2.1⟩)⟩, ⟨pb1_ HB.out GE502.out⟩⟩
  replace c28 := Bool.eq_false_iff.mpr c28
  subst c28
  rw [if_neg (show ¬ (false = true) by decide)] at H
  by_cases c29 : x7_2.length < 17592186044416
  rotate_left
  · rw [if_neg c29] at H
    exact absurd H (by simp)
  rw [if_pos c29] at H
  have LMc29 := Aside0.mk c29
  clear c29
  obtain ⟨y508, hy508⟩ : ∃ y_ : List Int, y_ = (x7_2 ++ [(rd_T69 l2 x23_2).f0]) := ⟨_, rfl⟩
  replace H : (impl_LostTags.l0 k2 l0 l1 y508 l2 (l2.length : Int) (wrap64 (x23_2 + 1))) = some r := by first | (rw [hy508]; with_reducible exact H) | (have H2_ := (Option.bind_some _ _).symm.trans H; rw [hy508]; with_reducible exact H2_) | (have H2_ := (Option.bind_some _ _).symm.trans H; with_reducible exact H2_) | with_reducible exact H | (rw [hy508]; exact H) | exact H
  have Ny508 := Aside0.mk hy508
  clear hy508
  have H' := Aside0.mk H
  clear H
  obtain ⟨hcz30_0, hcz30_1, hfz30_0, hfz30_1⟩ := bc2_ BK502.out
  go_wp2_with (first | ((with_reducible refine gate_builtin (b := .append) (xs := #[.tmp 35, .tmp 38]) rfl ?_); at_builtin; refine Kd.R_append (Kd.int .i64) (w0 := w) w.heap.size rfl (.tmp 35) (.tmp 38) 23 3 (.int .i64 0) 8 rfl Try.underlying23 info3 rfl (by decide) (by omega) u7 x7_2 ((rd_T69 l2 x23_2).f0) [.int .i64 ((rd_T69 l2 x23_2).f0)] (fun k_ => (w.heap.size ≤ k_)) (fun _ => False) rfl rfl ?aP (fun _ hk => hk.elim) ?aF ?aO ?aB ?aS ?aL ?_; (case aP => exact rfl); (case aB => exact (pb1_ HB.out GE502.out)); (case aF => exact (fun k_ hk => (Nat.le_trans (below_size (pb1_ HB.out GE502.out)) hk))); (case aO => exact (pr_ HO_7.out)); (case aS => exact (below_size (pb1_ HB.out GE502.out))); (case aL => have := LMc29.out; omega); intro v509 w31 ho hb hg hat; rw [← Ny508.out] at ho; have n0_ := Aside0.mk (Kd.V_afterv (ok := (fun k_ => (P2_ k_ ∨ w.heap.size ≤ k_) ∧ some k_ ≠ (.slice Ao26 y504.length co26 : Value).ownBlock ∧ k_ ≠ gb502)) (by (with_reducible repeat (first | apply Kd.V_alloc | apply Kd.V_drewN | apply Kd.V_drew)); exact Kd.V_mono HO_21.out (fun _ hk => ⟨⟨hk.1.1, ⟨hk.2, hk.1.2.2⟩⟩, hk.1.2.1⟩)) hg hat); have n1_ := Aside0.mk (Kd.V_afterv (ok := (fun k_ => (P2_ k_ ∨ w.heap.size ≤ k_) ∧ some k_ ≠ (.slice Ao26 y504.length co26 : Value).ownBlock ∧ k_ ≠ gb502)) (by (with_reducible repeat (first | apply Kd.V_alloc | apply Kd.V_drewN | apply Kd.V_drew)); exact Kd.V_mono HL501_1.out (fun _ hk => ⟨⟨hk.1.1, ⟨hk.2, hk.1.2.2⟩⟩, hk.1.2.1⟩)) hg hat); have n2_ := Aside0.mk (blk_grown (g := gb502) (o := .cells #[.int .i64 ((rd_T69 l2 x23_2).f0), .slice A501_1 ((rd_T69 l2 x23_2).f1).length c501_1] 69 (0, 0)) (pk_ BK502.out) hg (Kd.R_ne HO_7.out BK502.out (by decide))); have n3_ := Aside0.mk (Kd.N_afterv (ok := (fun k_ => (P2_ k_ ∨ w.heap.size ≤ k_) ∧ k_ ≠ gb502)) (by (with_reducible repeat (first | apply Kd.N_alloc | apply Kd.N_drewN | apply Kd.N_drew)); exact Kd.N_mono HO506.out (fun _ hk => ⟨⟨hk.1, hk.2.2⟩, hk.2.1⟩)) hg hat); have n4_ := Aside0.mk (hb); have n5_ := Aside0.mk (ho); clear HO_21; clear HL501_1; clear BK502; clear HO506; clear HB; clear HO_7; have HO_21 := n0_; have HL501_1 := n1_; have BK502 := n2_; have HO506 := n3_; have HB := n4_; have HO510 := n5_; clear n0_ n1_ n2_ n3_ n4_ n5_; clear ho hb hg hat))
  go_roundg k2
  case measure => have := HJ3.out; have := HK2.out; omega
  case rel => exact ⟨(y508), (wrap64 (x23_2 + 1)), el_, H', ⟨by have := HJ3.out; have := HK2.out; omega⟩, ⟨pr_ HO510.out⟩, ⟨by (with_reducible repeat (first | apply Kd.V_alloc | apply Kd.V_drewN | apply Kd.V_drew)); exact Kd.V_mono HO_21.out (fun _ hk => ⟨hk.1.1, hk.2⟩)⟩, ⟨pb1_ HB.out GE502.out⟩⟩

/-! ### impl_isLost: function 28 -/
def impl_isLost.f (k : Nat) (l0 : List (S50)) (l1 : List Int) (a2 : Int) : Option (Bool) := (impl_LostTags.f k l0 l1 (([(⟨a2, ([] : List Int)⟩ : S69)] : List (S69)))).bind fun t514 => (some (decide ((t514.length : Int) > 0)))
theorem impl_isLost.mono : ∀ a0 a1 a2 k, LeO (impl_isLost.f k a0 a1 a2) (impl_isLost.f (k + 1) a0 a1 a2) := by
  intro a0 a1 a2 k
  unfold impl_isLost.f
  repeat' first
      | (with_reducible exact impl_LostTags.mono _ _ _ _)
      | (with_reducible exact LeO.refl _)
      | (with_reducible exact LeO.none _)
      | (with_reducible refine LeO.ite ?_ ?_)
      | (with_reducible refine LeO.bind ?_ (fun _ => ?_))
      | exact impl_LostTags.mono _ _ _ _
      | exact LeO.none _
      | refine LeO.ite ?_ ?_
      | refine LeO.bind ?_ (fun _ => ?_)
set_option maxHeartbeats 8000000 in
set_option maxRecDepth 100000 in
theorem impl_isLost.calls (k : Nat) (A0 : Option Addr) (c0 : Nat) (l0 : List (S50)) (A1 : Option Addr) (c1 : Nat) (l1 : List Int) (a2 : Int) (r : Bool) (w : World) (hr0 : Kd.C k50 w A0 l0.length l0) (hc0 : l0.length ≤ c0) (hr1 : Kd.C (Kd.int .i64) w A1 l1.length l1) (hc1 : l1.length ≤ c1) (h : impl_isLost.f k l0 l1 a2 = some r) :
    Calls Try.prog 28 #[.slice A0 l0.length c0, .slice A1 l1.length c1, .int .i64 a2] w fun e w' => e = .returned (.bool r) ∧ Below w.heap.size w w' := by
  have hu69 := Try.underlying69
  have HR0 := Aside0.mk hr0
  have HC0 := Aside0.mk hc0
  clear hr0 hc0
  have HR1 := Aside0.mk hr1
  have HC1 := Aside0.mk hc1
  clear hr1 hc1
  have HB := Aside0.mk (Below.refl w.heap.size w)
  have H : ((impl_LostTags.f k l0 l1 (([(⟨a2, ([] : List Int)⟩ : S69)] : List (S69)))).bind fun t514 => (some (decide ((t514.length : Int) > 0)))) = some r := h
  clear h
  obtain ⟨y511, hy511⟩ : ∃ y_ : List (S69), y_ = (([(⟨a2, ([] : List Int)⟩ : S69)] : List (S69))) := ⟨_, rfl⟩
  replace H : ((impl_LostTags.f k l0 l1 y511).bind fun t514 => (some (decide ((t514.length : Int) > 0)))) = some r := by first | (rw [hy511]; with_reducible exact H) | (have H2_ := (Option.bind_some _ _).symm.trans H; rw [hy511]; with_reducible exact H2_) | (have H2_ := (Option.bind_some _ _).symm.trans H; with_reducible exact H2_) | with_reducible exact H | (rw [hy511]; exact H) | exact H
  have Ny511 := Aside0.mk hy511
  clear hy511
  replace H := Option.bind_eq_some_iff.mp H
  obtain ⟨t514, A40, H⟩ := H
  replace H : (some (decide ((t514.length : Int) > 0))) = some r := H
  have A4 := Aside0.mk A40
  clear A40
  obtain rfl := Option.some.inj H
  go_enter Try.func28, Try.ntmps28
  go_wp2_with (first | ((with_reducible refine gate_dst (N := 11) rfl ?_); refine Kd.S_lit k69 _ 69 ?hg (N := 11) ?hd (xs := ([(⟨a2, ([] : List Int)⟩ : S69)] : List (S69))) (inner := [.int .i64 a2, .slice none 0 0]) (ok := fun _ => True) (okp := fun _ => True) ?hr ?hp (fun _ hk => hk) trivial (Below.refl _ _) (Nat.le_refl _) (by simp) ?_; (case hd => rfl); (case hg => rfl); (case hr => first | (go_simp; done) | (go_simp; rfl)); (case hp => exact (Reps.c2 (show Kd.M k69 _ _ _ (⟨a2, ([] : List Int)⟩ : S69) [.int .i64 a2, .slice none 0 0] from (k69_mkM _ _ _ (⟨a2, ([] : List Int)⟩ : S69) (Kd.R_nil _ _ _ _ _))) (Reps.none _ _))); intro v512 w5 ho6 hb hg_ hnew_; clear hg_ hnew_; (first | rw [← Ny511.out] at ho6 | (simp only [Int.reduceToNat] at ho6; rw [← Ny511.out] at ho6)); have n0_ := Aside0.mk (Kd.S_lower ho6 (below_size (pb_ HB.out))); have n1_ := Aside0.mk (below_step (pb_ HB.out) hb); clear HB; have HO513 := n0_; have HB := n1_; clear n0_ n1_; clear hb ho6; obtain ⟨Ao7, co7, eo7⟩ := Kd.S_slice HO513.out; subst eo7) | ((with_reducible refine gate_callee (f := 46) rfl ?_); refine goesL_ (some 12) rfl rfl Try.func46 (by kernel_rfl) rfl #[.slice A0 l0.length c0, .slice A1 l1.length c1, .slice Ao7 y511.length co7] rfl mp_ ?_; (with_reducible refine (impl_LostTags.calls k _ _ l0 _ _ l1 (fun k_ => True) _ _ y511 t514 _ ?side1 ?side2 ?side3 ?side4 ?side5 A4.out).mono ?_); (case side1 => exact pc_ (Kd.C_below HR0.out HB.out)); (case side2 => exact HC0.out); (case side3 => exact pc_ (Kd.C_below HR1.out HB.out)); (case side4 => exact HC1.out); (case side5 => exact Kd.S_V (HO513.out)); rintro e w8 ⟨v515, rfl, ho0, hb⟩; refine ⟨_, rfl, ?_⟩; have n0_ := Aside0.mk (Kd.S_elder' (ps_ HO513.out) (Kd.R_base ho0) hb); have n1_ := Aside0.mk (Kd.R_lower (Kd.R_mono (ok' := fun k_ => True) ho0 (fun _ hk_ => trivial)) (below_size (pb_ HB.out))); have n2_ := Aside0.mk (below_step (pb_ HB.out) hb); clear HO513; clear HB; have HO513 := n0_; have HO516 := n1_; have HB := n2_; clear n0_ n1_ n2_; (try clear hb); (try clear hb2); (try clear hk); (try clear hi); (try clear ho0); obtain ⟨Ao9, co9, eo9⟩ := Kd.R_slice HO516.out; subst eo9))
  go_ret
  exact ⟨er_, pb_ HB.out⟩

/-! ### impl_HardnessOf: function 11 -/
def impl_HardnessOf.l0 : Nat → List (S50) → List Int → Int → List Int → Int → Int → Option (Int)
  | 0, _, _, _, _, _, _ => none
  | k + 1, x0, x1, x5, x8, x9, x10 => if x10 < x9 then (if 0 ≤ x10 then (if x10 < (x8.length : Int) then ((impl_isLost.f k x0 x1 (rd x8 x10)).bind fun t521 => (if t521 = true then (impl_HardnessOf.l0 k x0 x1 (wrap64 (x5 + 1)) x8 x9 (wrap64 (x10 + 1))) else (impl_HardnessOf.l0 k x0 x1 x5 x8 x9 (wrap64 (x10 + 1))))) else (none)) else (none)) else (some x5)
def impl_HardnessOf.f (k : Nat) (l0 : List (S50)) (l1 : List Int) : Option (Int) := (impl_reservedTags.f k).bind fun t517 => (impl_HardnessOf.l0 k l0 l1 0 t517 (t517.length : Int) 0)
theorem impl_HardnessOf.mono_l : ∀ k, (∀ y0 y1 y2 y3 y4 y5, LeO (impl_HardnessOf.l0 k y0 y1 y2 y3 y4 y5) (impl_HardnessOf.l0 (k + 1) y0 y1 y2 y3 y4 y5))
  | 0 => fun _ _ _ _ _ _ r h => by simp [impl_HardnessOf.l0] at h
  | k + 1 => by
    have ih0 := impl_HardnessOf.mono_l k
    · intro y0 y1 y2 y3 y4 y5
      unfold impl_HardnessOf.l0
      repeat' first
      | (with_reducible exact ih0 _ _ _ _ _ _)
      | (with_reducible exact impl_isLost.mono _ _ _ _)
      | (with_reducible exact impl_reservedTags.mono _)
      | (with_reducible exact LeO.refl _)
      | (with_reducible exact LeO.none _)
      | (with_reducible refine LeO.ite ?_ ?_)
      | (with_reducible refine LeO.bind ?_ (fun _ => ?_))
      | exact ih0 _ _ _ _ _ _
      | exact impl_isLost.mono _ _ _ _
      | exact impl_reservedTags.mono _
      | exact LeO.none _
      | refine LeO.ite ?_ ?_
      | refine LeO.bind ?_ (fun _ => ?_)
theorem impl_HardnessOf.mono : ∀ a0 a1 k, LeO (impl_HardnessOf.f k a0 a1) (impl_HardnessOf.f (k + 1) a0 a1) := by
  intro a0 a1 k
  have ih0 := impl_HardnessOf.mono_l k
  unfold impl_HardnessOf.f
  repeat' first
      | (with_reducible exact ih0 _ _ _ _ _ _)
      | (with_reducible exact impl_isLost.mono _ _ _ _)
      | (with_reducible exact impl_reservedTags.mono _)
      | (with_reducible exact LeO.refl _)
      | (with_reducible exact LeO.none _)
      | (with_reducible refine LeO.ite ?_ ?_)
      | (with_reducible refine LeO.bind ?_ (fun _ => ?_))
      | exact ih0 _ _ _ _ _ _
      | exact impl_isLost.mono _ _ _ _
      | exact impl_reservedTags.mono _
      | exact LeO.none _
      | refine LeO.ite ?_ ?_
      | refine LeO.bind ?_ (fun _ => ?_)
set_option maxHeartbeats 8000000 in
set_option maxRecDepth 100000 in
theorem impl_HardnessOf.calls (k : Nat) (A0 : Option Addr) (c0 : Nat) (l0 : List (S50)) (A1 : Option Addr) (c1 : Nat) (l1 : List Int) (r : Int) (w : World) (hr0 : Kd.C k50 w A0 l0.length l0) (hc0 : l0.length ≤ c0) (hr1 : Kd.C (Kd.int .i64) w A1 l1.length l1) (hc1 : l1.length ≤ c1) (h : impl_HardnessOf.f k l0 l1 = some r) :
    Calls Try.prog 11 #[.slice A0 l0.length c0, .slice A1 l1.length c1] w fun e w' => e = .returned (.int .i64 r) ∧ Below w.heap.size w w' := by
  have HR0 := Aside0.mk hr0
  have HC0 := Aside0.mk hc0
  clear hr0 hc0
  have HR1 := Aside0.mk hr1
  have HC1 := Aside0.mk hc1
  clear hr1 hc1
  have HB := Aside0.mk (Below.refl w.heap.size w)
  have H : ((impl_reservedTags.f k).bind fun t517 => (impl_HardnessOf.l0 k l0 l1 0 t517 (t517.length : Int) 0)) = some r := h
  clear h
  replace H := Option.bind_eq_some_iff.mp H
  obtain ⟨t517, A30, H⟩ := H
  replace H : (impl_HardnessOf.l0 k l0 l1 0 t517 (t517.length : Int) 0) = some r := H
  have A3 := Aside0.mk A30
  clear A30
  have H' := Aside0.mk H
  clear H
  go_enter Try.func11, Try.ntmps11
  go_wp2_with (first | ((with_reducible refine gate_callee (f := 27) rfl ?_); refine goesL_ (some 8) rfl rfl Try.func27 (by kernel_rfl) rfl #[] rfl mp_ ?_; (with_reducible refine (impl_reservedTags.calls k  t517 _ A3.out).mono ?_); rintro e w4 ⟨v518, rfl, ho0, hb⟩; refine ⟨_, rfl, ?_⟩; have n0_ := Aside0.mk (Kd.R_lower ho0 (below_size (pb_ HB.out))); have n1_ := Aside0.mk (below_step (pb_ HB.out) hb); clear HB; have HO519 := n0_; have HB := n1_; clear n0_ n1_; (try clear hb); (try clear hb2); (try clear hk); (try clear hi); (try clear ho0); obtain ⟨Ao5, co5, eo5⟩ := Kd.R_slice HO519.out; subst eo5))
  (try simp only [Act.put, List.setIfInBounds_toArray, List.set_cons_zero, List.set_cons_succ])
  go_loopg [5, 10] k (fun kq v5 v10 w' => ∃ (x5_1 : Int) (x10_1 : Int), v5 = .int .i64 x5_1 ∧ v10 = .int .i64 x10_1 ∧ Aside0 (impl_HardnessOf.l0 kq l0 l1 x5_1 t517 (t517.length : Int) x10_1 = some r) ∧ Aside0 (kq ≤ k) ∧ Aside0 (Kd.R (Kd.int .i64) 3 w' w.heap.size (fun _ => True) (.slice Ao5 t517.length co5) t517) ∧ Aside0 (Below w.heap.size w w'))
  case atStart => exact ⟨(0), (0), el_, el_, H', ⟨Nat.le_refl _⟩, ⟨pr_ HO519.out⟩, ⟨pb_ HB.out⟩⟩
  clear H'
  try clear c1
  try clear c2
  try clear p2
  obtain ⟨x5_1, x10_1, rfl, rfl, HA, HK1, HO_8, HB⟩ := hrel
  rcases gk with _ | k1
  · exact absurd HA.out (by simp [impl_HardnessOf.l0])
  have H := HA.out
  clear HA
  simp only [impl_HardnessOf.l0] at H
  by_cases c6 : x10_1 < (t517.length : Int)
  rotate_left
  · rw [if_neg c6] at H
    have c6b0 : decide (x10_1 < (t517.length : Int)) = false := decide_eq_false c6
    clear c6
    obtain rfl := Option.some.inj H
    go_wp2
    go_ret
    exact ⟨er_, pb_ HB.out⟩
  rw [if_pos c6] at H
  have c6b0 : decide (x10_1 < (t517.length : Int)) = true := decide_eq_true c6
  clear c6
  by_cases c7 : 0 ≤ x10_1
  rotate_left
  · rw [if_neg c7] at H
    exact absurd H (by simp)
  rw [if_pos c7] at H
  have c7b0 : decide (0 ≤ x10_1) = true := decide_eq_true c7
  clear c7
  by_cases c8 : x10_1 < (t517.length : Int)
  rotate_left
  · rw [if_neg c8] at H
    exact absurd H (by simp)
  rw [if_pos c8] at H
  have c8b0 : decide (x10_1 < (t517.length : Int)) = true := decide_eq_true c8
  clear c8
  replace H := Option.bind_eq_some_iff.mp H
  obtain ⟨t521, A90, H⟩ := H
  (try dsimp only at H)
  have A9 := Aside0.mk A90
  clear A90
  have HS_ := Aside0.mk H
  clear H
  have p520 : 0 ≤ (x10_1 : Int) := dt_
  have q520 : x10_1 < (t517.length : Int) := dt_
  obtain ⟨ad520, e520, hx520_0⟩ := Kd.at_int (Kd.R_reads' HO_8.out).2.2 x10_1 p520 q520
  cases e520
  replace p520 := eq_true p520
  replace q520 := eq_true q520
  go_upto_if 17 with (first | ((with_reducible refine gate_callee (f := 28) rfl ?_); refine goesL_ (some 17) rfl rfl Try.func28 (by kernel_rfl) rfl #[.slice A0 l0.length c0, .slice A1 l1.length c1, .int .i64 (rd t517 x10_1)] rfl mp_ ?_; (with_reducible refine (impl_isLost.calls k1 _ _ l0 _ _ l1 (rd t517 x10_1) t521 _ ?side1 ?side2 ?side3 ?side4 A9.out).mono ?_); (case side1 => exact pc_ (Kd.C_below HR0.out HB.out)); (case side2 => exact HC0.out); (case side3 => exact pc_ (Kd.C_below HR1.out HB.out)); (case side4 => exact HC1.out); rintro e w10 ⟨rfl, hb⟩; refine ⟨_, rfl, ?_⟩; have n0_ := Aside0.mk (Kd.R_below (pr_ HO_8.out) hb); have n1_ := Aside0.mk (below_step (pb_ HB.out) hb); clear HO_8; clear HB; have HO_8 := n0_; have HB := n1_; clear n0_ n1_; (try clear hb); (try clear hb2); (try clear hk); (try clear hi)))
  (try simp only [Act.put, List.setIfInBounds_toArray, List.set_cons_zero, List.set_cons_succ])
  have H := HS_.out
  clear HS_
  by_cases c11 : t521 = true
  rotate_left
  · replace c11 := Bool.eq_false_iff.mpr c11
    subst c11
    rw [if_neg (show ¬ (false = true) by decide)] at H
    have H' := Aside0.mk H
    clear H
    go_wp2
    go_roundg k1
    case measure => have := HK1.out; omega
    case rel => exact ⟨(x5_1), (wrap64 (x10_1 + 1)), el_, el_, H', ⟨by have := HK1.out; omega⟩, ⟨pr_ HO_8.out⟩, ⟨pb_ HB.out⟩⟩
  subst c11
  rw [if_pos rfl] at H
  have H' := Aside0.mk H
  clear H
  go_wp2
  go_roundg k1
  case measure => have := HK1.out; omega
  case rel => exact ⟨(wrap64 (x5_1 + 1)), (wrap64 (x10_1 + 1)), el_, el_, H', ⟨by have := HK1.out; omega⟩, ⟨pr_ HO_8.out⟩, ⟨pb_ HB.out⟩⟩

/-! ### laws_eqIntS: function 13 -/
def laws_eqIntS.l0 : Nat → List Int → List Int → Int → Option (Bool)
  | 0, _, _, _ => none
  | k + 1, x0, x1, x5 => if x5 < (x0.length : Int) then (if 0 ≤ x5 then (if x5 < (x1.length : Int) then (if (rd x0 x5) = (rd x1 x5) then (laws_eqIntS.l0 k x0 x1 (wrap64 (x5 + 1))) else (some false)) else (none)) else (none)) else (some true)
def laws_eqIntS.f (k : Nat) (l0 : List Int) (l1 : List Int) : Option (Bool) := if (l0.length : Int) = (l1.length : Int) then (laws_eqIntS.l0 k l0 l1 0) else (some false)
theorem laws_eqIntS.mono_l : ∀ k, (∀ y0 y1 y2, LeO (laws_eqIntS.l0 k y0 y1 y2) (laws_eqIntS.l0 (k + 1) y0 y1 y2))
  | 0 => fun _ _ _ r h => by simp [laws_eqIntS.l0] at h
  | k + 1 => by
    have ih0 := laws_eqIntS.mono_l k
    · intro y0 y1 y2
      unfold laws_eqIntS.l0
      repeat' first
      | (with_reducible exact ih0 _ _ _)
      | (with_reducible exact LeO.refl _)
      | (with_reducible exact LeO.none _)
      | (with_reducible refine LeO.ite ?_ ?_)
      | (with_reducible refine LeO.bind ?_ (fun _ => ?_))
      | exact ih0 _ _ _
      | exact LeO.none _
      | refine LeO.ite ?_ ?_
      | refine LeO.bind ?_ (fun _ => ?_)
theorem laws_eqIntS.mono : ∀ a0 a1 k, LeO (laws_eqIntS.f k a0 a1) (laws_eqIntS.f (k + 1) a0 a1) := by
  intro a0 a1 k
  have ih0 := laws_eqIntS.mono_l k
  unfold laws_eqIntS.f
  repeat' first
      | (with_reducible exact ih0 _ _ _)
      | (with_reducible exact LeO.refl _)
      | (with_reducible exact LeO.none _)
      | (with_reducible refine LeO.ite ?_ ?_)
      | (with_reducible refine LeO.bind ?_ (fun _ => ?_))
      | exact ih0 _ _ _
      | exact LeO.none _
      | refine LeO.ite ?_ ?_
      | refine LeO.bind ?_ (fun _ => ?_)
set_option maxHeartbeats 8000000 in
set_option maxRecDepth 100000 in
theorem laws_eqIntS.calls (k : Nat) (A0 : Option Addr) (c0 : Nat) (l0 : List Int) (A1 : Option Addr) (c1 : Nat) (l1 : List Int) (r : Bool) (w : World) (hr0 : Kd.C (Kd.int .i64) w A0 l0.length l0) (hc0 : l0.length ≤ c0) (hr1 : Kd.C (Kd.int .i64) w A1 l1.length l1) (hc1 : l1.length ≤ c1) (h : laws_eqIntS.f k l0 l1 = some r) :
    Calls Try.prog 13 #[.slice A0 l0.length c0, .slice A1 l1.length c1] w fun e w' => e = .returned (.bool r) ∧ Drawn0 w w' := by
  have HR0 := Aside0.mk hr0
  have HC0 := Aside0.mk hc0
  clear hr0 hc0
  have HR1 := Aside0.mk hr1
  have HC1 := Aside0.mk hc1
  clear hr1 hc1
  have H : (if (l0.length : Int) = (l1.length : Int) then (laws_eqIntS.l0 k l0 l1 0) else (some false)) = some r := h
  clear h
  by_cases c3 : (l0.length : Int) = (l1.length : Int)
  rotate_left
  · rw [if_neg c3] at H
    have c3b0 : ((l0.length : Int) == (l1.length : Int)) = false := beq_eq_false_iff_ne.mpr c3
    have c3b1 : ((l0.length : Int) != (l1.length : Int)) = true := bne_iff_ne.mpr c3
    have c3b2 : (l0.length == l1.length) = false := by first | simpa using c3 | (simp at c3 ⊢; omega)
    obtain rfl := Option.some.inj H
    go_enter Try.func13, Try.ntmps13
    go_wp2
    repeat (go_quiet (fail); try go_wp2)
    go_ret
    exact ⟨by first | rfl | (simp; done) | (simp [*]; done), by repeat (first | exact Drawn0.refl _ | apply Drawn0.step)⟩
  rw [if_pos c3] at H
  have c3b0 : ((l0.length : Int) == (l1.length : Int)) = true := beq_iff_eq.mpr c3
  have c3b1 : ((l0.length : Int) != (l1.length : Int)) = false := bne_eq_false_iff_eq.mpr c3
  have c3b2 : (l0.length == l1.length) = true := by first | simpa using c3 | (simp at c3 ⊢; omega)
  clear c3
  have H' := Aside0.mk H
  clear H
  go_enter Try.func13, Try.ntmps13
  go_wp2
  repeat (go_quiet (fail); try go_wp2)
  go_loopg [5] k (fun kq v5 w' => ∃ (x5_1 : Int), v5 = .int .i64 x5_1 ∧ Aside0 (laws_eqIntS.l0 kq l0 l1 x5_1 = some r) ∧ Aside0 (kq ≤ k) ∧ Drawn0 w w')
  case atStart => exact ⟨(0), el_, H', ⟨Nat.le_refl _⟩, by repeat (first | exact Drawn0.refl _ | apply Drawn0.step)⟩
  clear H'
  try clear c1
  try clear p2
  try clear c3
  try clear c3b0
  try clear c3b1
  try clear c3b2
  obtain ⟨x5_1, rfl, HA, HK1, ⟨m1, rfl⟩⟩ := hrel
  rcases gk with _ | k1
  · exact absurd HA.out (by simp [laws_eqIntS.l0])
  have H := HA.out
  clear HA
  simp only [laws_eqIntS.l0] at H
  by_cases c4 : x5_1 < (l0.length : Int)
  rotate_left
  · rw [if_neg c4] at H
    have c4b0 : decide (x5_1 < (l0.length : Int)) = false := decide_eq_false c4
    clear c4
    obtain rfl := Option.some.inj H
    go_wp2
    repeat (go_quiet (fail); try go_wp2)
    go_ret
    exact ⟨by first | rfl | (simp; done) | (simp [*]; done), by repeat (first | exact Drawn0.refl _ | apply Drawn0.step)⟩
  rw [if_pos c4] at H
  have c4b0 : decide (x5_1 < (l0.length : Int)) = true := decide_eq_true c4
  clear c4
  by_cases c5 : 0 ≤ x5_1
  rotate_left
  · rw [if_neg c5] at H
    exact absurd H (by simp)
  rw [if_pos c5] at H
  have c5b0 : decide (0 ≤ x5_1) = true := decide_eq_true c5
  clear c5
  by_cases c6 : x5_1 < (l1.length : Int)
  rotate_left
  · rw [if_neg c6] at H
    exact absurd H (by simp)
  rw [if_pos c6] at H
  have c6b0 : decide (x5_1 < (l1.length : Int)) = true := decide_eq_true c6
  clear c6
  by_cases c7 : (rd l0 x5_1) = (rd l1 x5_1)
  rotate_left
  · rw [if_neg c7] at H
    have c7b0 : ((rd l0 x5_1) == (rd l1 x5_1)) = false := beq_eq_false_iff_ne.mpr c7
    have c7b1 : ((rd l0 x5_1) != (rd l1 x5_1)) = true := bne_iff_ne.mpr c7
    obtain rfl := Option.some.inj H
    have p522 : 0 ≤ (x5_1 : Int) := dt_
    have q522 : x5_1 < (l0.length : Int) := dt_
    obtain ⟨ad522, e522, hx522_0⟩ := Kd.at_int HR0.out x5_1 p522 q522
    cases e522
    replace p522 := eq_true p522
    replace q522 := eq_true q522
    have p523 : 0 ≤ (x5_1 : Int) := dt_
    have q523 : x5_1 < (l1.length : Int) := dt_
    obtain ⟨ad523, e523, hx523_0⟩ := Kd.at_int HR1.out x5_1 p523 q523
    cases e523
    replace p523 := eq_true p523
    replace q523 := eq_true q523
    go_wp2
    repeat (go_quiet (fail); try go_wp2)
    go_ret
    exact ⟨by first | rfl | (simp; done) | (simp [*]; done), by repeat (first | exact Drawn0.refl _ | apply Drawn0.step)⟩
  rw [if_pos c7] at H
  have c7b0 : ((rd l0 x5_1) == (rd l1 x5_1)) = true := beq_iff_eq.mpr c7
  have c7b1 : ((rd l0 x5_1) != (rd l1 x5_1)) = false := bne_eq_false_iff_eq.mpr c7
  clear c7
  have H' := Aside0.mk H
  clear H
  have p522 : 0 ≤ (x5_1 : Int) := dt_
  have q522 : x5_1 < (l0.length : Int) := dt_
  obtain ⟨ad522, e522, hx522_0⟩ := Kd.at_int HR0.out x5_1 p522 q522
  cases e522
  replace p522 := eq_true p522
  replace q522 := eq_true q522
  have p523 : 0 ≤ (x5_1 : Int) := dt_
  have q523 : x5_1 < (l1.length : Int) := dt_
  obtain ⟨ad523, e523, hx523_0⟩ := Kd.at_int HR1.out x5_1 p523 q523
  cases e523
  replace p523 := eq_true p523
  replace q523 := eq_true q523
  go_wp2
  repeat (go_quiet (fail); try go_wp2)
  go_roundg k1
  case measure => have := HK1.out; omega
  case rel => exact ⟨(wrap64 (x5_1 + 1)), el_, H', ⟨by have := HK1.out; omega⟩, by repeat (first | exact Drawn0.refl _ | apply Drawn0.step)⟩

end Go.Proofs.Ytpoandlbmaljhaa.Print
