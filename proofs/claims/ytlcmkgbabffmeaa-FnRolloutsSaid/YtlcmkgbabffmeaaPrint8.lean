-- Written by a program of this session (printx.py) out of the translation; Lean checks it.
import Derived.Test.YtlcmkgbabffmeaaPrint0
import Derived.Test.YtlcmkgbabffmeaaPrint3
import Derived.Test.YtlcmkgbabffmeaaPrint4
import Derived.Test.YtlcmkgbabffmeaaPrint6
namespace Go.Proofs.Ytlcmkgbabffmeaa.Print
open Go.RowKit Go.Proofs.YtlcmkgbabffmeaaW.PrintWords Go.Proofs.YtlcmkgbabffmeaaW.PrintLast Go.Proofs.YtlcmkgbabffmeaaW.PrintMore Go.Proofs.Ytlcmkgbabffmeaa.Short
attribute [local go_sem] max2_int min2_int max_two min_two max_three min_three max_four min_four   -- for this text's walks alone
set_option linter.unusedVariables false
set_option linter.unusedSimpArgs false

/-! ### impl_PassedStages: function 42 -/
def impl_PassedStages.l0 : Nat → Int → List Int → Int → Int → Int → List Int → Int → Bool → Option (Int)
  | 0, _, _, _, _, _, _, _, _ => none
  | k + 1, x5, x13, x14, x15, x534000, x534001, x534002, x534003 => if x15 < x14 then (if 0 ≤ x15 then (if x15 < (x13.length : Int) then ((impl_signalled.f k x534000 x534001 x534002 x534003 (rd x13 x15)).bind fun bt536 => (impl_PassedStages.l0 k (mx x5 bt536.2.2.1) x13 x14 (wrap64 (x15 + 1)) bt536.1 bt536.2.1 bt536.2.2.1 bt536.2.2.2)) else (none)) else (none)) else (some (wrap64 (x5 + 1)))
def impl_PassedStages.f (k : Nat) (a0_0 : Int) (l0_1 : List Int) (a0_2 : Int) (a0_3 : Bool) (l1 : List Int) : Option (Int) := (impl_IsRollout.f k a0_0 l0_1 a0_2 a0_3).bind fun t534 => (if t534 = true then (impl_PassedStages.l0 k a0_2 l1 (l1.length : Int) 0 a0_0 l0_1 a0_2 a0_3) else (some 0))
theorem impl_PassedStages.mono_l : ∀ k, (∀ y0 y1 y2 y3 y4 y5 y6 y7, LeO (impl_PassedStages.l0 k y0 y1 y2 y3 y4 y5 y6 y7) (impl_PassedStages.l0 (k + 1) y0 y1 y2 y3 y4 y5 y6 y7))
  | 0 => fun _ _ _ _ _ _ _ _ r h => by simp [impl_PassedStages.l0] at h
  | k + 1 => by
    have ih0 := impl_PassedStages.mono_l k
    · intro y0 y1 y2 y3 y4 y5 y6 y7
      unfold impl_PassedStages.l0
      repeat' first
      | (with_reducible exact ih0 _ _ _ _ _ _ _ _)
      | (with_reducible exact impl_IsRollout.mono _ _ _ _ _)
      | (with_reducible exact impl_signalled.mono _ _ _ _ _ _)
      | (with_reducible exact LeO.refl _)
      | (with_reducible exact LeO.none _)
      | (with_reducible refine LeO.ite ?_ ?_)
      | (with_reducible refine LeO.bind ?_ (fun _ => ?_))
      | exact ih0 _ _ _ _ _ _ _ _
      | exact impl_IsRollout.mono _ _ _ _ _
      | exact impl_signalled.mono _ _ _ _ _ _
      | exact LeO.none _
      | refine LeO.ite ?_ ?_
      | refine LeO.bind ?_ (fun _ => ?_)
theorem impl_PassedStages.mono : ∀ a0 a1 a2 a3 a4 k, LeO (impl_PassedStages.f k a0 a1 a2 a3 a4) (impl_PassedStages.f (k + 1) a0 a1 a2 a3 a4) := by
  intro a0 a1 a2 a3 a4 k
  have ih0 := impl_PassedStages.mono_l k
  unfold impl_PassedStages.f
  repeat' first
      | (with_reducible exact ih0 _ _ _ _ _ _ _ _)
      | (with_reducible exact impl_IsRollout.mono _ _ _ _ _)
      | (with_reducible exact impl_signalled.mono _ _ _ _ _ _)
      | (with_reducible exact LeO.refl _)
      | (with_reducible exact LeO.none _)
      | (with_reducible refine LeO.ite ?_ ?_)
      | (with_reducible refine LeO.bind ?_ (fun _ => ?_))
      | exact ih0 _ _ _ _ _ _ _ _
      | exact impl_IsRollout.mono _ _ _ _ _
      | exact impl_signalled.mono _ _ _ _ _ _
      | exact LeO.none _
      | refine LeO.ite ?_ ?_
      | refine LeO.bind ?_ (fun _ => ?_)
set_option maxHeartbeats 8000000 in
set_option maxRecDepth 100000 in
theorem impl_PassedStages.calls (k : Nat) (a0_0 : Int) (P0_1_ : Nat → Prop) (u9000_ : Value) (l0_1 : List Int) (a0_2 : Int) (a0_3 : Bool) (A1 : Option Addr) (c1 : Nat) (l1 : List Int) (r : Int) (w0 w : World) (hB : Below w0.heap.size w0 w) (ho0_1 : Kd.R (Kd.int .i64) 3 w w0.heap.size P0_1_ u9000_ l0_1) (hr1 : ∀ W_, Kept w W_ (fun k_ => P0_1_ k_) → Kd.C (Kd.int .i64) W_ A1 l1.length l1) (hc1 : l1.length ≤ c1) (h : impl_PassedStages.f k a0_0 l0_1 a0_2 a0_3 l1 = some r) :
    Calls Try.prog 42 #[.agg #[.int .i64 a0_0, u9000_, .int .i64 a0_2, .bool a0_3], .slice A1 l1.length c1] w fun e w' => e = .returned (.int .i64 r) ∧ Below w0.heap.size w0 w' ∧ Kept w w' (fun k_ => P0_1_ k_) := by
  have hu27 := Try.underlying27
  have HO0_1 := Aside0.mk (show Kd.R (Kd.int .i64) 3 w w0.heap.size (fun k_ => (P0_1_ k_ ∨ w.heap.size ≤ k_)) u9000_ l0_1 from Kd.R_mono ho0_1 (fun k_ hk => (.inl hk)))
  have HR1 := Aside0.mk hr1
  have HC1 := Aside0.mk hc1
  clear hr1 hc1
  have HK := Aside0.mk (Kept.refl w (fun k_ => P0_1_ k_))
  have HW0 := Aside0.mk hB.size
  have HB := Aside0.mk hB
  clear hB
  have H : ((impl_IsRollout.f k a0_0 l0_1 a0_2 a0_3).bind fun t534 => (if t534 = true then (impl_PassedStages.l0 k a0_2 l1 (l1.length : Int) 0 a0_0 l0_1 a0_2 a0_3) else (some 0))) = some r := h
  clear h
  have HS_ := Aside0.mk H
  clear H
  obtain ⟨Ao3, co3, eo3⟩ := Kd.R_slice HO0_1.out
  subst eo3
  go_enter Try.func42, Try.ntmps42
  go_upto_region 1 with (first | ((with_reducible refine gate_dst (N := 2) rfl ?_); refine box_event ?hg (N := 2) ?hd (cs := #[.int .i64 a0_0, .slice Ao3 l0_1.length co3, .int .i64 a0_2, .bool a0_3]) (t := 27) ?hr ?_; (case hd => rfl); (case hg => rfl); (case hr => first | (go_simp; done) | (go_simp; rfl)); intro gb533 hg w4 hbox hb; have n0_ := Aside0.mk (Kd.R_below (pr_ HO0_1.out) hb); have n1_ := Aside0.mk (Kept.below (S := (fun k_ => P0_1_ k_)) (by repeat (first | (with_reducible first | exact HK.out | apply Kept.alloc | apply Kept.drewN | apply Kept.drew) | exact HK.out)) hb); have n2_ := Aside0.mk (below_step (pb_ HB.out) hb); have n3_ := Aside0.mk (hbox); have n4_ := Aside0.mk ((by rw [hg]; exact (by first | exact HK.out.1 | exact (show Kept w _ (fun k_ => P0_1_ k_) from by repeat (first | (with_reducible first | exact HK.out | apply Kept.alloc | apply Kept.drewN | apply Kept.drew) | exact HK.out)).1) : w.heap.size ≤ gb533)); have n5_ := Aside0.mk ((by rw [hg]; exact (below_size (pb_ HB.out)) : w0.heap.size ≤ gb533)); clear HO0_1; clear HK; clear HB; have HO0_1 := n0_; have HK := n1_; have HB := n2_; have BK533 := n3_; have GW533 := n4_; have GE533 := n5_; clear n0_ n1_ n2_ n3_ n4_ n5_; clear hb hbox hg))
  (try simp only [Act.put, List.setIfInBounds_toArray, List.set_cons_zero, List.set_cons_succ])
  have H := HS_.out
  clear HS_
  replace H := Option.bind_eq_some_iff.mp H
  obtain ⟨t534, A50, H⟩ := H
  (try dsimp only at H)
  have A5 := Aside0.mk A50
  clear A50
  have HS_ := Aside0.mk H
  clear H
  obtain ⟨hcz6_0, hcz6_1, hcz6_2, hcz6_3, hfz6_0, hfz6_1, hfz6_2, hfz6_3⟩ := bc4_ BK533.out
  go_upto_if 10 with (first | ((with_reducible refine gate_callee (f := 18) rfl ?_); refine goesL_ (some 9) rfl rfl Try.func18 (by kernel_rfl) rfl #[.agg #[.int .i64 a0_0, .slice Ao3 l0_1.length co3, .int .i64 a0_2, .bool a0_3]] rfl mp_ ?_; (with_reducible refine (impl_IsRollout.calls k a0_0 _ _ l0_1 a0_2 a0_3 t534 _ ?side1 ?side2 A5.out).mono ?_); (case side1 => exact pc_ ((Kd.R_reads' HO0_1.out).2.2)); (case side2 => exact (Kd.R_reads' HO0_1.out).2.1); rintro e w7 ⟨rfl, hb⟩; refine ⟨_, rfl, ?_⟩; have n0_ := Aside0.mk (Kd.R_below (pr_ HO0_1.out) hb); have n1_ := Aside0.mk (bb_ BK533.out hb); have n2_ := Aside0.mk (Kept.below (S := (fun k_ => P0_1_ k_)) (by repeat (first | (with_reducible first | exact HK.out | apply Kept.alloc | apply Kept.drewN | apply Kept.drew | refine Kept.setCell ?_ (.inr GW533.out) _) | exact HK.out)) hb); have n3_ := Aside0.mk (below_step (pb1_ HB.out GE533.out) hb); clear HO0_1; clear BK533; clear HK; clear HB; have HO0_1 := n0_; have BK533 := n1_; have HK := n2_; have HB := n3_; clear n0_ n1_ n2_ n3_; (try clear hb); (try clear hb2); (try clear hk); (try clear hi)))
  (try simp only [Act.put, List.setIfInBounds_toArray, List.set_cons_zero, List.set_cons_succ])
  have H := HS_.out
  clear HS_
  by_cases c8 : t534 = true
  rotate_left
  · replace c8 := Bool.eq_false_iff.mpr c8
    subst c8
    rw [if_neg (show ¬ (false = true) by decide)] at H
    obtain rfl := Option.some.inj H
    go_wp2
    go_ret
    exact ⟨er_, pb1_ HB.out GE533.out, by repeat (first | (with_reducible first | exact HK.out | apply Kept.alloc | apply Kept.drewN | apply Kept.drew | refine Kept.setCell ?_ (.inr GW533.out) _) | exact HK.out)⟩
  subst c8
  rw [if_pos rfl] at H
  have H' := Aside0.mk H
  clear H
  obtain ⟨hcz9_0, hcz9_1, hcz9_2, hcz9_3, hfz9_0, hfz9_1, hfz9_2, hfz9_3⟩ := bc4_ BK533.out
  go_wp2
  go_loopg [5, 15] k (fun kq v5 v15 w' => ∃ (x5_1 : Int) (x15_1 : Int) (x534000_1 : Int) (x534001_1 : List Int) (x534002_1 : Int) (x534003_1 : Bool) (u534001 : Value), v5 = .int .i64 x5_1 ∧ v15 = .int .i64 x15_1 ∧ Aside0 (impl_PassedStages.l0 kq x5_1 l1 (l1.length : Int) x15_1 x534000_1 x534001_1 x534002_1 x534003_1 = some r) ∧ Aside0 (kq ≤ k) ∧ Aside0 (Kd.R (Kd.int .i64) 3 w' w0.heap.size (fun k_ => (P0_1_ k_ ∨ w.heap.size ≤ k_)) u534001 x534001_1) ∧ Aside0 (w'.heap[gb533]? = some (.cells #[.int .i64 x534000_1, u534001, .int .i64 x534002_1, .bool x534003_1] 27 (0, 0))) ∧ Aside0 (Kept w w' (fun k_ => P0_1_ k_)) ∧ Aside0 (Below w0.heap.size w0 w'))
  case atStart => exact ⟨(a0_2), (0), (a0_0), (l0_1), (a0_2), (a0_3), (.slice Ao3 l0_1.length co3), el_, el_, H', ⟨Nat.le_refl _⟩, ⟨pr_ HO0_1.out⟩, ⟨pk_ BK533.out⟩, ⟨by repeat (first | (with_reducible first | exact HK.out | apply Kept.alloc | apply Kept.drewN | apply Kept.drew | refine Kept.setCell ?_ (.inr GW533.out) _) | exact HK.out)⟩, ⟨pb1_ HB.out GE533.out⟩⟩
  clear H'
  try clear c1
  try clear p2
  try clear c4
  try clear c8
  try clear hcz6_0
  try clear hcz6_1
  try clear hcz6_2
  try clear hcz6_3
  try clear hcz9_0
  try clear hcz9_1
  try clear hcz9_2
  try clear hcz9_3
  try clear hfz6_0
  try clear hfz6_1
  try clear hfz6_2
  try clear hfz6_3
  try clear hfz9_0
  try clear hfz9_1
  try clear hfz9_2
  try clear hfz9_3
  obtain ⟨x5_1, x15_1, x534000_1, x534001_1, x534002_1, x534003_1, u534001, rfl, rfl, HA, HK1, HO_534001, BK533, HK, HB⟩ := hrel
  rcases gk with _ | k1
  · exact absurd HA.out (by simp [impl_PassedStages.l0])
  have H := HA.out
  clear HA
  simp only [impl_PassedStages.l0] at H
  by_cases c10 : x15_1 < (l1.length : Int)
  rotate_left
  · rw [if_neg c10] at H
    have c10b0 : decide (x15_1 < (l1.length : Int)) = false := decide_eq_false c10
    clear c10
    (first | rw [c10b0] | (simp only [i64_w, i32_w]; rw [c10b0]) | skip)
    obtain rfl := Option.some.inj H
    go_wp2
    go_ret
    exact ⟨er_, pb1_ HB.out GE533.out, by repeat (first | (with_reducible first | exact HK.out | apply Kept.alloc | apply Kept.drewN | apply Kept.drew | refine Kept.setCell ?_ (.inr GW533.out) _) | exact HK.out)⟩
  rw [if_pos c10] at H
  have c10b0 : decide (x15_1 < (l1.length : Int)) = true := decide_eq_true c10
  clear c10
  (first | rw [c10b0] | (simp only [i64_w, i32_w]; rw [c10b0]) | skip)
  by_cases c11 : 0 ≤ x15_1
  rotate_left
  · rw [if_neg c11] at H
    exact absurd H (by simp)
  rw [if_pos c11] at H
  have c11b0 : decide (0 ≤ x15_1) = true := decide_eq_true c11
  clear c11
  by_cases c12 : x15_1 < (l1.length : Int)
  rotate_left
  · rw [if_neg c12] at H
    exact absurd H (by simp)
  rw [if_pos c12] at H
  have c12b0 : decide (x15_1 < (l1.length : Int)) = true := decide_eq_true c12
  clear c12
  replace H := Option.bind_eq_some_iff.mp H
  obtain ⟨⟨t536, t537, t540, t541⟩, A130, H⟩ := H
  (try dsimp only at H)
  have A13 := Aside0.mk A130
  clear A130
  obtain ⟨ji14, hji14⟩ : ∃ j_ : Int, (mx x5_1 t540) = j_ := ⟨_, rfl⟩
  replace H : (impl_PassedStages.l0 k1 ji14 l1 (l1.length : Int) (wrap64 (x15_1 + 1)) t536 t537 t540 t541) = some r := by first | (rw [hji14] at H; exact H) | (simp only [hji14] at H ⊢; exact H)
  (try rw [hji14] at A13)
  have hji14_ : (if x5_1 < t540 then t540 else x5_1) = ji14 := hji14
  have H' := Aside0.mk H
  clear H
  have p535 : 0 ≤ (x15_1 : Int) := dt_
  have q535 : x15_1 < (l1.length : Int) := dt_
  obtain ⟨ad535, e535, hx535_0⟩ := Kd.at_int (Kd.C_kept_now HR1.out HK.out) x15_1 p535 q535
  cases e535
  replace p535 := eq_true p535
  replace q535 := eq_true q535
  obtain ⟨hcz15_0, hcz15_1, hcz15_2, hcz15_3, hfz15_0, hfz15_1, hfz15_2, hfz15_3⟩ := bc4_ BK533.out
  obtain ⟨Ao16, co16, eo16⟩ := Kd.R_slice HO_534001.out
  subst eo16
  go_wp2_with (first | ((with_reducible refine gate_callee (f := 65) rfl ?_); refine goesL_ (some 21) rfl rfl Try.func65 (by kernel_rfl) rfl #[.agg #[.int .i64 x534000_1, .slice Ao16 x534001_1.length co16, .int .i64 x534002_1, .bool x534003_1], .int .i64 (rd l1 x15_1)] rfl mp_ ?_; (with_reducible refine (impl_signalled.calls k1 x534000_1 (fun k_ => some k_ = (.slice Ao16 x534001_1.length co16 : Value).ownBlock) (.slice Ao16 x534001_1.length co16) x534001_1 x534002_1 x534003_1 (rd l1 x15_1) t536 t537 t540 t541 w0 _ ?side1 ?side2 A13.out).mono ?_); (case side1 => repeat (first | (with_reducible first | exact HB.out | apply below_alloc | apply pw_below_drewN | apply below_drew1 | refine below_set ?_ GE533.out) | exact HB.out)); (case side2 => exact Kd.R_tight rfl HO_534001.out); rintro e w17 ⟨v538, rfl, ho0, hb, hkp⟩; refine ⟨_, rfl, ?_⟩; have n0_ := Aside0.mk (blk_kept (pk_ BK533.out) hkp (fun hs_ => (fun e_ => (Kd.R_ne HO_534001.out BK533.out (by decide)) e_) hs_)); have n1_ := Aside0.mk (Kd.R_mono (ok' := fun k_ => (P0_1_ k_ ∨ w.heap.size ≤ k_)) ho0 (fun k_ hk_ => Or.elim hk_ (fun hs_ => (HO_534001.out.1 k_ (hs_).symm)) (fun hn_ => (.inr (Nat.le_trans (by first | exact HK.out.1 | exact (show Kept w _ (fun k_ => P0_1_ k_) from by repeat (first | (with_reducible first | exact HK.out | apply Kept.alloc | apply Kept.drewN | apply Kept.drew | refine Kept.setCell ?_ (.inr GW533.out) _) | exact HK.out)).1) hn_))))); have n2_ := Aside0.mk (Kept.then_ (S := (fun k_ => P0_1_ k_)) (by repeat (first | (with_reducible first | exact HK.out | apply Kept.alloc | apply Kept.drewN | apply Kept.drew | refine Kept.setCell ?_ (.inr GW533.out) _) | exact HK.out)) hkp (fun k_ hs_ => (fun e_ => (HO_534001.out.1 k_ e_.symm)) hs_)); have n3_ := Aside0.mk (hb); clear BK533; clear HK; clear HB; clear HO_534001; have BK533 := n0_; have HO539 := n1_; have HK := n2_; have HB := n3_; clear n0_ n1_ n2_ n3_; (try clear hb); (try clear hkp); (try clear ho0); have hcz18_0 : w17.cell? ⟨gb533, 0, none⟩ = some (.int .i64 x534000_1) := (blk_cell BK533.out 0).trans rfl; have hcz18_1 : w17.cell? ⟨gb533, 1, none⟩ = some (.slice Ao16 x534001_1.length co16) := (blk_cell BK533.out 1).trans rfl; have hcz18_2 : w17.cell? ⟨gb533, 2, none⟩ = some (.int .i64 x534002_1) := (blk_cell BK533.out 2).trans rfl; have hcz18_3 : w17.cell? ⟨gb533, 3, none⟩ = some (.bool x534003_1) := (blk_cell BK533.out 3).trans rfl; have hfz18_0 := blk_frozen BK533.out 0; have hfz18_1 := blk_frozen BK533.out 1; have hfz18_2 := blk_frozen BK533.out 2; have hfz18_3 := blk_frozen BK533.out 3; obtain ⟨Ao19, co19, eo19⟩ := Kd.R_slice HO539.out; subst eo19))
  go_roundg k1
  case measure => have := HK1.out; omega
  case rel => exact ⟨(ji14), (wrap64 (x15_1 + 1)), (t536), (t537), (t540), (t541), (.slice Ao19 t537.length co19), (by first | rfl | (simp; done) | (simp only [← hji14] <;> (first | rfl | simp)) | (simp [*]; done)), el_, H', ⟨by have := HK1.out; omega⟩, ⟨pr_ (Kd.R_mono (Kd.R_far (p := ⟨gb533, 3, none⟩) (Kd.R_far (p := ⟨gb533, 2, none⟩) (Kd.R_far (p := ⟨gb533, 1, none⟩) (Kd.R_far (p := ⟨gb533, 0, none⟩) (Kd.R_types HO539.out BK533.out (by decide)) (fun _ hk => hk.2) (.int .i64 t536)) (fun _ hk => hk.2) (.slice Ao19 t537.length co19)) (fun _ hk => hk.2) (.int .i64 t540)) (fun _ hk => hk.2) (.bool t541)) (fun _ hk => hk.1))⟩, ⟨pp_ BK533.out⟩, ⟨by repeat (first | (with_reducible first | exact HK.out | apply Kept.alloc | apply Kept.drewN | apply Kept.drew | refine Kept.setCell ?_ (.inr GW533.out) _) | exact HK.out)⟩, ⟨pb1_ HB.out GE533.out⟩⟩

/-! ### spec_l1Once: function 67 -/
def spec_l1Once.f (s0_0 : List Int) (s0_1 : Int) (s0_2 : Int) (a1 : Int) : Option (Bool × Int × Int) := (spec_l1Below.f s0_0 s0_1 s0_2 a1).bind fun bt542 => (some ((bt542.1 == 0), bt542.2.1, bt542.2.2))
set_option maxHeartbeats 8000000 in
set_option maxRecDepth 100000 in
theorem spec_l1Once.calls (g : Nat) (s0_0 : List Int) (s0_1 : Int) (s0_2 : Int) (a1 : Int) (r1 : Bool) (r2 : Int) (r3 : Int) (w0 w : World) (hI : IsS73 w0 w g s0_0 s0_1 s0_2) (hB : Below w0.heap.size w0 w) (h : spec_l1Once.f s0_0 s0_1 s0_2 a1 = some (r1, r2, r3)) :
    Calls Try.prog 67 #[.pointer (some ⟨g, 0, none⟩), .int .i64 a1] w fun e w' => e = .returned (.bool r1) ∧ IsS73 w0 w' g s0_0 r2 r3 ∧ Below w0.heap.size w0 w' ∧ KeepBut w w' g none := by
  have HI0 := Aside0.mk hI
  have HK := Aside0.mk (KeepBut.refl w g none)
  have HL := Aside0.mk hB.size
  clear hI
  have HW0 := Aside0.mk hB.size
  have HB := Aside0.mk hB
  clear hB
  have H : ((spec_l1Below.f s0_0 s0_1 s0_2 a1).bind fun bt542 => (some ((bt542.1 == 0), bt542.2.1, bt542.2.2))) = some (r1, r2, r3) := h
  clear h
  replace H := Option.bind_eq_some_iff.mp H
  obtain ⟨⟨t542, t543, t544⟩, A30, H⟩ := H
  replace H : (some ((t542 == 0), t543, t544)) = some (r1, r2, r3) := H
  have A3 := Aside0.mk A30
  clear A30
  simp only [Option.some.injEq, Prod.mk.injEq] at H
  obtain ⟨rfl, rfl, rfl⟩ := H
  go_enter Try.func67, Try.ntmps67
  go_wp2_with (first | ((with_reducible refine gate_callee (f := 66) rfl ?_); refine goesL_ (some 7) rfl rfl Try.func66 (by kernel_rfl) rfl #[.pointer (some ⟨g, 0, none⟩), .int .i64 a1] rfl mp_ ?_; (with_reducible refine (spec_l1Below.calls g s0_0 s0_1 s0_2 a1 t542 t543 t544 w0 _ ?side1 ?side2 A3.out).mono ?_); (case side1 => repeat (first | (with_reducible first | exact HI0.out | apply IsS73.alloc | apply IsS73.drewN | apply IsS73.drew | apply IsS73.set_1 | apply IsS73.set_2) | exact HI0.out)); (case side2 => repeat (first | (with_reducible first | exact HB.out | apply below_alloc | apply pw_below_drewN | apply below_drew1 | refine below_set ?_ (IsS73.ge HI0.out)) | exact HB.out)); rintro e w4 ⟨rfl, hi, hb, hk⟩; refine ⟨_, rfl, ?_⟩; have n0_ := Aside0.mk (KeepBut.trans (by repeat (first | (with_reducible first | exact HK.out | apply KeepBut.set_ | apply keep_drewN | apply keep_drew | apply keep_alloc) | exact HK.out)) hk (.inl rfl)); have n1_ := Aside0.mk (hb); have n2_ := Aside0.mk (hi); clear HK; clear HB; clear HI0; have HK := n0_; have HB := n1_; have HI0 := n2_; clear n0_ n1_ n2_; (try clear hb); (try clear hb2); (try clear hk); (try clear hi)))
  go_ret
  exact ⟨er_, by repeat (first | (with_reducible first | exact HI0.out | apply IsS73.alloc | apply IsS73.drewN | apply IsS73.drew | apply IsS73.set_1 | apply IsS73.set_2) | exact HI0.out), by repeat (first | (with_reducible first | exact HB.out | apply below_alloc | apply pw_below_drewN | apply below_drew1 | refine below_set ?_ (IsS73.ge HI0.out)) | exact HB.out), by repeat (first | (with_reducible first | exact HK.out | apply KeepBut.set_ | apply keep_drewN | apply keep_drew | apply keep_alloc) | exact HK.out)⟩

/-! ### spec_DrawHurtAt: function 47 -/
def spec_DrawHurtAt.l0 : Nat → Int → List Bool → Int → List Int → Int → Int → Int → List Int → Int → Bool → Option (Int × List Int × Int × Bool × Int × List Bool)
  | 0, _, _, _, _, _, _, _, _, _, _ => none
  | k + 1, x7, x8, x9, x550000, x550001, x550002, x559000, x559001, x559002, x559003 => if x9 < x7 then ((spec_l1Once.f x550000 x550001 x550002 2).bind fun bt565 => (if x8.length < 140737488355328 then (spec_DrawHurtAt.l0 k x7 (x8 ++ [bt565.1]) (wrap64 (x9 + 1)) x550000 bt565.2.1 bt565.2.2 x559000 x559001 x559002 x559003) else (none))) else ((spec_l1Once.f x550000 x550001 x550002 8).bind fun bt571 => (if bt571.1 = true then (some (x559000, x559001, x559002, x559003, wrap64 (x7 + 1), x8)) else (some (x559000, x559001, x559002, x559003, x7, x8))))
def spec_DrawHurtAt.f (k : Nat) (l0 : List Int) : Option (Int × List Int × Int × Bool × Int × List Bool) := (spec_l1New.f k l0).bind fun bt546 => ((spec_l26Any.f k bt546.1 bt546.2.1 bt546.2.2).bind fun bt550 => ((spec_l1Below.f bt546.1 bt550.2.2.2.2.1 bt550.2.2.2.2.2 10).bind fun bt559 => (spec_DrawHurtAt.l0 k bt559.1 (([] : List Bool)) 0 bt546.1 bt559.2.1 bt559.2.2 bt550.1 bt550.2.1 bt550.2.2.1 bt550.2.2.2.1)))
theorem spec_DrawHurtAt.mono_l : ∀ k, (∀ y0 y1 y2 y3 y4 y5 y6 y7 y8 y9, LeO (spec_DrawHurtAt.l0 k y0 y1 y2 y3 y4 y5 y6 y7 y8 y9) (spec_DrawHurtAt.l0 (k + 1) y0 y1 y2 y3 y4 y5 y6 y7 y8 y9))
  | 0 => fun _ _ _ _ _ _ _ _ _ _ r h => by simp [spec_DrawHurtAt.l0] at h
  | k + 1 => by
    have ih0 := spec_DrawHurtAt.mono_l k
    · intro y0 y1 y2 y3 y4 y5 y6 y7 y8 y9
      unfold spec_DrawHurtAt.l0
      repeat' first
      | (with_reducible exact ih0 _ _ _ _ _ _ _ _ _ _)
      | (with_reducible exact spec_l1New.mono _ _)
      | (with_reducible exact spec_l26Any.mono _ _ _ _)
      | (with_reducible exact LeO.refl _)
      | (with_reducible exact LeO.none _)
      | (with_reducible refine LeO.ite ?_ ?_)
      | (with_reducible refine LeO.bind ?_ (fun _ => ?_))
      | exact ih0 _ _ _ _ _ _ _ _ _ _
      | exact spec_l1New.mono _ _
      | exact spec_l26Any.mono _ _ _ _
      | exact LeO.none _
      | refine LeO.ite ?_ ?_
      | refine LeO.bind ?_ (fun _ => ?_)
theorem spec_DrawHurtAt.mono : ∀ a0 k, LeO (spec_DrawHurtAt.f k a0) (spec_DrawHurtAt.f (k + 1) a0) := by
  intro a0 k
  have ih0 := spec_DrawHurtAt.mono_l k
  unfold spec_DrawHurtAt.f
  repeat' first
      | (with_reducible exact ih0 _ _ _ _ _ _ _ _ _ _)
      | (with_reducible exact spec_l1New.mono _ _)
      | (with_reducible exact spec_l26Any.mono _ _ _ _)
      | (with_reducible exact LeO.refl _)
      | (with_reducible exact LeO.none _)
      | (with_reducible refine LeO.ite ?_ ?_)
      | (with_reducible refine LeO.bind ?_ (fun _ => ?_))
      | exact ih0 _ _ _ _ _ _ _ _ _ _
      | exact spec_l1New.mono _ _
      | exact spec_l26Any.mono _ _ _ _
      | exact LeO.none _
      | refine LeO.ite ?_ ?_
      | refine LeO.bind ?_ (fun _ => ?_)
set_option maxHeartbeats 8000000 in
set_option maxRecDepth 100000 in
theorem spec_DrawHurtAt.calls (k : Nat) (A0 : Option Addr) (c0 : Nat) (l0 : List Int) (r1 : Int) (r2 : List Int) (r3 : Int) (r4 : Bool) (r5 : Int) (r6 : List Bool) (w : World) (hr0 : Kd.C (Kd.int .u8) w A0 l0.length l0) (hc0 : l0.length ≤ c0) (h : spec_DrawHurtAt.f k l0 = some (r1, r2, r3, r4, r5, r6)) :
    Calls Try.prog 47 #[.slice A0 l0.length c0] w fun e w' => ∃ v1_ v5_ : Value, e = .returned (.tuple #[.agg #[.int .i64 r1, v1_, .int .i64 r3, .bool r4], .int .i64 r5, v5_]) ∧ Kd.R (Kd.int .i64) 3 w' w.heap.size (fun _ => True) v1_ r2 ∧ Kd.R Kd.bool 4 w' w.heap.size (fun _ => True) v5_ r6 ∧ Below w.heap.size w w' := by
  have hu27 := Try.underlying27
  have HR0 := Aside0.mk hr0
  have HC0 := Aside0.mk hc0
  clear hr0 hc0
  have HB := Aside0.mk (Below.refl w.heap.size w)
  have H : ((spec_l1New.f k l0).bind fun bt546 => ((spec_l26Any.f k bt546.1 bt546.2.1 bt546.2.2).bind fun bt550 => ((spec_l1Below.f bt546.1 bt550.2.2.2.2.1 bt550.2.2.2.2.2 10).bind fun bt559 => (spec_DrawHurtAt.l0 k bt559.1 (([] : List Bool)) 0 bt546.1 bt559.2.1 bt559.2.2 bt550.1 bt550.2.1 bt550.2.2.1 bt550.2.2.2.1)))) = some (r1, r2, r3, r4, r5, r6) := h
  clear h
  replace H := Option.bind_eq_some_iff.mp H
  obtain ⟨⟨t546, t547, t548⟩, A20, H⟩ := H
  (try dsimp only at H)
  have A2 := Aside0.mk A20
  clear A20
  replace H := Option.bind_eq_some_iff.mp H
  obtain ⟨⟨t550, t551, t554, t555, t556, t557⟩, A30, H⟩ := H
  (try dsimp only at H)
  have A3 := Aside0.mk A30
  clear A30
  replace H := Option.bind_eq_some_iff.mp H
  obtain ⟨⟨t559, t560, t561⟩, A40, H⟩ := H
  (try dsimp only at H)
  have A4 := Aside0.mk A40
  clear A40
  obtain ⟨y562, hy562⟩ : ∃ y_ : List Bool, y_ = (([] : List Bool)) := ⟨_, rfl⟩
  replace H : (spec_DrawHurtAt.l0 k t559 y562 0 t546 t560 t561 t550 t551 t554 t555) = some (r1, r2, r3, r4, r5, r6) := by first | (rw [hy562]; with_reducible exact H) | (have H2_ := (Option.bind_some _ _).symm.trans H; rw [hy562]; with_reducible exact H2_) | (have H2_ := (Option.bind_some _ _).symm.trans H; with_reducible exact H2_) | with_reducible exact H | (rw [hy562]; exact H) | exact H
  have Ny562 := Aside0.mk hy562
  clear hy562
  have H' := Aside0.mk H
  clear H
  go_enter Try.func47, Try.ntmps47
  go_wp2_with (first | ((with_reducible refine gate_dst (N := 2) rfl ?_); refine box_event ?hg (N := 2) ?hd (cs := #[.int .i64 0, .slice none 0 0, .int .i64 0, .bool false]) (t := 27) ?hr ?_; (case hd => rfl); (case hg => rfl); (case hr => first | (go_simp; done) | (go_simp; rfl)); intro gb545 hg w5 hbox hb; have n0_ := Aside0.mk (below_step (pb_ HB.out) hb); have n1_ := Aside0.mk (hbox); have n2_ := Aside0.mk ((by rw [hg]; exact (below_size (pb_ HB.out)) : w.heap.size ≤ gb545)); have n3_ := Aside0.mk ((by rw [hg]; exact (below_size (pb_ HB.out)) : w.heap.size ≤ gb545)); clear HB; have HB := n0_; have BK545 := n1_; have GW545 := n2_; have GE545 := n3_; clear n0_ n1_ n2_ n3_; clear hb hbox hg) | ((with_reducible refine gate_callee (f := 61) rfl ?_); refine goesL_ (some 11) rfl rfl Try.func61 (by kernel_rfl) rfl #[.slice A0 l0.length c0] rfl mp_ ?_; (with_reducible refine (spec_l1New.calls k _ _ l0 t546 t547 t548 w _ ?side1 ?side2 ?side3 A2.out).mono ?_); (case side1 => repeat (first | (with_reducible first | exact HB.out | apply below_alloc | apply pw_below_drewN | apply below_drew1 | refine below_set ?_ GE545.out) | exact HB.out)); (case side2 => exact HR0.out); (case side3 => exact HC0.out); rintro e w6 ⟨g549, rfl, hi, hb, hb2⟩; refine ⟨_, rfl, ?_⟩; have n0_ := Aside0.mk (bb_ BK545.out hb2); have n1_ := Aside0.mk (hb); have n2_ := Aside0.mk (hi); have n3_ := Aside0.mk (IsS73.ne_blk hi (bb_ BK545.out hb2) (by decide)); have n4_ := Aside0.mk (Ne.symm (IsS73.ne_blk hi (bb_ BK545.out hb2) (by decide))); clear BK545; clear HB; have BK545 := n0_; have HB := n1_; have HI549 := n2_; have NB549_545 := n3_; have NB545_549 := n4_; clear n0_ n1_ n2_ n3_ n4_; (try clear hb); (try clear hb2); (try clear hk); (try clear hi)) | ((with_reducible refine gate_callee (f := 62) rfl ?_); refine goesL_ (some 13) rfl rfl Try.func62 (by kernel_rfl) rfl #[.pointer (some ⟨g549, 0, none⟩)] rfl mp_ ?_; (with_reducible refine (spec_l26Any.calls k g549 t546 t547 t548 t550 t551 t554 t555 t556 t557 w _ ?side1 ?side2 A3.out).mono ?_); (case side1 => repeat (first | (with_reducible first | exact HI549.out | apply IsS73.alloc | apply IsS73.drewN | apply IsS73.drew | apply IsS73.set_1 | apply IsS73.set_2 | refine IsS73.far ?_ NB549_545.out _) | exact HI549.out)); (case side2 => repeat (first | (with_reducible first | exact HB.out | apply below_alloc | apply pw_below_drewN | apply below_drew1 | refine below_set ?_ (IsS73.ge HI549.out) | refine below_set ?_ GE545.out) | exact HB.out)); rintro e w7 ⟨v552, rfl, ho0, hi, hb, hk⟩; refine ⟨_, rfl, ?_⟩; have n0_ := Aside0.mk (KeepBut.blk hk (g' := gb545) (o := .cells #[.int .i64 0, .slice none 0 0, .int .i64 0, .bool false] 27 (0, 0)) (pk_ BK545.out) NB545_549.out (by simp)); have n1_ := Aside0.mk (Kd.R_lower ho0 (below_size (by repeat (first | (with_reducible first | exact HB.out | apply below_alloc | apply pw_below_drewN | apply below_drew1 | refine below_set ?_ (IsS73.ge HI549.out) | refine below_set ?_ GE545.out) | exact HB.out)))); have n2_ := Aside0.mk (hb); have n3_ := Aside0.mk (hi); clear BK545; clear HB; clear HI549; have BK545 := n0_; have HO553 := n1_; have HB := n2_; have HI549 := n3_; clear n0_ n1_ n2_ n3_; (try clear hb); (try clear hb2); (try clear hk); (try clear hi); (try clear ho0)) | ((with_reducible refine gate_dst (N := 6) rfl ?_); refine box_event ?hg (N := 6) ?hd (cs := #[.int .i64 0, .slice none 0 0, .int .i64 0, .bool false]) (t := 27) ?hr ?_; (case hd => rfl); (case hg => rfl); (case hr => first | (go_simp; done) | (go_simp; rfl)); intro gb558 hg w8 hbox hb; have n0_ := Aside0.mk (Kd.R_below (pr_ HO553.out) hb); have n1_ := Aside0.mk (bb_ BK545.out hb); have n2_ := Aside0.mk (IsS73.below (by repeat (first | (with_reducible first | exact HI549.out | apply IsS73.alloc | apply IsS73.drewN | apply IsS73.drew | apply IsS73.set_1 | apply IsS73.set_2 | refine IsS73.far ?_ NB549_545.out _) | exact HI549.out)) hb); have n3_ := Aside0.mk (below_step (by repeat (first | (with_reducible first | exact HB.out | apply below_alloc | apply pw_below_drewN | apply below_drew1 | refine below_set ?_ (IsS73.ge HI549.out) | refine below_set ?_ GE545.out) | exact HB.out)) hb); have n4_ := Aside0.mk (hbox); have n5_ := Aside0.mk ((by rw [hg]; exact (below_size (by repeat (first | (with_reducible first | exact HB.out | apply below_alloc | apply pw_below_drewN | apply below_drew1 | refine below_set ?_ (IsS73.ge HI549.out) | refine below_set ?_ GE545.out) | exact HB.out))) : w.heap.size ≤ gb558)); have n6_ := Aside0.mk ((by rw [hg]; exact (below_size (by repeat (first | (with_reducible first | exact HB.out | apply below_alloc | apply pw_below_drewN | apply below_drew1 | refine below_set ?_ (IsS73.ge HI549.out) | refine below_set ?_ GE545.out) | exact HB.out))) : w.heap.size ≤ gb558)); have n7_ := Aside0.mk ((by rw [hg]; exact Nat.ne_of_lt (blk_lt (pk_ BK545.out)) : gb545 ≠ gb558)); have n8_ := Aside0.mk ((by rw [hg]; exact Nat.ne_of_gt (blk_lt (pk_ BK545.out)) : gb558 ≠ gb545)); have n9_ := Aside0.mk ((by rw [hg]; exact Nat.ne_of_lt (IsS73.lt (show IsS73 w _ g549 t546 t556 t557 from by repeat (first | (with_reducible first | exact HI549.out | apply IsS73.alloc | apply IsS73.drewN | apply IsS73.drew | apply IsS73.set_1 | apply IsS73.set_2 | refine IsS73.far ?_ NB549_545.out _) | exact HI549.out))) : g549 ≠ gb558)); have n10_ := Aside0.mk ((by rw [hg]; exact Nat.ne_of_gt (IsS73.lt (show IsS73 w _ g549 t546 t556 t557 from by repeat (first | (with_reducible first | exact HI549.out | apply IsS73.alloc | apply IsS73.drewN | apply IsS73.drew | apply IsS73.set_1 | apply IsS73.set_2 | refine IsS73.far ?_ NB549_545.out _) | exact HI549.out))) : gb558 ≠ g549)); clear HO553; clear BK545; clear HI549; clear HB; have HO553 := n0_; have BK545 := n1_; have HI549 := n2_; have HB := n3_; have BK558 := n4_; have GW558 := n5_; have GE558 := n6_; have NB545_558 := n7_; have NB558_545 := n8_; have NB549_558 := n9_; have NB558_549 := n10_; clear n0_ n1_ n2_ n3_ n4_ n5_ n6_ n7_ n8_ n9_ n10_; clear hb hbox hg; have hnb9 := NB558_545.out; have hnc9 := NB545_558.out; have hnb10 := NB558_549.out; have hnc10 := NB549_558.out; have hcz11_0 : w8.cell? ⟨gb558, 0, none⟩ = some (.int .i64 0) := (blk_cell BK558.out 0).trans rfl; have hcz11_1 : w8.cell? ⟨gb558, 1, none⟩ = some (.slice none 0 0) := (blk_cell BK558.out 1).trans rfl; have hcz11_2 : w8.cell? ⟨gb558, 2, none⟩ = some (.int .i64 0) := (blk_cell BK558.out 2).trans rfl; have hcz11_3 : w8.cell? ⟨gb558, 3, none⟩ = some (.bool false) := (blk_cell BK558.out 3).trans rfl; have hfz11_0 := blk_frozen BK558.out 0; have hfz11_1 := blk_frozen BK558.out 1; have hfz11_2 := blk_frozen BK558.out 2; have hfz11_3 := blk_frozen BK558.out 3; obtain ⟨Ao12, co12, eo12⟩ := Kd.R_slice HO553.out; subst eo12) | ((with_reducible refine gate_callee (f := 66) rfl ?_); refine goesL_ (some 15) rfl rfl Try.func66 (by kernel_rfl) rfl #[.pointer (some ⟨g549, 0, none⟩), .int .i64 10] rfl mp_ ?_; (with_reducible refine (spec_l1Below.calls g549 t546 t556 t557 10 t559 t560 t561 w _ ?side1 ?side2 A4.out).mono ?_); (case side1 => repeat (first | (with_reducible first | exact HI549.out | apply IsS73.alloc | apply IsS73.drewN | apply IsS73.drew | apply IsS73.set_1 | apply IsS73.set_2 | refine IsS73.far ?_ NB549_545.out _ | refine IsS73.far ?_ NB549_558.out _) | exact HI549.out)); (case side2 => repeat (first | (with_reducible first | exact HB.out | apply below_alloc | apply pw_below_drewN | apply below_drew1 | refine below_set ?_ (IsS73.ge HI549.out) | refine below_set ?_ GE545.out | refine below_set ?_ GE558.out) | exact HB.out)); rintro e w13 ⟨rfl, hi, hb, hk⟩; refine ⟨_, rfl, ?_⟩; have n0_ := Aside0.mk (KeepBut.blk hk (g' := gb545) (o := .cells #[.int .i64 0, .slice none 0 0, .int .i64 0, .bool false] 27 (0, 0)) (pp_ BK545.out) NB545_549.out (by simp)); have n1_ := Aside0.mk (Kd.R_mono (Kd.R_keep (IsS73.apart (show IsS73 w _ g549 t546 t556 t557 from by repeat (first | (with_reducible first | exact HI549.out | apply IsS73.alloc | apply IsS73.drewN | apply IsS73.drew | apply IsS73.set_1 | apply IsS73.set_2 | refine IsS73.far ?_ NB549_545.out _ | refine IsS73.far ?_ NB549_558.out _) | exact HI549.out)) (pr_ (rf4_ HO553.out BK558.out)) (by decide)) hk (fun _ h => h.2)) (fun _ h => h.1)); have n2_ := Aside0.mk (KeepBut.blk hk (g' := gb558) (o := .cells #[.int .i64 t550, .slice Ao12 t551.length co12, .int .i64 t554, .bool t555] 27 (0, 0)) (pp_ BK558.out) NB558_549.out (by simp)); have n3_ := Aside0.mk (hb); have n4_ := Aside0.mk (hi); clear BK545; clear HO553; clear BK558; clear HB; clear HI549; have BK545 := n0_; have HO553 := n1_; have BK558 := n2_; have HB := n3_; have HI549 := n4_; clear n0_ n1_ n2_ n3_ n4_; (try clear hb); (try clear hb2); (try clear hk); (try clear hi)) | ((with_reducible refine gate_dst (N := 16) rfl ?_); refine Kd.R_lit Kd.bool _ 4 ?hg (N := 16) ?hd (xs := ([] : List Bool)) (inner := []) (ok := fun _ => True) (okp := fun _ => True) ?hr ?hp (fun _ hk => hk) trivial (Below.refl _ _) (Nat.le_refl _) (by simp) ?_; (case hd => rfl); (case hg => rfl); (case hr => first | (go_simp; done) | (go_simp; rfl)); (case hp => exact (Reps.none _ _)); intro v563 w14 ho15 hb hg_ hnew_; clear hg_ hnew_; (first | rw [← Ny562.out] at ho15 | (simp only [Int.reduceToNat] at ho15; rw [← Ny562.out] at ho15)); have n0_ := Aside0.mk (Kd.R_below (pr_ HO553.out) hb); have n1_ := Aside0.mk (Kd.R_lower ho15 (below_size (by repeat (first | (with_reducible first | exact HB.out | apply below_alloc | apply pw_below_drewN | apply below_drew1 | refine below_set ?_ (IsS73.ge HI549.out) | refine below_set ?_ GE545.out | refine below_set ?_ GE558.out) | exact HB.out)))); have n2_ := Aside0.mk (bb_ BK545.out hb); have n3_ := Aside0.mk (IsS73.below (by repeat (first | (with_reducible first | exact HI549.out | apply IsS73.alloc | apply IsS73.drewN | apply IsS73.drew | apply IsS73.set_1 | apply IsS73.set_2 | refine IsS73.far ?_ NB549_545.out _ | refine IsS73.far ?_ NB549_558.out _) | exact HI549.out)) hb); have n4_ := Aside0.mk (bb_ BK558.out hb); have n5_ := Aside0.mk (below_step (by repeat (first | (with_reducible first | exact HB.out | apply below_alloc | apply pw_below_drewN | apply below_drew1 | refine below_set ?_ (IsS73.ge HI549.out) | refine below_set ?_ GE545.out | refine below_set ?_ GE558.out) | exact HB.out)) hb); clear HO553; clear BK545; clear HI549; clear BK558; clear HB; have HO553 := n0_; have HO564 := n1_; have BK545 := n2_; have HI549 := n3_; have BK558 := n4_; have HB := n5_; clear n0_ n1_ n2_ n3_ n4_ n5_; clear hb ho15))
  (try simp only [Act.put, List.setIfInBounds_toArray, List.set_cons_zero, List.set_cons_succ])
  go_loopg [8, 9] k (fun kq v8 v9 w' => ∃ (x8_1 : List Bool) (x9_1 : Int) (x550001_1 : Int) (x550002_1 : Int), v9 = .int .i64 x9_1 ∧ Aside0 (spec_DrawHurtAt.l0 kq t559 x8_1 x9_1 t546 x550001_1 x550002_1 t550 t551 t554 t555 = some (r1, r2, r3, r4, r5, r6)) ∧ Aside0 (kq ≤ k) ∧ Aside0 (Kd.R Kd.bool 4 w' w.heap.size (fun _ => True) v8 x8_1) ∧ Aside0 (Kd.R (Kd.int .i64) 3 w' w.heap.size (fun _ => True) (.slice Ao12 t551.length co12) t551) ∧ Aside0 (w'.heap[gb545]? = some (.cells #[.int .i64 0, (.slice none 0 0), .int .i64 0, .bool false] 27 (0, 0))) ∧ Aside0 (w'.heap[gb558]? = some (.cells #[.int .i64 t550, (.slice Ao12 t551.length co12), .int .i64 t554, .bool t555] 27 (0, 0))) ∧ Aside0 (IsS73 w w' g549 t546 x550001_1 x550002_1) ∧ Aside0 (Below w.heap.size w w'))
  case atStart => exact ⟨(y562), (0), (t560), (t561), el_, H', ⟨Nat.le_refl _⟩, ⟨pr_ HO564.out⟩, ⟨pr_ HO553.out⟩, ⟨pk_ BK545.out⟩, ⟨pk_ BK558.out⟩, ⟨by repeat (first | (with_reducible first | exact HI549.out | apply IsS73.alloc | apply IsS73.drewN | apply IsS73.drew | apply IsS73.set_1 | apply IsS73.set_2 | refine IsS73.far ?_ NB549_545.out _ | refine IsS73.far ?_ NB549_558.out _) | exact HI549.out)⟩, ⟨by repeat (first | (with_reducible first | exact HB.out | apply below_alloc | apply pw_below_drewN | apply below_drew1 | refine below_set ?_ (IsS73.ge HI549.out) | refine below_set ?_ GE545.out | refine below_set ?_ GE558.out) | exact HB.out)⟩⟩
  clear H'
  try clear c1
  try clear p2
  try clear c4
  try clear c6
  try clear c9
  try clear c10
  try clear hcz11_0
  try clear hcz11_1
  try clear hcz11_2
  try clear hcz11_3
  try clear hfz11_0
  try clear hfz11_1
  try clear hfz11_2
  try clear hfz11_3
  obtain ⟨x8_1, x9_1, x550001_1, x550002_1, rfl, HA, HK1, HO_8, HO_559001, BK545, BK558, HI549, HB⟩ := hrel
  rcases gk with _ | k1
  · exact absurd HA.out (by simp [spec_DrawHurtAt.l0])
  have H := HA.out
  clear HA
  simp only [spec_DrawHurtAt.l0] at H
  by_cases c16 : x9_1 < t559
  · rw [if_pos c16] at H
    have c16b0 : decide (x9_1 < t559) = true := decide_eq_true c16
    clear c16
    replace H := Option.bind_eq_some_iff.mp H
    obtain ⟨⟨t565, t566, t567⟩, A170, H⟩ := H
    (try dsimp only at H)
    have A17 := Aside0.mk A170
    clear A170
    by_cases c18 : x8_1.length < 140737488355328
    rotate_left
    · rw [if_neg c18] at H
      exact absurd H (by simp)
    rw [if_pos c18] at H
    have LMc18 := Aside0.mk c18
    clear c18
    obtain ⟨y568, hy568⟩ : ∃ y_ : List Bool, y_ = (x8_1 ++ [t565]) := ⟨_, rfl⟩
    replace H : (spec_DrawHurtAt.l0 k1 t559 y568 (wrap64 (x9_1 + 1)) t546 t566 t567 t550 t551 t554 t555) = some (r1, r2, r3, r4, r5, r6) := by first | (rw [hy568]; with_reducible exact H) | (have H2_ := (Option.bind_some _ _).symm.trans H; rw [hy568]; with_reducible exact H2_) | (have H2_ := (Option.bind_some _ _).symm.trans H; with_reducible exact H2_) | with_reducible exact H | (rw [hy568]; exact H) | exact H
    have Ny568 := Aside0.mk hy568
    clear hy568
    have H' := Aside0.mk H
    clear H
    go_wp2_with (first | ((with_reducible refine gate_callee (f := 67) rfl ?_); refine goesL_ (some 24) rfl rfl Try.func67 (by kernel_rfl) rfl #[.pointer (some ⟨g549, 0, none⟩), .int .i64 2] rfl mp_ ?_; (with_reducible refine (spec_l1Once.calls g549 t546 x550001_1 x550002_1 2 t565 t566 t567 w _ ?side1 ?side2 A17.out).mono ?_); (case side1 => repeat (first | (with_reducible first | exact HI549.out | apply IsS73.alloc | apply IsS73.drewN | apply IsS73.drew | apply IsS73.set_1 | apply IsS73.set_2 | refine IsS73.far ?_ NB549_545.out _ | refine IsS73.far ?_ NB549_558.out _) | exact HI549.out)); (case side2 => repeat (first | (with_reducible first | exact HB.out | apply below_alloc | apply pw_below_drewN | apply below_drew1 | refine below_set ?_ (IsS73.ge HI549.out) | refine below_set ?_ GE545.out | refine below_set ?_ GE558.out) | exact HB.out)); rintro e w19 ⟨rfl, hi, hb, hk⟩; refine ⟨_, rfl, ?_⟩; have n0_ := Aside0.mk (Kd.R_mono (Kd.R_keep (IsS73.apart (show IsS73 w _ g549 t546 x550001_1 x550002_1 from by repeat (first | (with_reducible first | exact HI549.out | apply IsS73.alloc | apply IsS73.drewN | apply IsS73.drew | apply IsS73.set_1 | apply IsS73.set_2 | refine IsS73.far ?_ NB549_545.out _ | refine IsS73.far ?_ NB549_558.out _) | exact HI549.out)) (pr_ HO_8.out) (by decide)) hk (fun _ h => h.2)) (fun _ h => h.1)); have n1_ := Aside0.mk (Kd.R_mono (Kd.R_keep (IsS73.apart (show IsS73 w _ g549 t546 x550001_1 x550002_1 from by repeat (first | (with_reducible first | exact HI549.out | apply IsS73.alloc | apply IsS73.drewN | apply IsS73.drew | apply IsS73.set_1 | apply IsS73.set_2 | refine IsS73.far ?_ NB549_545.out _ | refine IsS73.far ?_ NB549_558.out _) | exact HI549.out)) (pr_ HO_559001.out) (by decide)) hk (fun _ h => h.2)) (fun _ h => h.1)); have n2_ := Aside0.mk (KeepBut.blk hk (g' := gb545) (o := .cells #[.int .i64 0, .slice none 0 0, .int .i64 0, .bool false] 27 (0, 0)) (pk_ BK545.out) NB545_549.out (by simp)); have n3_ := Aside0.mk (KeepBut.blk hk (g' := gb558) (o := .cells #[.int .i64 t550, .slice Ao12 t551.length co12, .int .i64 t554, .bool t555] 27 (0, 0)) (pk_ BK558.out) NB558_549.out (by simp)); have n4_ := Aside0.mk (hb); have n5_ := Aside0.mk (hi); clear HO_8; clear HO_559001; clear BK545; clear BK558; clear HB; clear HI549; have HO_8 := n0_; have HO_559001 := n1_; have BK545 := n2_; have BK558 := n3_; have HB := n4_; have HI549 := n5_; clear n0_ n1_ n2_ n3_ n4_ n5_; (try clear hb); (try clear hb2); (try clear hk); (try clear hi)) | ((with_reducible refine gate_builtin (b := .append) (xs := #[.tmp 22, .tmp 25]) rfl ?_); at_builtin; refine Kd.R_append Kd.bool (w0 := w) w.heap.size rfl (.tmp 22) (.tmp 25) 43 4 (.bool false) 1 rfl Try.underlying43 info4 rfl (by decide) (by omega) u8 x8_1 t565 [.bool t565] (fun _ => True) (fun _ => False) rfl rfl ?aP (fun _ hk => hk.elim) ?aF ?aO ?aB ?aS ?aL ?_; (case aP => exact rfl); (case aB => exact (by repeat (first | (with_reducible first | exact HB.out | apply below_alloc | apply pw_below_drewN | apply below_drew1 | refine below_set ?_ (IsS73.ge HI549.out) | refine below_set ?_ GE545.out | refine below_set ?_ GE558.out) | exact HB.out))); (case aF => exact (fun _ _ => trivial)); (case aO => exact (pr_ HO_8.out)); (case aS => exact (below_size (by repeat (first | (with_reducible first | exact HB.out | apply below_alloc | apply pw_below_drewN | apply below_drew1 | refine below_set ?_ (IsS73.ge HI549.out) | refine below_set ?_ GE545.out | refine below_set ?_ GE558.out) | exact HB.out)))); (case aL => have := LMc18.out; omega); intro v569 w20 ho hb hg hat; rw [← Ny568.out] at ho; have n0_ := Aside0.mk (Kd.R_over' (pr_ HO_559001.out) (Kd.R_typed (pr_ HO_8.out)) (by decide) hg); have n1_ := Aside0.mk (blk_grown (g := gb545) (o := .cells #[.int .i64 0, .slice none 0 0, .int .i64 0, .bool false] 27 (0, 0)) (pk_ BK545.out) hg (Kd.R_ne HO_8.out BK545.out (by decide))); have n2_ := Aside0.mk (blk_grown (g := gb558) (o := .cells #[.int .i64 t550, .slice Ao12 t551.length co12, .int .i64 t554, .bool t555] 27 (0, 0)) (pk_ BK558.out) hg (Kd.R_ne HO_8.out BK558.out (by decide))); have n3_ := Aside0.mk (IsS73.grown (by repeat (first | (with_reducible first | exact HI549.out | apply IsS73.alloc | apply IsS73.drewN | apply IsS73.drew | apply IsS73.set_1 | apply IsS73.set_2 | refine IsS73.far ?_ NB549_545.out _ | refine IsS73.far ?_ NB549_558.out _) | exact HI549.out)) hg (IsS73.own_ne HI549.out HO_8.out (by decide))); have n4_ := Aside0.mk (hb); have n5_ := Aside0.mk (ho); clear HO_559001; clear BK545; clear BK558; clear HI549; clear HB; clear HO_8; have HO_559001 := n0_; have BK545 := n1_; have BK558 := n2_; have HI549 := n3_; have HB := n4_; have HO570 := n5_; clear n0_ n1_ n2_ n3_ n4_ n5_; clear ho hb hg hat))
    go_roundg k1
    case measure => have := HK1.out; omega
    case rel => exact ⟨(y568), (wrap64 (x9_1 + 1)), (t566), (t567), el_, H', ⟨by have := HK1.out; omega⟩, ⟨pr_ HO570.out⟩, ⟨pr_ HO_559001.out⟩, ⟨pk_ BK545.out⟩, ⟨pk_ BK558.out⟩, ⟨by repeat (first | (with_reducible first | exact HI549.out | apply IsS73.alloc | apply IsS73.drewN | apply IsS73.drew | apply IsS73.set_1 | apply IsS73.set_2 | refine IsS73.far ?_ NB549_545.out _ | refine IsS73.far ?_ NB549_558.out _) | exact HI549.out)⟩, ⟨by repeat (first | (with_reducible first | exact HB.out | apply below_alloc | apply pw_below_drewN | apply below_drew1 | refine below_set ?_ (IsS73.ge HI549.out) | refine below_set ?_ GE545.out | refine below_set ?_ GE558.out) | exact HB.out)⟩⟩
  rw [if_neg c16] at H
  have c16b0 : decide (x9_1 < t559) = false := decide_eq_false c16
  clear c16
  replace H := Option.bind_eq_some_iff.mp H
  obtain ⟨⟨t571, t572, t573⟩, A210, H⟩ := H
  (try dsimp only at H)
  have A21 := Aside0.mk A210
  clear A210
  have HS_ := Aside0.mk H
  clear H
  go_upto_if 28 with (first | ((with_reducible refine gate_callee (f := 67) rfl ?_); refine goesL_ (some 28) rfl rfl Try.func67 (by kernel_rfl) rfl #[.pointer (some ⟨g549, 0, none⟩), .int .i64 8] rfl mp_ ?_; (with_reducible refine (spec_l1Once.calls g549 t546 x550001_1 x550002_1 8 t571 t572 t573 w _ ?side1 ?side2 A21.out).mono ?_); (case side1 => repeat (first | (with_reducible first | exact HI549.out | apply IsS73.alloc | apply IsS73.drewN | apply IsS73.drew | apply IsS73.set_1 | apply IsS73.set_2 | refine IsS73.far ?_ NB549_545.out _ | refine IsS73.far ?_ NB549_558.out _) | exact HI549.out)); (case side2 => repeat (first | (with_reducible first | exact HB.out | apply below_alloc | apply pw_below_drewN | apply below_drew1 | refine below_set ?_ (IsS73.ge HI549.out) | refine below_set ?_ GE545.out | refine below_set ?_ GE558.out) | exact HB.out)); rintro e w22 ⟨rfl, hi, hb, hk⟩; refine ⟨_, rfl, ?_⟩; have n0_ := Aside0.mk (Kd.R_mono (Kd.R_keep (IsS73.apart (show IsS73 w _ g549 t546 x550001_1 x550002_1 from by repeat (first | (with_reducible first | exact HI549.out | apply IsS73.alloc | apply IsS73.drewN | apply IsS73.drew | apply IsS73.set_1 | apply IsS73.set_2 | refine IsS73.far ?_ NB549_545.out _ | refine IsS73.far ?_ NB549_558.out _) | exact HI549.out)) (pr_ HO_8.out) (by decide)) hk (fun _ h => h.2)) (fun _ h => h.1)); have n1_ := Aside0.mk (Kd.R_mono (Kd.R_keep (IsS73.apart (show IsS73 w _ g549 t546 x550001_1 x550002_1 from by repeat (first | (with_reducible first | exact HI549.out | apply IsS73.alloc | apply IsS73.drewN | apply IsS73.drew | apply IsS73.set_1 | apply IsS73.set_2 | refine IsS73.far ?_ NB549_545.out _ | refine IsS73.far ?_ NB549_558.out _) | exact HI549.out)) (pr_ HO_559001.out) (by decide)) hk (fun _ h => h.2)) (fun _ h => h.1)); have n2_ := Aside0.mk (KeepBut.blk hk (g' := gb545) (o := .cells #[.int .i64 0, .slice none 0 0, .int .i64 0, .bool false] 27 (0, 0)) (pk_ BK545.out) NB545_549.out (by simp)); have n3_ := Aside0.mk (KeepBut.blk hk (g' := gb558) (o := .cells #[.int .i64 t550, .slice Ao12 t551.length co12, .int .i64 t554, .bool t555] 27 (0, 0)) (pk_ BK558.out) NB558_549.out (by simp)); have n4_ := Aside0.mk (hb); have n5_ := Aside0.mk (hi); clear HO_8; clear HO_559001; clear BK545; clear BK558; clear HB; clear HI549; have HO_8 := n0_; have HO_559001 := n1_; have BK545 := n2_; have BK558 := n3_; have HB := n4_; have HI549 := n5_; clear n0_ n1_ n2_ n3_ n4_ n5_; (try clear hb); (try clear hb2); (try clear hk); (try clear hi)))
  (try simp only [Act.put, List.setIfInBounds_toArray, List.set_cons_zero, List.set_cons_succ])
  have H := HS_.out
  clear HS_
  by_cases c23 : t571 = true
  rotate_left
  · replace c23 := Bool.eq_false_iff.mpr c23
    subst c23
    rw [if_neg (show ¬ (false = true) by decide)] at H
    simp only [Option.some.injEq, Prod.mk.injEq] at H
    obtain ⟨rfl, rfl, rfl, rfl, rfl, rfl⟩ := H
    have hnb24 := NB558_545.out
    have hnc24 := NB545_558.out
    have hnb25 := NB558_549.out
    have hnc25 := NB549_558.out
    obtain ⟨hcz26_0, hcz26_1, hcz26_2, hcz26_3, hfz26_0, hfz26_1, hfz26_2, hfz26_3⟩ := bc4_ BK558.out
    have hnb27 := NB545_549.out
    have hnc27 := NB549_545.out
    obtain ⟨hcz28_0, hcz28_1, hcz28_2, hcz28_3, hfz28_0, hfz28_1, hfz28_2, hfz28_3⟩ := bc4_ BK545.out
    go_wp2
    refine bodyPost_ret (results_ctt rfl _ _ gb545 27 #[.int .i64 t550, .slice Ao12 t551.length co12, .int .i64 t554, .bool t555] (0, 0) _ rfl (pp_ BK545.out) Try.underlying27 rfl (by kernel_rfl)) rfl ?_
    exact ⟨_, _, er_, pr_ (Kd.R_mono (rf4_ HO_559001.out BK545.out) (fun _ hk => trivial)), pr_ (Kd.R_mono (rf4_ HO_8.out BK545.out) (fun _ hk => trivial)), by repeat (first | (with_reducible first | exact HB.out | apply below_alloc | apply pw_below_drewN | apply below_drew1 | refine below_set ?_ (IsS73.ge HI549.out) | refine below_set ?_ GE545.out | refine below_set ?_ GE558.out) | exact HB.out)⟩
  subst c23
  rw [if_pos rfl] at H
  simp only [Option.some.injEq, Prod.mk.injEq] at H
  obtain ⟨rfl, rfl, rfl, rfl, rfl, rfl⟩ := H
  have hnb29 := NB558_545.out
  have hnc29 := NB545_558.out
  have hnb30 := NB558_549.out
  have hnc30 := NB549_558.out
  obtain ⟨hcz31_0, hcz31_1, hcz31_2, hcz31_3, hfz31_0, hfz31_1, hfz31_2, hfz31_3⟩ := bc4_ BK558.out
  have hnb32 := NB545_549.out
  have hnc32 := NB549_545.out
  obtain ⟨hcz33_0, hcz33_1, hcz33_2, hcz33_3, hfz33_0, hfz33_1, hfz33_2, hfz33_3⟩ := bc4_ BK545.out
  go_wp2
  refine bodyPost_ret (results_ctt rfl _ _ gb545 27 #[.int .i64 t550, .slice Ao12 t551.length co12, .int .i64 t554, .bool t555] (0, 0) _ rfl (pp_ BK545.out) Try.underlying27 rfl (by kernel_rfl)) rfl ?_
  exact ⟨_, _, er_, pr_ (Kd.R_mono (rf4_ HO_559001.out BK545.out) (fun _ hk => trivial)), pr_ (Kd.R_mono (rf4_ HO_8.out BK545.out) (fun _ hk => trivial)), by repeat (first | (with_reducible first | exact HB.out | apply below_alloc | apply pw_below_drewN | apply below_drew1 | refine below_set ?_ (IsS73.ge HI549.out) | refine below_set ?_ GE545.out | refine below_set ?_ GE558.out) | exact HB.out)⟩

/-! ### spec_l27Signals: function 68 -/
def spec_l27Signals.l0 : Nat → List Int → Int → List Int → Int → Int → Option (List Int × Int × Int)
  | 0, _, _, _, _, _ => none
  | k + 1, x3, x4, x1000, x1001, x1002 => if x4 > 0 then ((spec_l1Int.f x1000 x1001 x1002 (([0, 1, 1, 1, 2, 3] : List Int))).bind fun bt583 => (if x3.length < 17592186044416 then (spec_l27Signals.l0 k (x3 ++ [bt583.1]) (wrap64 (x4 - 1)) x1000 bt583.2.1 bt583.2.2) else (none))) else (some (x3, x1001, x1002))
def spec_l27Signals.f (k : Nat) (s0_0 : List Int) (s0_1 : Int) (s0_2 : Int) : Option (List Int × Int × Int) := (spec_l1Below.f s0_0 s0_1 s0_2 6).bind fun bt577 => (spec_l27Signals.l0 k (([] : List Int)) bt577.1 s0_0 bt577.2.1 bt577.2.2)
theorem spec_l27Signals.mono_l : ∀ k, (∀ y0 y1 y2 y3 y4, LeO (spec_l27Signals.l0 k y0 y1 y2 y3 y4) (spec_l27Signals.l0 (k + 1) y0 y1 y2 y3 y4))
  | 0 => fun _ _ _ _ _ r h => by simp [spec_l27Signals.l0] at h
  | k + 1 => by
    have ih0 := spec_l27Signals.mono_l k
    · intro y0 y1 y2 y3 y4
      unfold spec_l27Signals.l0
      repeat' first
      | (with_reducible exact ih0 _ _ _ _ _)
      | (with_reducible exact LeO.refl _)
      | (with_reducible exact LeO.none _)
      | (with_reducible refine LeO.ite ?_ ?_)
      | (with_reducible refine LeO.bind ?_ (fun _ => ?_))
      | exact ih0 _ _ _ _ _
      | exact LeO.none _
      | refine LeO.ite ?_ ?_
      | refine LeO.bind ?_ (fun _ => ?_)
theorem spec_l27Signals.mono : ∀ a0 a1 a2 k, LeO (spec_l27Signals.f k a0 a1 a2) (spec_l27Signals.f (k + 1) a0 a1 a2) := by
  intro a0 a1 a2 k
  have ih0 := spec_l27Signals.mono_l k
  unfold spec_l27Signals.f
  repeat' first
      | (with_reducible exact ih0 _ _ _ _ _)
      | (with_reducible exact LeO.refl _)
      | (with_reducible exact LeO.none _)
      | (with_reducible refine LeO.ite ?_ ?_)
      | (with_reducible refine LeO.bind ?_ (fun _ => ?_))
      | exact ih0 _ _ _ _ _
      | exact LeO.none _
      | refine LeO.ite ?_ ?_
      | refine LeO.bind ?_ (fun _ => ?_)
set_option maxHeartbeats 8000000 in
set_option maxRecDepth 100000 in
theorem spec_l27Signals.calls (k : Nat) (g : Nat) (s0_0 : List Int) (s0_1 : Int) (s0_2 : Int) (r1 : List Int) (r2 : Int) (r3 : Int) (w0 w : World) (hI : IsS73 w0 w g s0_0 s0_1 s0_2) (hB : Below w0.heap.size w0 w) (h : spec_l27Signals.f k s0_0 s0_1 s0_2 = some (r1, r2, r3)) :
    Calls Try.prog 68 #[.pointer (some ⟨g, 0, none⟩)] w fun e w' => ∃ v0_ : Value, e = .returned (v0_) ∧ Kd.R (Kd.int .i64) 3 w' w.heap.size (fun _ => True) v0_ r1 ∧ IsS73 w0 w' g s0_0 r2 r3 ∧ Below w0.heap.size w0 w' ∧ KeepBut w w' g none := by
  have HI0 := Aside0.mk hI
  have HK := Aside0.mk (KeepBut.refl w g none)
  have HL := Aside0.mk hB.size
  clear hI
  have HW0 := Aside0.mk hB.size
  have HB := Aside0.mk hB
  clear hB
  have H : ((spec_l1Below.f s0_0 s0_1 s0_2 6).bind fun bt577 => (spec_l27Signals.l0 k (([] : List Int)) bt577.1 s0_0 bt577.2.1 bt577.2.2)) = some (r1, r2, r3) := h
  clear h
  obtain ⟨y574, hy574⟩ : ∃ y_ : List Int, y_ = (([] : List Int)) := ⟨_, rfl⟩
  replace H : ((spec_l1Below.f s0_0 s0_1 s0_2 6).bind fun bt577 => (spec_l27Signals.l0 k y574 bt577.1 s0_0 bt577.2.1 bt577.2.2)) = some (r1, r2, r3) := by first | (rw [hy574]; with_reducible exact H) | (have H2_ := (Option.bind_some _ _).symm.trans H; rw [hy574]; with_reducible exact H2_) | (have H2_ := (Option.bind_some _ _).symm.trans H; with_reducible exact H2_) | with_reducible exact H | (rw [hy574]; exact H) | exact H
  have Ny574 := Aside0.mk hy574
  clear hy574
  replace H := Option.bind_eq_some_iff.mp H
  obtain ⟨⟨t577, t578, t579⟩, A20, H⟩ := H
  replace H : (spec_l27Signals.l0 k y574 t577 s0_0 t578 t579) = some (r1, r2, r3) := H
  have A2 := Aside0.mk A20
  clear A20
  have H' := Aside0.mk H
  clear H
  go_enter Try.func68, Try.ntmps68
  go_wp2_with (first | ((with_reducible refine gate_dst (N := 5) rfl ?_); refine Kd.R_lit (Kd.int .i64) _ 3 ?hg (N := 5) ?hd (xs := ([] : List Int)) (inner := []) (ok := fun _ => True) (okp := fun _ => True) ?hr ?hp (fun _ hk => hk) trivial (Below.refl _ _) (Nat.le_refl _) (by simp) ?_; (case hd => rfl); (case hg => rfl); (case hr => first | (go_simp; done) | (go_simp; rfl)); (case hp => exact (Reps.none _ _)); intro v575 w3 ho4 hb hg_ hnew_; clear hg_ hnew_; (first | rw [← Ny574.out] at ho4 | (simp only [Int.reduceToNat] at ho4; rw [← Ny574.out] at ho4)); have n0_ := Aside0.mk (Kd.R_lower ho4 (keep_size (w := w) (g := g) (row := none) (by repeat (first | (with_reducible first | exact HK.out | apply KeepBut.set_ | apply keep_drewN | apply keep_drew | apply keep_alloc) | exact HK.out)))); have n1_ := Aside0.mk (IsS73.below (by repeat (first | (with_reducible first | exact HI0.out | apply IsS73.alloc | apply IsS73.drewN | apply IsS73.drew | apply IsS73.set_1 | apply IsS73.set_2) | exact HI0.out)) hb); have n2_ := Aside0.mk (KeepBut.trans (by repeat (first | (with_reducible first | exact HK.out | apply KeepBut.set_ | apply keep_drewN | apply keep_drew | apply keep_alloc) | exact HK.out)) (KeepBut.of_below hb g none) (.inl rfl)); have n3_ := Aside0.mk (below_step (by repeat (first | (with_reducible first | exact HB.out | apply below_alloc | apply pw_below_drewN | apply below_drew1 | refine below_set ?_ (IsS73.ge HI0.out)) | exact HB.out)) hb); clear HI0; clear HK; clear HB; have HO576 := n0_; have HI0 := n1_; have HK := n2_; have HB := n3_; clear n0_ n1_ n2_ n3_; clear hb ho4) | ((with_reducible refine gate_callee (f := 66) rfl ?_); refine goesL_ (some 7) rfl rfl Try.func66 (by kernel_rfl) rfl #[.pointer (some ⟨g, 0, none⟩), .int .i64 6] rfl mp_ ?_; (with_reducible refine (spec_l1Below.calls g s0_0 s0_1 s0_2 6 t577 t578 t579 w0 _ ?side1 ?side2 A2.out).mono ?_); (case side1 => repeat (first | (with_reducible first | exact HI0.out | apply IsS73.alloc | apply IsS73.drewN | apply IsS73.drew | apply IsS73.set_1 | apply IsS73.set_2) | exact HI0.out)); (case side2 => repeat (first | (with_reducible first | exact HB.out | apply below_alloc | apply pw_below_drewN | apply below_drew1 | refine below_set ?_ (IsS73.ge HI0.out)) | exact HB.out)); rintro e w5 ⟨rfl, hi, hb, hk⟩; refine ⟨_, rfl, ?_⟩; have n0_ := Aside0.mk (Kd.R_mono (Kd.R_keep (IsS73.apart (show IsS73 w0 _ g s0_0 s0_1 s0_2 from by repeat (first | (with_reducible first | exact HI0.out | apply IsS73.alloc | apply IsS73.drewN | apply IsS73.drew | apply IsS73.set_1 | apply IsS73.set_2) | exact HI0.out)) (pr_ HO576.out) (by decide)) hk (fun _ h => h.2)) (fun _ h => h.1)); have n1_ := Aside0.mk (KeepBut.trans (by repeat (first | (with_reducible first | exact HK.out | apply KeepBut.set_ | apply keep_drewN | apply keep_drew | apply keep_alloc) | exact HK.out)) hk (.inl rfl)); have n2_ := Aside0.mk (hb); have n3_ := Aside0.mk (hi); clear HO576; clear HK; clear HB; clear HI0; have HO576 := n0_; have HK := n1_; have HB := n2_; have HI0 := n3_; clear n0_ n1_ n2_ n3_; (try clear hb); (try clear hb2); (try clear hk); (try clear hi)))
  (try simp only [Act.put, List.setIfInBounds_toArray, List.set_cons_zero, List.set_cons_succ])
  go_loopg [3, 4] k (fun kq v3 v4 w' => ∃ (x3_1 : List Int) (x4_1 : Int) (x1001_1 : Int) (x1002_1 : Int), v4 = .int .i64 x4_1 ∧ Aside0 (spec_l27Signals.l0 kq x3_1 x4_1 s0_0 x1001_1 x1002_1 = some (r1, r2, r3)) ∧ Aside0 (kq ≤ k) ∧ Aside0 (Kd.R (Kd.int .i64) 3 w' w.heap.size (fun _ => True) v3 x3_1) ∧ Aside0 (IsS73 w0 w' g s0_0 x1001_1 x1002_1) ∧ Aside0 (KeepBut w w' g none) ∧ Aside0 (Below w0.heap.size w0 w'))
  case atStart => exact ⟨(y574), (t577), (t578), (t579), el_, H', ⟨Nat.le_refl _⟩, ⟨pr_ HO576.out⟩, ⟨by repeat (first | (with_reducible first | exact HI0.out | apply IsS73.alloc | apply IsS73.drewN | apply IsS73.drew | apply IsS73.set_1 | apply IsS73.set_2) | exact HI0.out)⟩, ⟨by repeat (first | (with_reducible first | exact HK.out | apply KeepBut.set_ | apply keep_drewN | apply keep_drew | apply keep_alloc) | exact HK.out)⟩, ⟨by repeat (first | (with_reducible first | exact HB.out | apply below_alloc | apply pw_below_drewN | apply below_drew1 | refine below_set ?_ (IsS73.ge HI0.out)) | exact HB.out)⟩⟩
  clear H'
  try clear p2
  obtain ⟨x3_1, x4_1, x1001_1, x1002_1, rfl, HA, HK1, HO_3, HI0, HK, HB⟩ := hrel
  rcases gk with _ | k1
  · exact absurd HA.out (by simp [spec_l27Signals.l0])
  have H := HA.out
  clear HA
  simp only [spec_l27Signals.l0] at H
  by_cases c6 : x4_1 > 0
  rotate_left
  · rw [if_neg c6] at H
    have c6b0 : decide (0 < x4_1) = false := decide_eq_false c6
    clear c6
    simp only [Option.some.injEq, Prod.mk.injEq] at H
    obtain ⟨rfl, rfl, rfl⟩ := H
    go_wp2
    go_ret
    exact ⟨_, er_, pr_ HO_3.out, by repeat (first | (with_reducible first | exact HI0.out | apply IsS73.alloc | apply IsS73.drewN | apply IsS73.drew | apply IsS73.set_1 | apply IsS73.set_2) | exact HI0.out), by repeat (first | (with_reducible first | exact HB.out | apply below_alloc | apply pw_below_drewN | apply below_drew1 | refine below_set ?_ (IsS73.ge HI0.out)) | exact HB.out), by repeat (first | (with_reducible first | exact HK.out | apply KeepBut.set_ | apply keep_drewN | apply keep_drew | apply keep_alloc) | exact HK.out)⟩
  rw [if_pos c6] at H
  have c6b0 : decide (0 < x4_1) = true := decide_eq_true c6
  clear c6
  obtain ⟨y580, hy580⟩ : ∃ y_ : List Int, y_ = (([0, 1, 1, 1, 2, 3] : List Int)) := ⟨_, rfl⟩
  replace H : ((spec_l1Int.f s0_0 x1001_1 x1002_1 y580).bind fun bt583 => (if x3_1.length < 17592186044416 then (spec_l27Signals.l0 k1 (x3_1 ++ [bt583.1]) (wrap64 (x4_1 - 1)) s0_0 bt583.2.1 bt583.2.2) else (none))) = some (r1, r2, r3) := by first | (rw [hy580]; with_reducible exact H) | (have H2_ := (Option.bind_some _ _).symm.trans H; rw [hy580]; with_reducible exact H2_) | (have H2_ := (Option.bind_some _ _).symm.trans H; with_reducible exact H2_) | with_reducible exact H | (rw [hy580]; exact H) | exact H
  have Ny580 := Aside0.mk hy580
  clear hy580
  replace H := Option.bind_eq_some_iff.mp H
  obtain ⟨⟨t583, t584, t585⟩, A70, H⟩ := H
  (try dsimp only at H)
  have A7 := Aside0.mk A70
  clear A70
  by_cases c8 : x3_1.length < 17592186044416
  rotate_left
  · rw [if_neg c8] at H
    exact absurd H (by simp)
  rw [if_pos c8] at H
  have LMc8 := Aside0.mk c8
  clear c8
  obtain ⟨y586, hy586⟩ : ∃ y_ : List Int, y_ = (x3_1 ++ [t583]) := ⟨_, rfl⟩
  replace H : (spec_l27Signals.l0 k1 y586 (wrap64 (x4_1 - 1)) s0_0 t584 t585) = some (r1, r2, r3) := by first | (rw [hy586]; with_reducible exact H) | (have H2_ := (Option.bind_some _ _).symm.trans H; rw [hy586]; with_reducible exact H2_) | (have H2_ := (Option.bind_some _ _).symm.trans H; with_reducible exact H2_) | with_reducible exact H | (rw [hy586]; exact H) | exact H
  have Ny586 := Aside0.mk hy586
  clear hy586
  have H' := Aside0.mk H
  clear H
  go_wp2_with (first | ((with_reducible refine gate_dst (N := 14) rfl ?_); refine Kd.R_lit (Kd.int .i64) _ 3 ?hg (N := 14) ?hd (xs := ([0, 1, 1, 1, 2, 3] : List Int)) (inner := [.int .i64 0, .int .i64 1, .int .i64 1, .int .i64 1, .int .i64 2, .int .i64 3]) (ok := fun _ => True) (okp := fun _ => True) ?hr ?hp (fun _ hk => hk) trivial (Below.refl _ _) (Nat.le_refl _) (by simp) ?_; (case hd => rfl); (case hg => rfl); (case hr => first | (go_simp; done) | (go_simp; rfl)); (case hp => exact (Reps.one (show Kd.M (Kd.int .i64) _ _ _ 0 [.int .i64 0] from rfl) (Reps.one (show Kd.M (Kd.int .i64) _ _ _ 1 [.int .i64 1] from rfl) (Reps.one (show Kd.M (Kd.int .i64) _ _ _ 1 [.int .i64 1] from rfl) (Reps.one (show Kd.M (Kd.int .i64) _ _ _ 1 [.int .i64 1] from rfl) (Reps.one (show Kd.M (Kd.int .i64) _ _ _ 2 [.int .i64 2] from rfl) (Reps.one (show Kd.M (Kd.int .i64) _ _ _ 3 [.int .i64 3] from rfl) (Reps.none _ _)))))))); intro v581 w9 ho10 hb hg_ hnew_; clear hg_ hnew_; (first | rw [← Ny580.out] at ho10 | (simp only [Int.reduceToNat] at ho10; rw [← Ny580.out] at ho10)); have n0_ := Aside0.mk (Kd.R_elder' (pr_ HO_3.out) (Kd.R_base ho10) hb); have n1_ := Aside0.mk (Kd.R_lower (Kd.R_new' ho10 (Kd.R_lt (pr_ HO_3.out))) (keep_size (w := w) (g := g) (row := none) (by repeat (first | (with_reducible first | exact HK.out | apply KeepBut.set_ | apply keep_drewN | apply keep_drew | apply keep_alloc) | exact HK.out)))); have n2_ := Aside0.mk (IsS73.below (by repeat (first | (with_reducible first | exact HI0.out | apply IsS73.alloc | apply IsS73.drewN | apply IsS73.drew | apply IsS73.set_1 | apply IsS73.set_2) | exact HI0.out)) hb); have n3_ := Aside0.mk (KeepBut.trans (by repeat (first | (with_reducible first | exact HK.out | apply KeepBut.set_ | apply keep_drewN | apply keep_drew | apply keep_alloc) | exact HK.out)) (KeepBut.of_below hb g none) (.inl rfl)); have n4_ := Aside0.mk (below_step (by repeat (first | (with_reducible first | exact HB.out | apply below_alloc | apply pw_below_drewN | apply below_drew1 | refine below_set ?_ (IsS73.ge HI0.out)) | exact HB.out)) hb); clear HO_3; clear HI0; clear HK; clear HB; have HO_3 := n0_; have HO582 := n1_; have HI0 := n2_; have HK := n3_; have HB := n4_; clear n0_ n1_ n2_ n3_ n4_; clear hb ho10; obtain ⟨Ao11, co11, eo11⟩ := Kd.R_slice HO582.out; subst eo11) | ((with_reducible refine gate_callee (f := 63) rfl ?_); refine goesL_ (some 15) rfl rfl Try.func63 (by kernel_rfl) rfl #[.pointer (some ⟨g, 0, none⟩), .slice Ao11 y580.length co11] rfl mp_ ?_; (with_reducible refine (spec_l1Int.calls g s0_0 x1001_1 x1002_1 _ _ y580 t583 t584 t585 w0 _ ?side1 ?side2 ?side3 ?side4 ?side5 A7.out).mono ?_); (case side1 => repeat (first | (with_reducible first | exact HI0.out | apply IsS73.alloc | apply IsS73.drewN | apply IsS73.drew | apply IsS73.set_1 | apply IsS73.set_2) | exact HI0.out)); (case side2 => repeat (first | (with_reducible first | exact HB.out | apply below_alloc | apply pw_below_drewN | apply below_drew1 | refine below_set ?_ (IsS73.ge HI0.out)) | exact HB.out)); (case side3 => exact pc_ ((Kd.R_reads' HO582.out).2.2)); (case side4 => exact (Kd.R_reads' HO582.out).2.1); (case side5 => exact far_slice (IsS73.own_ne HI0.out HO582.out (by decide))); rintro e w12 ⟨rfl, hi, hb, hk⟩; refine ⟨_, rfl, ?_⟩; have n0_ := Aside0.mk (Kd.R_mono (Kd.R_keep (IsS73.apart (show IsS73 w0 _ g s0_0 x1001_1 x1002_1 from by repeat (first | (with_reducible first | exact HI0.out | apply IsS73.alloc | apply IsS73.drewN | apply IsS73.drew | apply IsS73.set_1 | apply IsS73.set_2) | exact HI0.out)) (pr_ HO_3.out) (by decide)) hk (fun _ h => h.2)) (fun _ h => h.1)); have n1_ := Aside0.mk (Kd.R_mono (Kd.R_keep (IsS73.apart (show IsS73 w0 _ g s0_0 x1001_1 x1002_1 from by repeat (first | (with_reducible first | exact HI0.out | apply IsS73.alloc | apply IsS73.drewN | apply IsS73.drew | apply IsS73.set_1 | apply IsS73.set_2) | exact HI0.out)) (pr_ HO582.out) (by decide)) hk (fun _ h => h.2)) (fun _ h => h.1)); have n2_ := Aside0.mk (KeepBut.trans (by repeat (first | (with_reducible first | exact HK.out | apply KeepBut.set_ | apply keep_drewN | apply keep_drew | apply keep_alloc) | exact HK.out)) hk (.inl rfl)); have n3_ := Aside0.mk (hb); have n4_ := Aside0.mk (hi); clear HO_3; clear HO582; clear HK; clear HB; clear HI0; have HO_3 := n0_; have HO582 := n1_; have HK := n2_; have HB := n3_; have HI0 := n4_; clear n0_ n1_ n2_ n3_ n4_; (try clear hb); (try clear hb2); (try clear hk); (try clear hi)) | ((with_reducible refine gate_builtin (b := .append) (xs := #[.tmp 12, .tmp 16]) rfl ?_); at_builtin; refine Kd.R_append (Kd.int .i64) w.heap.size rfl (.tmp 12) (.tmp 16) 22 3 (.int .i64 0) 8 rfl Try.underlying22 info3 rfl (by decide) (by omega) u3 x3_1 t583 [.int .i64 t583] (fun k_ => some k_ ≠ (.slice Ao11 y580.length co11 : Value).ownBlock) (fun _ => False) rfl rfl ?aP (fun _ hk => hk.elim) ?aF ?aO (Below.refl _ _) ?aS ?aL ?_; (case aP => exact rfl); (case aF => exact (fun k_ hk => Kd.fresh' (Kd.R_lt (pr_ HO582.out)) k_ hk)); (case aO => exact (pr_ (Kd.R_mono HO_3.out (fun _ hk => hk.2)))); (case aS => exact (keep_size (w := w) (g := g) (row := none) (by repeat (first | (with_reducible first | exact HK.out | apply KeepBut.set_ | apply keep_drewN | apply keep_drew | apply keep_alloc) | exact HK.out)))); (case aL => have := LMc8.out; omega); intro v587 w13 ho hb hg hat; rw [← Ny586.out] at ho; have n0_ := Aside0.mk (IsS73.grown (by repeat (first | (with_reducible first | exact HI0.out | apply IsS73.alloc | apply IsS73.drewN | apply IsS73.drew | apply IsS73.set_1 | apply IsS73.set_2) | exact HI0.out)) hg (IsS73.own_ne HI0.out HO_3.out (by decide))); have n1_ := Aside0.mk (Kd.R_after (ok := (fun _ => True)) (pr_ HO582.out) hg hat); have n2_ := Aside0.mk (below_weaken (by repeat (first | (with_reducible first | exact HB.out | apply below_alloc | apply pw_below_drewN | apply below_drew1 | refine below_set ?_ (IsS73.ge HI0.out)) | exact HB.out)) HL.out hb); have n3_ := Aside0.mk (KeepBut.trans (by repeat (first | (with_reducible first | exact HK.out | apply KeepBut.set_ | apply keep_drewN | apply keep_drew | apply keep_alloc) | exact HK.out)) (KeepBut.of_grown hg g) (Kd.R_base2 HO_3.out)); have n4_ := Aside0.mk (ho); clear HI0; clear HO582; clear HB; clear HK; clear HO_3; have HI0 := n0_; have HO582 := n1_; have HB := n2_; have HK := n3_; have HO588 := n4_; clear n0_ n1_ n2_ n3_ n4_; clear ho hb hg hat))
  go_roundg k1
  case measure => have := HK1.out; omega
  case rel => exact ⟨(y586), (wrap64 (x4_1 - 1)), (t584), (t585), el_, H', ⟨by have := HK1.out; omega⟩, ⟨pr_ (Kd.R_mono HO588.out (fun _ hk => trivial))⟩, ⟨by repeat (first | (with_reducible first | exact HI0.out | apply IsS73.alloc | apply IsS73.drewN | apply IsS73.drew | apply IsS73.set_1 | apply IsS73.set_2) | exact HI0.out)⟩, ⟨by repeat (first | (with_reducible first | exact HK.out | apply KeepBut.set_ | apply keep_drewN | apply keep_drew | apply keep_alloc) | exact HK.out)⟩, ⟨by repeat (first | (with_reducible first | exact HB.out | apply below_alloc | apply pw_below_drewN | apply below_drew1 | refine below_set ?_ (IsS73.ge HI0.out)) | exact HB.out)⟩⟩

/-! ### spec_DrawStageAfter: function 48 -/
def spec_DrawStageAfter.f (k : Nat) (l0 : List Int) : Option (Int × List Int × Int × Bool × List Int) := (spec_l1New.f k l0).bind fun bt590 => ((spec_l26Any.f k bt590.1 bt590.2.1 bt590.2.2).bind fun bt594 => ((spec_l27Signals.f k bt590.1 bt594.2.2.2.2.1 bt594.2.2.2.2.2).bind fun bt603 => (some (bt594.1, bt594.2.1, bt594.2.2.1, bt594.2.2.2.1, bt603.1))))
theorem spec_DrawStageAfter.mono : ∀ a0 k, LeO (spec_DrawStageAfter.f k a0) (spec_DrawStageAfter.f (k + 1) a0) := by
  intro a0 k
  unfold spec_DrawStageAfter.f
  repeat' first
      | (with_reducible exact spec_l1New.mono _ _)
      | (with_reducible exact spec_l26Any.mono _ _ _ _)
      | (with_reducible exact spec_l27Signals.mono _ _ _ _)
      | (with_reducible exact LeO.refl _)
      | (with_reducible exact LeO.none _)
      | (with_reducible refine LeO.ite ?_ ?_)
      | (with_reducible refine LeO.bind ?_ (fun _ => ?_))
      | exact spec_l1New.mono _ _
      | exact spec_l26Any.mono _ _ _ _
      | exact spec_l27Signals.mono _ _ _ _
      | exact LeO.none _
      | refine LeO.ite ?_ ?_
      | refine LeO.bind ?_ (fun _ => ?_)
set_option maxHeartbeats 8000000 in
set_option maxRecDepth 100000 in
theorem spec_DrawStageAfter.calls (k : Nat) (A0 : Option Addr) (c0 : Nat) (l0 : List Int) (r1 : Int) (r2 : List Int) (r3 : Int) (r4 : Bool) (r5 : List Int) (w : World) (hr0 : Kd.C (Kd.int .u8) w A0 l0.length l0) (hc0 : l0.length ≤ c0) (h : spec_DrawStageAfter.f k l0 = some (r1, r2, r3, r4, r5)) :
    Calls Try.prog 48 #[.slice A0 l0.length c0] w fun e w' => ∃ v1_ v4_ : Value, e = .returned (.tuple #[.agg #[.int .i64 r1, v1_, .int .i64 r3, .bool r4], v4_]) ∧ Kd.R (Kd.int .i64) 3 w' w.heap.size (fun k_ => some k_ ≠ (v4_ : Value).ownBlock) v1_ r2 ∧ Kd.R (Kd.int .i64) 3 w' w.heap.size (fun k_ => some k_ ≠ (v1_ : Value).ownBlock) v4_ r5 ∧ Below w.heap.size w w' := by
  have hu27 := Try.underlying27
  have HR0 := Aside0.mk hr0
  have HC0 := Aside0.mk hc0
  clear hr0 hc0
  have HB := Aside0.mk (Below.refl w.heap.size w)
  have H : ((spec_l1New.f k l0).bind fun bt590 => ((spec_l26Any.f k bt590.1 bt590.2.1 bt590.2.2).bind fun bt594 => ((spec_l27Signals.f k bt590.1 bt594.2.2.2.2.1 bt594.2.2.2.2.2).bind fun bt603 => (some (bt594.1, bt594.2.1, bt594.2.2.1, bt594.2.2.2.1, bt603.1))))) = some (r1, r2, r3, r4, r5) := h
  clear h
  replace H := Option.bind_eq_some_iff.mp H
  obtain ⟨⟨t590, t591, t592⟩, A20, H⟩ := H
  (try dsimp only at H)
  have A2 := Aside0.mk A20
  clear A20
  replace H := Option.bind_eq_some_iff.mp H
  obtain ⟨⟨t594, t595, t598, t599, t600, t601⟩, A30, H⟩ := H
  (try dsimp only at H)
  have A3 := Aside0.mk A30
  clear A30
  replace H := Option.bind_eq_some_iff.mp H
  obtain ⟨⟨t603, t606, t607⟩, A40, H⟩ := H
  replace H : (some (t594, t595, t598, t599, t603)) = some (r1, r2, r3, r4, r5) := H
  have A4 := Aside0.mk A40
  clear A40
  simp only [Option.some.injEq, Prod.mk.injEq] at H
  obtain ⟨rfl, rfl, rfl, rfl, rfl⟩ := H
  go_enter Try.func48, Try.ntmps48
  try go_wp2_with (first | ((with_reducible refine gate_dst (N := 2) rfl ?_); refine box_event ?hg (N := 2) ?hd (cs := #[.int .i64 0, .slice none 0 0, .int .i64 0, .bool false]) (t := 27) ?hr ?_; (case hd => rfl); (case hg => rfl); (case hr => first | (go_simp; done) | (go_simp; rfl)); intro gb589 hg w5 hbox hb; have n0_ := Aside0.mk (below_step (pb_ HB.out) hb); have n1_ := Aside0.mk (hbox); have n2_ := Aside0.mk ((by rw [hg]; exact (below_size (pb_ HB.out)) : w.heap.size ≤ gb589)); have n3_ := Aside0.mk ((by rw [hg]; exact (below_size (pb_ HB.out)) : w.heap.size ≤ gb589)); clear HB; have HB := n0_; have BK589 := n1_; have GW589 := n2_; have GE589 := n3_; clear n0_ n1_ n2_ n3_; clear hb hbox hg) | ((with_reducible refine gate_callee (f := 61) rfl ?_); refine goesL_ (some 7) rfl rfl Try.func61 (by kernel_rfl) rfl #[.slice A0 l0.length c0] rfl mp_ ?_; (with_reducible refine (spec_l1New.calls k _ _ l0 t590 t591 t592 w _ ?side1 ?side2 ?side3 A2.out).mono ?_); (case side1 => repeat (first | (with_reducible first | exact HB.out | apply below_alloc | apply pw_below_drewN | apply below_drew1 | refine below_set ?_ GE589.out) | exact HB.out)); (case side2 => exact HR0.out); (case side3 => exact HC0.out); rintro e w6 ⟨g593, rfl, hi, hb, hb2⟩; refine ⟨_, rfl, ?_⟩; have n0_ := Aside0.mk (bb_ BK589.out hb2); have n1_ := Aside0.mk (hb); have n2_ := Aside0.mk (hi); have n3_ := Aside0.mk (IsS73.ne_blk hi (bb_ BK589.out hb2) (by decide)); have n4_ := Aside0.mk (Ne.symm (IsS73.ne_blk hi (bb_ BK589.out hb2) (by decide))); clear BK589; clear HB; have BK589 := n0_; have HB := n1_; have HI593 := n2_; have NB593_589 := n3_; have NB589_593 := n4_; clear n0_ n1_ n2_ n3_ n4_; (try clear hb); (try clear hb2); (try clear hk); (try clear hi)) | ((with_reducible refine gate_callee (f := 62) rfl ?_); refine goesL_ (some 9) rfl rfl Try.func62 (by kernel_rfl) rfl #[.pointer (some ⟨g593, 0, none⟩)] rfl mp_ ?_; (with_reducible refine (spec_l26Any.calls k g593 t590 t591 t592 t594 t595 t598 t599 t600 t601 w _ ?side1 ?side2 A3.out).mono ?_); (case side1 => repeat (first | (with_reducible first | exact HI593.out | apply IsS73.alloc | apply IsS73.drewN | apply IsS73.drew | apply IsS73.set_1 | apply IsS73.set_2 | refine IsS73.far ?_ NB593_589.out _) | exact HI593.out)); (case side2 => repeat (first | (with_reducible first | exact HB.out | apply below_alloc | apply pw_below_drewN | apply below_drew1 | refine below_set ?_ (IsS73.ge HI593.out) | refine below_set ?_ GE589.out) | exact HB.out)); rintro e w7 ⟨v596, rfl, ho0, hi, hb, hk⟩; refine ⟨_, rfl, ?_⟩; have n0_ := Aside0.mk (KeepBut.blk hk (g' := gb589) (o := .cells #[.int .i64 0, .slice none 0 0, .int .i64 0, .bool false] 27 (0, 0)) (pk_ BK589.out) NB589_593.out (by simp)); have n1_ := Aside0.mk (Kd.R_lower ho0 (below_size (by repeat (first | (with_reducible first | exact HB.out | apply below_alloc | apply pw_below_drewN | apply below_drew1 | refine below_set ?_ (IsS73.ge HI593.out) | refine below_set ?_ GE589.out) | exact HB.out)))); have n2_ := Aside0.mk (hb); have n3_ := Aside0.mk (hi); clear BK589; clear HB; clear HI593; have BK589 := n0_; have HO597 := n1_; have HB := n2_; have HI593 := n3_; clear n0_ n1_ n2_ n3_; (try clear hb); (try clear hb2); (try clear hk); (try clear hi); (try clear ho0)) | ((with_reducible refine gate_dst (N := 5) rfl ?_); refine box_event ?hg (N := 5) ?hd (cs := #[.int .i64 0, .slice none 0 0, .int .i64 0, .bool false]) (t := 27) ?hr ?_; (case hd => rfl); (case hg => rfl); (case hr => first | (go_simp; done) | (go_simp; rfl)); intro gb602 hg w8 hbox hb; have n0_ := Aside0.mk (Kd.R_below (pr_ HO597.out) hb); have n1_ := Aside0.mk (bb_ BK589.out hb); have n2_ := Aside0.mk (IsS73.below (by repeat (first | (with_reducible first | exact HI593.out | apply IsS73.alloc | apply IsS73.drewN | apply IsS73.drew | apply IsS73.set_1 | apply IsS73.set_2 | refine IsS73.far ?_ NB593_589.out _) | exact HI593.out)) hb); have n3_ := Aside0.mk (below_step (by repeat (first | (with_reducible first | exact HB.out | apply below_alloc | apply pw_below_drewN | apply below_drew1 | refine below_set ?_ (IsS73.ge HI593.out) | refine below_set ?_ GE589.out) | exact HB.out)) hb); have n4_ := Aside0.mk (hbox); have n5_ := Aside0.mk ((by rw [hg]; exact (below_size (by repeat (first | (with_reducible first | exact HB.out | apply below_alloc | apply pw_below_drewN | apply below_drew1 | refine below_set ?_ (IsS73.ge HI593.out) | refine below_set ?_ GE589.out) | exact HB.out))) : w.heap.size ≤ gb602)); have n6_ := Aside0.mk ((by rw [hg]; exact (below_size (by repeat (first | (with_reducible first | exact HB.out | apply below_alloc | apply pw_below_drewN | apply below_drew1 | refine below_set ?_ (IsS73.ge HI593.out) | refine below_set ?_ GE589.out) | exact HB.out))) : w.heap.size ≤ gb602)); have n7_ := Aside0.mk ((by rw [hg]; exact Nat.ne_of_lt (blk_lt (pk_ BK589.out)) : gb589 ≠ gb602)); have n8_ := Aside0.mk ((by rw [hg]; exact Nat.ne_of_gt (blk_lt (pk_ BK589.out)) : gb602 ≠ gb589)); have n9_ := Aside0.mk ((by rw [hg]; exact Nat.ne_of_lt (IsS73.lt (show IsS73 w _ g593 t590 t600 t601 from by repeat (first | (with_reducible first | exact HI593.out | apply IsS73.alloc | apply IsS73.drewN | apply IsS73.drew | apply IsS73.set_1 | apply IsS73.set_2 | refine IsS73.far ?_ NB593_589.out _) | exact HI593.out))) : g593 ≠ gb602)); have n10_ := Aside0.mk ((by rw [hg]; exact Nat.ne_of_gt (IsS73.lt (show IsS73 w _ g593 t590 t600 t601 from by repeat (first | (with_reducible first | exact HI593.out | apply IsS73.alloc | apply IsS73.drewN | apply IsS73.drew | apply IsS73.set_1 | apply IsS73.set_2 | refine IsS73.far ?_ NB593_589.out _) | exact HI593.out))) : gb602 ≠ g593)); clear HO597; clear BK589; clear HI593; clear HB; have HO597 := n0_; have BK589 := n1_; have HI593 := n2_; have HB := n3_; have BK602 := n4_; have GW602 := n5_; have GE602 := n6_; have NB589_602 := n7_; have NB602_589 := n8_; have NB593_602 := n9_; have NB602_593 := n10_; clear n0_ n1_ n2_ n3_ n4_ n5_ n6_ n7_ n8_ n9_ n10_; clear hb hbox hg; have hnb9 := NB602_589.out; have hnc9 := NB589_602.out; have hnb10 := NB602_593.out; have hnc10 := NB593_602.out; have hcz11_0 : w8.cell? ⟨gb602, 0, none⟩ = some (.int .i64 0) := (blk_cell BK602.out 0).trans rfl; have hcz11_1 : w8.cell? ⟨gb602, 1, none⟩ = some (.slice none 0 0) := (blk_cell BK602.out 1).trans rfl; have hcz11_2 : w8.cell? ⟨gb602, 2, none⟩ = some (.int .i64 0) := (blk_cell BK602.out 2).trans rfl; have hcz11_3 : w8.cell? ⟨gb602, 3, none⟩ = some (.bool false) := (blk_cell BK602.out 3).trans rfl; have hfz11_0 := blk_frozen BK602.out 0; have hfz11_1 := blk_frozen BK602.out 1; have hfz11_2 := blk_frozen BK602.out 2; have hfz11_3 := blk_frozen BK602.out 3; obtain ⟨Ao12, co12, eo12⟩ := Kd.R_slice HO597.out; subst eo12))
  have n0_ : Aside0 (Kd.R (Kd.int .i64) 3 ((((w8.setCell ⟨gb602, 0, none⟩ (.int .i64 t594)).setCell ⟨gb602, 1, none⟩ (.slice Ao12 t595.length co12)).setCell ⟨gb602, 2, none⟩ (.int .i64 t598)).setCell ⟨gb602, 3, none⟩ (.bool t599)) w.heap.size (fun _ => True) (.slice Ao12 t595.length co12) t595) := ⟨pr_ (Kd.R_mono (rf4_ HO597.out BK602.out) (fun _ hk => trivial))⟩
  have n1_ : Aside0 (((((w8.setCell ⟨gb602, 0, none⟩ (.int .i64 t594)).setCell ⟨gb602, 1, none⟩ (.slice Ao12 t595.length co12)).setCell ⟨gb602, 2, none⟩ (.int .i64 t598)).setCell ⟨gb602, 3, none⟩ (.bool t599)).heap[gb589]? = some (.cells #[.int .i64 0, .slice none 0 0, .int .i64 0, .bool false] 27 (0, 0))) := ⟨pp_ BK589.out⟩
  have n2_ : Aside0 (((((w8.setCell ⟨gb602, 0, none⟩ (.int .i64 t594)).setCell ⟨gb602, 1, none⟩ (.slice Ao12 t595.length co12)).setCell ⟨gb602, 2, none⟩ (.int .i64 t598)).setCell ⟨gb602, 3, none⟩ (.bool t599)).heap[gb602]? = some (.cells #[.int .i64 t594, .slice Ao12 t595.length co12, .int .i64 t598, .bool t599] 27 (0, 0))) := ⟨pp_ BK602.out⟩
  have n3_ : Aside0 (IsS73 w ((((w8.setCell ⟨gb602, 0, none⟩ (.int .i64 t594)).setCell ⟨gb602, 1, none⟩ (.slice Ao12 t595.length co12)).setCell ⟨gb602, 2, none⟩ (.int .i64 t598)).setCell ⟨gb602, 3, none⟩ (.bool t599)) g593 t590 t600 t601) := ⟨by repeat (first | (with_reducible first | exact HI593.out | apply IsS73.alloc | apply IsS73.drewN | apply IsS73.drew | apply IsS73.set_1 | apply IsS73.set_2 | refine IsS73.far ?_ NB593_589.out _ | refine IsS73.far ?_ NB593_602.out _) | exact HI593.out)⟩
  have n4_ : Aside0 (Below w.heap.size w ((((w8.setCell ⟨gb602, 0, none⟩ (.int .i64 t594)).setCell ⟨gb602, 1, none⟩ (.slice Ao12 t595.length co12)).setCell ⟨gb602, 2, none⟩ (.int .i64 t598)).setCell ⟨gb602, 3, none⟩ (.bool t599))) := ⟨by repeat (first | (with_reducible first | exact HB.out | apply below_alloc | apply pw_below_drewN | apply below_drew1 | refine below_set ?_ (IsS73.ge HI593.out) | refine below_set ?_ GE589.out | refine below_set ?_ GE602.out) | exact HB.out)⟩
  (try clear HO597)
  (try clear BK589)
  (try clear BK602)
  (try clear HI593)
  (try clear HB)
  generalize ((((w8.setCell ⟨gb602, 0, none⟩ (.int .i64 t594)).setCell ⟨gb602, 1, none⟩ (.slice Ao12 t595.length co12)).setCell ⟨gb602, 2, none⟩ (.int .i64 t598)).setCell ⟨gb602, 3, none⟩ (.bool t599)) = w13 at n0_ n1_ n2_ n3_ n4_ ⊢
  have HO597 := n0_
  have BK589 := n1_
  have BK602 := n2_
  have HI593 := n3_
  have HB := n4_
  clear n0_ n1_ n2_ n3_ n4_
  have n0_ := Aside0.mk (Kd.R_drew HO597.out)
  have n1_ := Aside0.mk (blk_drew BK589.out)
  have n2_ := Aside0.mk (blk_drew BK602.out)
  have n3_ := Aside0.mk (IsS73.drew HI593.out)
  have n4_ := Aside0.mk (below_drew1 HB.out)
  clear HO597
  clear BK589
  clear BK602
  clear HI593
  clear HB
  have HO597 := n0_
  have BK589 := n1_
  have BK602 := n2_
  have HI593 := n3_
  have HB := n4_
  clear n0_ n1_ n2_ n3_ n4_
  refine start_ (n := 5) (S := fun w' => w'.cell? ⟨gb602, 0, none⟩ = some (.int .i64 t594) ∧ w'.cell? ⟨gb602, 1, none⟩ = some (.slice Ao12 t595.length co12) ∧ w'.cell? ⟨gb602, 2, none⟩ = some (.int .i64 t598) ∧ w'.cell? ⟨gb602, 3, none⟩ = some (.bool t599)) (ds := []) #[false, false, false, false, false] (by kernel_rfl) rfl rfl ⟨(blk_cell BK602.out 0).trans rfl, (blk_cell BK602.out 1).trans rfl, (blk_cell BK602.out 2).trans rfl, (blk_cell BK602.out 3).trans rfl⟩ (fun hHeld => ?_)
  generalize w13.drew = w14 at HO597 BK589 BK602 HI593 HB hHeld ⊢
  refine pure_ (i := 1) (N := some 11) (v := ?_) (a' := ?_) #[false, true, false, false, false] rfl rfl (by kernel_rfl) (fun _ _ _ h => h) (Or.inl ⟨by rfl, ?_⟩) ?_ ?_
  rotate_left
  · intro w'
    go_simp
    (try (simp only [Instr.field]; simp only [underlying, hu27]; go_simp; simp only [asAgg]; go_simp))
    with_reducible rfl
  rotate_left
  · simp only [Act.put, List.setIfInBounds_toArray, List.set_cons_zero, List.set_cons_succ, i64_w, i32_w]
    rfl
  refine take_ (i := 0) (N := some 10) (v := ?_) (a' := ?_) #[true, true, false, false, false] rfl rfl (by kernel_rfl) (fun _ _ _ h => h) (Or.inl ⟨by rfl, ?_⟩) hHeld ?_ ?_
  rotate_left
  · rintro w' ⟨s0, s1, s2, s3⟩
    go_simp
    (try (simp only [Instr.field]; simp only [underlying, hu27]; go_simp; simp only [asAgg]; go_simp))
    with_reducible rfl
  rotate_left
  · simp only [Act.put, List.setIfInBounds_toArray, List.set_cons_zero, List.set_cons_succ, i64_w, i32_w]
    rfl
  refine one_ (i := 2) (N := some 12) #[true, true, true, false, false] rfl rfl (by kernel_rfl) (by decide) (fun K hK => ?_)
  refine goes_ Try.func68 (by kernel_rfl) rfl #[.pointer (some ⟨g593, 0, none⟩)] (by rfl) rfl rfl mp_ ?_
  with_reducible refine (spec_l27Signals.calls k g593 t590 t600 t601 t603 t606 t607 w _ ?side1 ?side2 A4.out).mono ?_
  (case side1 => repeat (first | (with_reducible first | exact HI593.out | apply IsS73.alloc | apply IsS73.drewN | apply IsS73.drew | apply IsS73.set_1 | apply IsS73.set_2 | refine IsS73.far ?_ NB593_589.out _ | refine IsS73.far ?_ NB593_602.out _) | exact HI593.out))
  (case side2 => repeat (first | (with_reducible first | exact HB.out | apply below_alloc | apply pw_below_drewN | apply below_drew1 | refine below_set ?_ (IsS73.ge HI593.out) | refine below_set ?_ GE589.out | refine below_set ?_ GE602.out) | exact HB.out))
  rintro e w15 ⟨v604, rfl, ho0, hi, hb, hk⟩
  refine ⟨_, rfl, ?_⟩
  have n0_ := Aside0.mk (KeepBut.blk hk (g' := gb589) (o := .cells #[.int .i64 0, .slice none 0 0, .int .i64 0, .bool false] 27 (0, 0)) (pk_ BK589.out) NB589_593.out (by simp))
  have n1_ := Aside0.mk (Kd.R_mono (Kd.R_told (Kd.R_oldK (IsS73.apart (show IsS73 w _ g593 t590 t600 t601 from by repeat (first | (with_reducible first | exact HI593.out | apply IsS73.alloc | apply IsS73.drewN | apply IsS73.drew | apply IsS73.set_1 | apply IsS73.set_2 | refine IsS73.far ?_ NB593_589.out _ | refine IsS73.far ?_ NB593_602.out _) | exact HI593.out)) (pr_ HO597.out) (by decide)) hk) (Kd.R_base ho0)) (fun _ h_ => h_.1))
  have n2_ := Aside0.mk (KeepBut.blk hk (g' := gb602) (o := .cells #[.int .i64 t594, .slice Ao12 t595.length co12, .int .i64 t598, .bool t599] 27 (0, 0)) (pk_ BK602.out) NB602_593.out (by simp))
  have n3_ := Aside0.mk (Kd.R_lower (Kd.R_new' ho0 (Kd.R_lt (pr_ HO597.out))) (below_size (by repeat (first | (with_reducible first | exact HB.out | apply below_alloc | apply pw_below_drewN | apply below_drew1 | refine below_set ?_ (IsS73.ge HI593.out) | refine below_set ?_ GE589.out | refine below_set ?_ GE602.out) | exact HB.out))))
  have n4_ := Aside0.mk (hb)
  have n5_ := Aside0.mk (hi)
  clear BK589
  clear HO597
  clear BK602
  clear HB
  clear HI593
  have BK589 := n0_
  have HO597 := n1_
  have BK602 := n2_
  have HO605 := n3_
  have HB := n4_
  have HI593 := n5_
  clear n0_ n1_ n2_ n3_ n4_ n5_
  (try clear hb)
  (try clear hb2)
  (try clear hk)
  (try clear hi)
  (try clear ho0)
  refine hK.out _ _ ⟨(blk_cell BK602.out 0).trans rfl, (blk_cell BK602.out 1).trans rfl, (blk_cell BK602.out 2).trans rfl, (blk_cell BK602.out 3).trans rfl⟩ (fun hHeld => ?_)
  clear hK K
  refine norm_ (a' := ?_) ?_ ?_
  rotate_left
  · show Act.put _ (some 12) _ = _
    simp only [Act.put, List.setIfInBounds_toArray, List.set_cons_zero, List.set_cons_succ, i64_w, i32_w]
    rfl
  refine one_ (i := 3) (N := none) #[true, true, true, true, false] rfl rfl (by kernel_rfl) (by decide) (fun K hK => ?_)
  have hs16 : w15.cell? ⟨gb589, 0, none⟩ = some (.int .i64 0) := (blk_cell BK589.out 0).trans rfl
  have hfs16 := blk_frozen BK589.out 0
  have hns16_1 := NB602_589.out
  have hms16_1 := NB589_602.out
  have hs17 : w15.cell? ⟨gb589, 1, none⟩ = some (.slice none 0 0) := (blk_cell BK589.out 1).trans rfl
  have hfs17 := blk_frozen BK589.out 1
  have hns17_1 := NB602_589.out
  have hms17_1 := NB589_602.out
  have hs18 : w15.cell? ⟨gb589, 2, none⟩ = some (.int .i64 0) := (blk_cell BK589.out 2).trans rfl
  have hfs18 := blk_frozen BK589.out 2
  have hns18_1 := NB602_589.out
  have hms18_1 := NB589_602.out
  have hs19 : w15.cell? ⟨gb589, 3, none⟩ = some (.bool false) := (blk_cell BK589.out 3).trans rfl
  have hfs19 := blk_frozen BK589.out 3
  have hns19_1 := NB602_589.out
  have hms19_1 := NB589_602.out
  refine skip_ (w1 := ?_) (by rfl) rfl ?_ ?_
  rotate_left
  · go_simp
    rfl
  refine hK.out _ _ ⟨((cell_far (p := ⟨gb589, _, none⟩) NB602_589.out _).trans (((cell_far (p := ⟨gb589, _, none⟩) NB602_589.out _).trans (((cell_far (p := ⟨gb589, _, none⟩) NB602_589.out _).trans (((cell_far (p := ⟨gb589, _, none⟩) NB602_589.out _).trans (hHeld.1)))))))), ((cell_far (p := ⟨gb589, _, none⟩) NB602_589.out _).trans (((cell_far (p := ⟨gb589, _, none⟩) NB602_589.out _).trans (((cell_far (p := ⟨gb589, _, none⟩) NB602_589.out _).trans (((cell_far (p := ⟨gb589, _, none⟩) NB602_589.out _).trans (hHeld.2.1)))))))), ((cell_far (p := ⟨gb589, _, none⟩) NB602_589.out _).trans (((cell_far (p := ⟨gb589, _, none⟩) NB602_589.out _).trans (((cell_far (p := ⟨gb589, _, none⟩) NB602_589.out _).trans (((cell_far (p := ⟨gb589, _, none⟩) NB602_589.out _).trans (hHeld.2.2.1)))))))), ((cell_far (p := ⟨gb589, _, none⟩) NB602_589.out _).trans (((cell_far (p := ⟨gb589, _, none⟩) NB602_589.out _).trans (((cell_far (p := ⟨gb589, _, none⟩) NB602_589.out _).trans (((cell_far (p := ⟨gb589, _, none⟩) NB602_589.out _).trans (hHeld.2.2.2))))))))⟩ (fun hHeld => ?_)
  clear hK K
  refine pure_ (i := 4) (N := some 3) (v := ?_) (a' := ?_) #[true, true, true, true, true] rfl rfl (by kernel_rfl) (fun _ _ _ h => h) (Or.inl ⟨by rfl, ?_⟩) ?_ ?_
  rotate_left
  · intro w'
    go_simp
    (try (simp only [Instr.field]; simp only [underlying, hu27]; go_simp; simp only [asAgg]; go_simp))
    with_reducible rfl
  rotate_left
  · simp only [Act.put, List.setIfInBounds_toArray, List.set_cons_zero, List.set_cons_succ, i64_w, i32_w]
    rfl
  refine done_ (by kernel_rfl) ?_
  try go_wp2
  refine bodyPost_ret (results_ct rfl _ _ gb589 27 #[.int .i64 t594, .slice Ao12 t595.length co12, .int .i64 t598, .bool t599] (0, 0) _ rfl (pp_ BK589.out) Try.underlying27 rfl (by kernel_rfl)) rfl ?_
  exact ⟨_, _, er_, pr_ (Kd.R_mono (Kd.R_far (p := ⟨gb589, 3, none⟩) (Kd.R_far (p := ⟨gb589, 2, none⟩) (Kd.R_far (p := ⟨gb589, 1, none⟩) (Kd.R_far (p := ⟨gb589, 0, none⟩) (Kd.R_types HO597.out BK589.out (by decide)) (fun _ hk => hk.2) (.int .i64 t594)) (fun _ hk => hk.2) (.slice Ao12 t595.length co12)) (fun _ hk => hk.2) (.int .i64 t598)) (fun _ hk => hk.2) (.bool t599)) (fun _ hk => hk.1.2)), pr_ (Kd.R_mono (Kd.R_far (p := ⟨gb589, 3, none⟩) (Kd.R_far (p := ⟨gb589, 2, none⟩) (Kd.R_far (p := ⟨gb589, 1, none⟩) (Kd.R_far (p := ⟨gb589, 0, none⟩) (Kd.R_types HO605.out BK589.out (by decide)) (fun _ hk => hk.2) (.int .i64 t594)) (fun _ hk => hk.2) (.slice Ao12 t595.length co12)) (fun _ hk => hk.2) (.int .i64 t598)) (fun _ hk => hk.2) (.bool t599)) (fun _ hk => hk.1.2)), by repeat (first | (with_reducible first | exact HB.out | apply below_alloc | apply pw_below_drewN | apply below_drew1 | refine below_set ?_ (IsS73.ge HI593.out) | refine below_set ?_ GE589.out | refine below_set ?_ GE602.out) | exact HB.out)⟩

/-! ### spec_DrawSafeStages: function 49 -/
def spec_DrawSafeStages.f (k : Nat) (l0 : List Int) : Option (Int × Int) := (spec_l1New.f k l0).bind fun bt608 => ((spec_l1Int.f bt608.1 bt608.2.1 bt608.2.2 (([1, 7, 50, 1000, 10000, 0, 10001] : List Int))).bind fun bt615 => ((spec_l1Int.f bt608.1 bt615.2.1 bt615.2.2 (([0, 1, 3, 10, 500, 10000, (-1), 9223372036854775807] : List Int))).bind fun bt621 => (some (bt615.1, bt621.1))))
theorem spec_DrawSafeStages.mono : ∀ a0 k, LeO (spec_DrawSafeStages.f k a0) (spec_DrawSafeStages.f (k + 1) a0) := by
  intro a0 k
  unfold spec_DrawSafeStages.f
  repeat' first
      | (with_reducible exact spec_l1New.mono _ _)
      | (with_reducible exact LeO.refl _)
      | (with_reducible exact LeO.none _)
      | (with_reducible refine LeO.ite ?_ ?_)
      | (with_reducible refine LeO.bind ?_ (fun _ => ?_))
      | exact spec_l1New.mono _ _
      | exact LeO.none _
      | refine LeO.ite ?_ ?_
      | refine LeO.bind ?_ (fun _ => ?_)
set_option maxHeartbeats 8000000 in
set_option maxRecDepth 100000 in
theorem spec_DrawSafeStages.calls (k : Nat) (A0 : Option Addr) (c0 : Nat) (l0 : List Int) (r1 : Int) (r2 : Int) (w : World) (hr0 : Kd.C (Kd.int .u8) w A0 l0.length l0) (hc0 : l0.length ≤ c0) (h : spec_DrawSafeStages.f k l0 = some (r1, r2)) :
    Calls Try.prog 49 #[.slice A0 l0.length c0] w fun e w' => e = .returned (.tuple #[.int .i64 r1, .int .i64 r2]) ∧ Below w.heap.size w w' := by
  have HR0 := Aside0.mk hr0
  have HC0 := Aside0.mk hc0
  clear hr0 hc0
  have HB := Aside0.mk (Below.refl w.heap.size w)
  have H : ((spec_l1New.f k l0).bind fun bt608 => ((spec_l1Int.f bt608.1 bt608.2.1 bt608.2.2 (([1, 7, 50, 1000, 10000, 0, 10001] : List Int))).bind fun bt615 => ((spec_l1Int.f bt608.1 bt615.2.1 bt615.2.2 (([0, 1, 3, 10, 500, 10000, (-1), 9223372036854775807] : List Int))).bind fun bt621 => (some (bt615.1, bt621.1))))) = some (r1, r2) := h
  clear h
  replace H := Option.bind_eq_some_iff.mp H
  obtain ⟨⟨t608, t609, t610⟩, A20, H⟩ := H
  (try dsimp only at H)
  have A2 := Aside0.mk A20
  clear A20
  obtain ⟨y612, hy612⟩ : ∃ y_ : List Int, y_ = (([1, 7, 50, 1000, 10000, 0, 10001] : List Int)) := ⟨_, rfl⟩
  replace H : ((spec_l1Int.f t608 t609 t610 y612).bind fun bt615 => ((spec_l1Int.f t608 bt615.2.1 bt615.2.2 (([0, 1, 3, 10, 500, 10000, (-1), 9223372036854775807] : List Int))).bind fun bt621 => (some (bt615.1, bt621.1)))) = some (r1, r2) := by first | (rw [hy612]; with_reducible exact H) | (have H2_ := (Option.bind_some _ _).symm.trans H; rw [hy612]; with_reducible exact H2_) | (have H2_ := (Option.bind_some _ _).symm.trans H; with_reducible exact H2_) | with_reducible exact H | (rw [hy612]; exact H) | exact H
  have Ny612 := Aside0.mk hy612
  clear hy612
  replace H := Option.bind_eq_some_iff.mp H
  obtain ⟨⟨t615, t616, t617⟩, A30, H⟩ := H
  (try dsimp only at H)
  have A3 := Aside0.mk A30
  clear A30
  obtain ⟨y618, hy618⟩ : ∃ y_ : List Int, y_ = (([0, 1, 3, 10, 500, 10000, (-1), 9223372036854775807] : List Int)) := ⟨_, rfl⟩
  replace H : ((spec_l1Int.f t608 t616 t617 y618).bind fun bt621 => (some (t615, bt621.1))) = some (r1, r2) := by first | (rw [hy618]; with_reducible exact H) | (have H2_ := (Option.bind_some _ _).symm.trans H; rw [hy618]; with_reducible exact H2_) | (have H2_ := (Option.bind_some _ _).symm.trans H; with_reducible exact H2_) | with_reducible exact H | (rw [hy618]; exact H) | exact H
  have Ny618 := Aside0.mk hy618
  clear hy618
  replace H := Option.bind_eq_some_iff.mp H
  obtain ⟨⟨t621, t622, t623⟩, A40, H⟩ := H
  replace H : (some (t615, t621)) = some (r1, r2) := H
  have A4 := Aside0.mk A40
  clear A40
  simp only [Option.some.injEq, Prod.mk.injEq] at H
  obtain ⟨rfl, rfl⟩ := H
  go_enter Try.func49, Try.ntmps49
  go_wp2_with (first | ((with_reducible refine gate_callee (f := 61) rfl ?_); refine goesL_ (some 6) rfl rfl Try.func61 (by kernel_rfl) rfl #[.slice A0 l0.length c0] rfl mp_ ?_; (with_reducible refine (spec_l1New.calls k _ _ l0 t608 t609 t610 w _ ?side1 ?side2 ?side3 A2.out).mono ?_); (case side1 => repeat (first | (with_reducible first | exact HB.out | apply below_alloc | apply pw_below_drewN | apply below_drew1) | exact HB.out)); (case side2 => exact HR0.out); (case side3 => exact HC0.out); rintro e w5 ⟨g611, rfl, hi, hb, hb2⟩; refine ⟨_, rfl, ?_⟩; have n0_ := Aside0.mk (hb); have n1_ := Aside0.mk (hi); clear HB; have HB := n0_; have HI611 := n1_; clear n0_ n1_; (try clear hb); (try clear hb2); (try clear hk); (try clear hi)) | ((with_reducible refine gate_dst (N := 8) rfl ?_); refine Kd.R_lit (Kd.int .i64) _ 3 ?hg (N := 8) ?hd (xs := ([1, 7, 50, 1000, 10000, 0, 10001] : List Int)) (inner := [.int .i64 1, .int .i64 7, .int .i64 50, .int .i64 1000, .int .i64 10000, .int .i64 0, .int .i64 10001]) (ok := fun _ => True) (okp := fun _ => True) ?hr ?hp (fun _ hk => hk) trivial (Below.refl _ _) (Nat.le_refl _) (by simp) ?_; (case hd => rfl); (case hg => rfl); (case hr => first | (go_simp; done) | (go_simp; rfl)); (case hp => exact (Reps.one (show Kd.M (Kd.int .i64) _ _ _ 1 [.int .i64 1] from rfl) (Reps.one (show Kd.M (Kd.int .i64) _ _ _ 7 [.int .i64 7] from rfl) (Reps.one (show Kd.M (Kd.int .i64) _ _ _ 50 [.int .i64 50] from rfl) (Reps.one (show Kd.M (Kd.int .i64) _ _ _ 1000 [.int .i64 1000] from rfl) (Reps.one (show Kd.M (Kd.int .i64) _ _ _ 10000 [.int .i64 10000] from rfl) (Reps.one (show Kd.M (Kd.int .i64) _ _ _ 0 [.int .i64 0] from rfl) (Reps.one (show Kd.M (Kd.int .i64) _ _ _ 10001 [.int .i64 10001] from rfl) (Reps.none _ _))))))))); intro v613 w6 ho7 hb hg_ hnew_; clear hg_ hnew_; (first | rw [← Ny612.out] at ho7 | (simp only [Int.reduceToNat] at ho7; rw [← Ny612.out] at ho7)); have n0_ := Aside0.mk (Kd.R_lower ho7 (below_size (by repeat (first | (with_reducible first | exact HB.out | apply below_alloc | apply pw_below_drewN | apply below_drew1 | refine below_set ?_ (IsS73.ge HI611.out)) | exact HB.out)))); have n1_ := Aside0.mk (IsS73.below (by repeat (first | (with_reducible first | exact HI611.out | apply IsS73.alloc | apply IsS73.drewN | apply IsS73.drew | apply IsS73.set_1 | apply IsS73.set_2) | exact HI611.out)) hb); have n2_ := Aside0.mk (below_step (by repeat (first | (with_reducible first | exact HB.out | apply below_alloc | apply pw_below_drewN | apply below_drew1 | refine below_set ?_ (IsS73.ge HI611.out)) | exact HB.out)) hb); clear HI611; clear HB; have HO614 := n0_; have HI611 := n1_; have HB := n2_; clear n0_ n1_ n2_; clear hb ho7; obtain ⟨Ao8, co8, eo8⟩ := Kd.R_slice HO614.out; subst eo8) | ((with_reducible refine gate_callee (f := 63) rfl ?_); refine goesL_ (some 9) rfl rfl Try.func63 (by kernel_rfl) rfl #[.pointer (some ⟨g611, 0, none⟩), .slice Ao8 y612.length co8] rfl mp_ ?_; (with_reducible refine (spec_l1Int.calls g611 t608 t609 t610 _ _ y612 t615 t616 t617 w _ ?side1 ?side2 ?side3 ?side4 ?side5 A3.out).mono ?_); (case side1 => repeat (first | (with_reducible first | exact HI611.out | apply IsS73.alloc | apply IsS73.drewN | apply IsS73.drew | apply IsS73.set_1 | apply IsS73.set_2) | exact HI611.out)); (case side2 => repeat (first | (with_reducible first | exact HB.out | apply below_alloc | apply pw_below_drewN | apply below_drew1 | refine below_set ?_ (IsS73.ge HI611.out)) | exact HB.out)); (case side3 => exact pc_ ((Kd.R_reads' HO614.out).2.2)); (case side4 => exact (Kd.R_reads' HO614.out).2.1); (case side5 => exact far_slice (IsS73.own_ne HI611.out HO614.out (by decide))); rintro e w9 ⟨rfl, hi, hb, hk⟩; refine ⟨_, rfl, ?_⟩; have n0_ := Aside0.mk (Kd.R_mono (Kd.R_keep (IsS73.apart (show IsS73 w _ g611 t608 t609 t610 from by repeat (first | (with_reducible first | exact HI611.out | apply IsS73.alloc | apply IsS73.drewN | apply IsS73.drew | apply IsS73.set_1 | apply IsS73.set_2) | exact HI611.out)) (pr_ HO614.out) (by decide)) hk (fun _ h => h.2)) (fun _ h => h.1)); have n1_ := Aside0.mk (hb); have n2_ := Aside0.mk (hi); clear HO614; clear HB; clear HI611; have HO614 := n0_; have HB := n1_; have HI611 := n2_; clear n0_ n1_ n2_; (try clear hb); (try clear hb2); (try clear hk); (try clear hi)) | ((with_reducible refine gate_dst (N := 11) rfl ?_); refine Kd.R_lit (Kd.int .i64) _ 3 ?hg (N := 11) ?hd (xs := ([0, 1, 3, 10, 500, 10000, (-1), 9223372036854775807] : List Int)) (inner := [.int .i64 0, .int .i64 1, .int .i64 3, .int .i64 10, .int .i64 500, .int .i64 10000, .int .i64 (-1), .int .i64 9223372036854775807]) (ok := fun _ => True) (okp := fun _ => True) ?hr ?hp (fun _ hk => hk) trivial (Below.refl _ _) (Nat.le_refl _) (by simp) ?_; (case hd => rfl); (case hg => rfl); (case hr => first | (go_simp; done) | (go_simp; rfl)); (case hp => exact (Reps.one (show Kd.M (Kd.int .i64) _ _ _ 0 [.int .i64 0] from rfl) (Reps.one (show Kd.M (Kd.int .i64) _ _ _ 1 [.int .i64 1] from rfl) (Reps.one (show Kd.M (Kd.int .i64) _ _ _ 3 [.int .i64 3] from rfl) (Reps.one (show Kd.M (Kd.int .i64) _ _ _ 10 [.int .i64 10] from rfl) (Reps.one (show Kd.M (Kd.int .i64) _ _ _ 500 [.int .i64 500] from rfl) (Reps.one (show Kd.M (Kd.int .i64) _ _ _ 10000 [.int .i64 10000] from rfl) (Reps.one (show Kd.M (Kd.int .i64) _ _ _ (-1) [.int .i64 (-1)] from rfl) (Reps.one (show Kd.M (Kd.int .i64) _ _ _ 9223372036854775807 [.int .i64 9223372036854775807] from rfl) (Reps.none _ _)))))))))); intro v619 w10 ho11 hb hg_ hnew_; clear hg_ hnew_; (first | rw [← Ny618.out] at ho11 | (simp only [Int.reduceToNat] at ho11; rw [← Ny618.out] at ho11)); have n0_ := Aside0.mk (Kd.R_elder' (pr_ HO614.out) (Kd.R_base ho11) hb); have n1_ := Aside0.mk (Kd.R_lower (Kd.R_new' ho11 (Kd.R_lt (pr_ HO614.out))) (below_size (by repeat (first | (with_reducible first | exact HB.out | apply below_alloc | apply pw_below_drewN | apply below_drew1 | refine below_set ?_ (IsS73.ge HI611.out)) | exact HB.out)))); have n2_ := Aside0.mk (IsS73.below (by repeat (first | (with_reducible first | exact HI611.out | apply IsS73.alloc | apply IsS73.drewN | apply IsS73.drew | apply IsS73.set_1 | apply IsS73.set_2) | exact HI611.out)) hb); have n3_ := Aside0.mk (below_step (by repeat (first | (with_reducible first | exact HB.out | apply below_alloc | apply pw_below_drewN | apply below_drew1 | refine below_set ?_ (IsS73.ge HI611.out)) | exact HB.out)) hb); clear HO614; clear HI611; clear HB; have HO614 := n0_; have HO620 := n1_; have HI611 := n2_; have HB := n3_; clear n0_ n1_ n2_ n3_; clear hb ho11; obtain ⟨Ao12, co12, eo12⟩ := Kd.R_slice HO620.out; subst eo12) | ((with_reducible refine gate_callee (f := 63) rfl ?_); refine goesL_ (some 12) rfl rfl Try.func63 (by kernel_rfl) rfl #[.pointer (some ⟨g611, 0, none⟩), .slice Ao12 y618.length co12] rfl mp_ ?_; (with_reducible refine (spec_l1Int.calls g611 t608 t616 t617 _ _ y618 t621 t622 t623 w _ ?side1 ?side2 ?side3 ?side4 ?side5 A4.out).mono ?_); (case side1 => repeat (first | (with_reducible first | exact HI611.out | apply IsS73.alloc | apply IsS73.drewN | apply IsS73.drew | apply IsS73.set_1 | apply IsS73.set_2) | exact HI611.out)); (case side2 => repeat (first | (with_reducible first | exact HB.out | apply below_alloc | apply pw_below_drewN | apply below_drew1 | refine below_set ?_ (IsS73.ge HI611.out)) | exact HB.out)); (case side3 => exact pc_ ((Kd.R_reads' HO620.out).2.2)); (case side4 => exact (Kd.R_reads' HO620.out).2.1); (case side5 => exact far_slice (IsS73.own_ne HI611.out HO620.out (by decide))); rintro e w13 ⟨rfl, hi, hb, hk⟩; refine ⟨_, rfl, ?_⟩; have n0_ := Aside0.mk (Kd.R_mono (Kd.R_keep (IsS73.apart (show IsS73 w _ g611 t608 t616 t617 from by repeat (first | (with_reducible first | exact HI611.out | apply IsS73.alloc | apply IsS73.drewN | apply IsS73.drew | apply IsS73.set_1 | apply IsS73.set_2) | exact HI611.out)) (pr_ HO614.out) (by decide)) hk (fun _ h => h.2)) (fun _ h => h.1)); have n1_ := Aside0.mk (Kd.R_mono (Kd.R_keep (IsS73.apart (show IsS73 w _ g611 t608 t616 t617 from by repeat (first | (with_reducible first | exact HI611.out | apply IsS73.alloc | apply IsS73.drewN | apply IsS73.drew | apply IsS73.set_1 | apply IsS73.set_2) | exact HI611.out)) (pr_ HO620.out) (by decide)) hk (fun _ h => h.2)) (fun _ h => h.1)); have n2_ := Aside0.mk (hb); have n3_ := Aside0.mk (hi); clear HO614; clear HO620; clear HB; clear HI611; have HO614 := n0_; have HO620 := n1_; have HB := n2_; have HI611 := n3_; clear n0_ n1_ n2_ n3_; (try clear hb); (try clear hb2); (try clear hk); (try clear hi)))
  go_ret2
  exact ⟨er_, by repeat (first | (with_reducible first | exact HB.out | apply below_alloc | apply pw_below_drewN | apply below_drew1 | refine below_set ?_ (IsS73.ge HI611.out)) | exact HB.out)⟩

end Go.Proofs.Ytlcmkgbabffmeaa.Print
