-- Written by a program of this session (printx.py) out of the translation; Lean checks it.
import Derived.Test.YtldcchjbaglppaaPrint0
import Derived.Test.YtldcchjbaglppaaPrint3
import Derived.Test.YtldcchjbaglppaaPrint4
import Derived.Test.YtldcchjbaglppaaPrint5
import Derived.Test.YtldcchjbaglppaaPrint6
namespace Go.Proofs.Ytldcchjbaglppaa.Print
open Go.RowKit Go.Proofs.YtldcchjbaglppaaW.PrintWords Go.Proofs.YtldcchjbaglppaaW.PrintLast Go.Proofs.YtldcchjbaglppaaW.PrintMore Go.Proofs.Ytldcchjbaglppaa.Short
attribute [local go_sem] max2_int min2_int max_two min_two max_three min_three max_four min_four   -- for this text's walks alone
set_option linter.unusedVariables false
set_option linter.unusedSimpArgs false

/-! ### spec_PairsOf: function 71 -/
mutual
def spec_PairsOf.j0 : Nat → List (List Int) → Bool → Int → List Bool → List (S78) → Int → List Bool → List (S78) → Option ((List (List Int)))
  | 0, _, _, _, _, _, _, _, _ => none
  | k + 1, x5, x17, x264000, x264001, x264002, x265000, x265001, x265002 => if x17 = true then (some x5) else (if x5.length < 5864062014805 then (spec_PairsOf.l0 k (x5 ++ [(([0, 0] : List Int))]) 0 x264000 x264001 x264002 x265000 x265001 x265002) else (none))
def spec_PairsOf.l0 : Nat → List (List Int) → Int → Int → List Bool → List (S78) → Int → List Bool → List (S78) → Option ((List (List Int)))
  | 0, _, _, _, _, _, _, _, _ => none
  | k + 1, x5, x6, x264000, x264001, x264002, x265000, x265001, x265002 => if x6 < (x5.length : Int) then (if 0 ≤ x6 then (if 0 < ((rd_L9 x5 x6).length : Int) then (if 1 < ((rd_L9 x5 x6).length : Int) then ((spec_NextPairs.f k x264000 x264001 x264002 x265000 x265001 x265002 (rd (rd_L9 x5 x6) 0) (rd (rd_L9 x5 x6) 1)).bind fun t280 => (spec_PairsOf.l1 k x5 x6 t280 0 x264000 x264001 x264002 x265000 x265001 x265002)) else (none)) else (none)) else (none)) else (some x5)
def spec_PairsOf.l1 : Nat → List (List Int) → Int → List (List Int) → Int → Int → List Bool → List (S78) → Int → List Bool → List (S78) → Option ((List (List Int)))
  | 0, _, _, _, _, _, _, _, _, _, _ => none
  | k + 1, x5, x6, x7, x8, x264000, x264001, x264002, x265000, x265001, x265002 => if x8 < (x7.length : Int) then (if 0 ≤ x8 then ((spec_l14Has.f k x5 (rd_L9 x7 x8)).bind fun t284 => (if t284 = true then (spec_PairsOf.l1 k x5 x6 x7 (wrap64 (x8 + 1)) x264000 x264001 x264002 x265000 x265001 x265002) else (if x5.length < 5864062014805 then (spec_PairsOf.l1 k (x5 ++ [rd_L9 x7 x8]) x6 x7 (wrap64 (x8 + 1)) x264000 x264001 x264002 x265000 x265001 x265002) else (none)))) else (none)) else (spec_PairsOf.l0 k x5 (wrap64 (x6 + 1)) x264000 x264001 x264002 x265000 x265001 x265002)
end
def spec_PairsOf.f (k : Nat) (a0_0 : Int) (l0_1 : List Bool) (l0_2 : List (S78)) (a1_0 : Int) (l1_1 : List Bool) (l1_2 : List (S78)) : Option ((List (List Int))) := (some (([] : List (List Int)) : List (List Int))).bind fun y265 => ((spec_IsMachine.f k a0_0 l0_1 l0_2).bind fun t268 => (if t268 = true then ((spec_IsMachine.f k a1_0 l1_1 l1_2).bind fun t269 => (spec_PairsOf.j0 k y265 (!t269) a0_0 l0_1 l0_2 a1_0 l1_1 l1_2)) else (spec_PairsOf.j0 k y265 true a0_0 l0_1 l0_2 a1_0 l1_1 l1_2)))
theorem spec_PairsOf.mono_l : ∀ k, (∀ y0 y1 y2 y3 y4 y5 y6 y7, LeO (spec_PairsOf.j0 k y0 y1 y2 y3 y4 y5 y6 y7) (spec_PairsOf.j0 (k + 1) y0 y1 y2 y3 y4 y5 y6 y7)) ∧ (∀ y0 y1 y2 y3 y4 y5 y6 y7, LeO (spec_PairsOf.l0 k y0 y1 y2 y3 y4 y5 y6 y7) (spec_PairsOf.l0 (k + 1) y0 y1 y2 y3 y4 y5 y6 y7)) ∧ (∀ y0 y1 y2 y3 y4 y5 y6 y7 y8 y9, LeO (spec_PairsOf.l1 k y0 y1 y2 y3 y4 y5 y6 y7 y8 y9) (spec_PairsOf.l1 (k + 1) y0 y1 y2 y3 y4 y5 y6 y7 y8 y9))
  | 0 => ⟨fun _ _ _ _ _ _ _ _ r h => by simp [spec_PairsOf.j0] at h, fun _ _ _ _ _ _ _ _ r h => by simp [spec_PairsOf.l0] at h, fun _ _ _ _ _ _ _ _ _ _ r h => by simp [spec_PairsOf.l1] at h⟩
  | k + 1 => by
    obtain ⟨ih0, ih1, ih2⟩ := spec_PairsOf.mono_l k
    refine ⟨?_, ?_, ?_⟩
    · intro y0 y1 y2 y3 y4 y5 y6 y7
      unfold spec_PairsOf.j0
      exact mo6_ ih0 ih1 ih2 spec_IsMachine.mono spec_NextPairs.mono spec_l14Has.mono
    · intro y0 y1 y2 y3 y4 y5 y6 y7
      unfold spec_PairsOf.l0
      exact mo6_ ih0 ih1 ih2 spec_IsMachine.mono spec_NextPairs.mono spec_l14Has.mono
    · intro y0 y1 y2 y3 y4 y5 y6 y7 y8 y9
      unfold spec_PairsOf.l1
      exact mo6_ ih0 ih1 ih2 spec_IsMachine.mono spec_NextPairs.mono spec_l14Has.mono
theorem spec_PairsOf.mono : ∀ a0 a1 a2 a3 a4 a5 k, LeO (spec_PairsOf.f k a0 a1 a2 a3 a4 a5) (spec_PairsOf.f (k + 1) a0 a1 a2 a3 a4 a5) := by
  intro a0 a1 a2 a3 a4 a5 k
  obtain ⟨ih0, ih1, ih2⟩ := spec_PairsOf.mono_l k
  unfold spec_PairsOf.f
  exact mo6_ ih0 ih1 ih2 spec_IsMachine.mono spec_NextPairs.mono spec_l14Has.mono
def spec_PairsOf.T8 : Bool × List (List Nat × List Nat) := (true, [([], []), ([], []), ([], []), ([], []), ([2, 3], [2, 3]), ([4], [4]), ([5], [5]), ([6], [6]), ([], []), ([], []), ([8, 9], [8, 9]), ([10], [10]), ([11], [11]), ([12], [12]), ([0, 1, 7, 13], [0, 1, 7, 13]), ([14, 14, 0, 1, 2, 3, 4, 5, 6, 7, 8, 9, 10, 11, 12, 13, 14], [14])])
def spec_PairsOf.B8 : List Nat := [0, 0, 0, 0, 12, 28, 60, 124, 0, 0, 768, 1792, 3840, 7936, 16383, 32767]
theorem spec_PairsOf.tab8 : rtab .any (opsOf Try.f71 8) = spec_PairsOf.T8 := by kernel_rfl
theorem spec_PairsOf.bits8 : waitsOk spec_PairsOf.T8.2 spec_PairsOf.B8 = true := by kernel_rfl
set_option maxHeartbeats 8000000 in
set_option maxRecDepth 100000 in
theorem spec_PairsOf.calls (k : Nat) (a0_0 : Int) (A0_1 : Option Addr) (c0_1 : Nat) (l0_1 : List Bool) (A0_2 : Option Addr) (c0_2 : Nat) (l0_2 : List (S78)) (a1_0 : Int) (A1_1 : Option Addr) (c1_1 : Nat) (l1_1 : List Bool) (A1_2 : Option Addr) (c1_2 : Nat) (l1_2 : List (S78)) (r : List (List Int)) (w : World) (hr0_1 : Kd.C Kd.bool w A0_1 l0_1.length l0_1) (hc0_1 : l0_1.length ≤ c0_1) (hr0_2 : Kd.C k78 w A0_2 l0_2.length l0_2) (hc0_2 : l0_2.length ≤ c0_2) (hr1_1 : Kd.C Kd.bool w A1_1 l1_1.length l1_1) (hc1_1 : l1_1.length ≤ c1_1) (hr1_2 : Kd.C k78 w A1_2 l1_2.length l1_2) (hc1_2 : l1_2.length ≤ c1_2) (h : spec_PairsOf.f k a0_0 l0_1 l0_2 a1_0 l1_1 l1_2 = some r) :
    Calls Try.prog 71 #[.agg #[.int .i64 a0_0, .slice A0_1 l0_1.length c0_1, .slice A0_2 l0_2.length c0_2], .agg #[.int .i64 a1_0, .slice A1_1 l1_1.length c1_1, .slice A1_2 l1_2.length c1_2]] w fun e w' => ∃ v0_ : Value, e = .returned (v0_) ∧ Kd.N (Kd.slice 3 (Kd.int .i64)) 39 w' w.heap.size (fun k_ => (w.heap.size ≤ k_)) v0_ r ∧ Below w.heap.size w w' := by
  have hu34 := Try.underlying34
  have HR0_1 := Q_ hr0_1
  have HC0_1 := Q_ hc0_1
  clear hr0_1 hc0_1
  have HR0_2 := Q_ hr0_2
  have HC0_2 := Q_ hc0_2
  clear hr0_2 hc0_2
  have HR1_1 := Q_ hr1_1
  have HC1_1 := Q_ hc1_1
  clear hr1_1 hc1_1
  have HR1_2 := Q_ hr1_2
  have HC1_2 := Q_ hc1_2
  clear hr1_2 hc1_2
  have HB := Q_ (Below.refl w.heap.size w)
  have H : ((some (([] : List (List Int)) : List (List Int))).bind fun y265 => ((spec_IsMachine.f k a0_0 l0_1 l0_2).bind fun t268 => (if t268 = true then ((spec_IsMachine.f k a1_0 l1_1 l1_2).bind fun t269 => (spec_PairsOf.j0 k y265 (!t269) a0_0 l0_1 l0_2 a1_0 l1_1 l1_2)) else (spec_PairsOf.j0 k y265 true a0_0 l0_1 l0_2 a1_0 l1_1 l1_2)))) = some r := h
  clear h
  obtain ⟨y265, hy265⟩ : ∃ y_ : List (List Int), y_ = (([] : List (List Int))) := ⟨_, rfl⟩
  replace H : ((spec_IsMachine.f k a0_0 l0_1 l0_2).bind fun t268 => (if t268 = true then ((spec_IsMachine.f k a1_0 l1_1 l1_2).bind fun t269 => (spec_PairsOf.j0 k y265 (!t269) a0_0 l0_1 l0_2 a1_0 l1_1 l1_2)) else (spec_PairsOf.j0 k y265 true a0_0 l0_1 l0_2 a1_0 l1_1 l1_2))) = some r := by first | (rw [hy265]; with_reducible exact H) | (have H2_ := (Option.bind_some _ _).symm.trans H; rw [hy265]; with_reducible exact H2_) | (have H2_ := (Option.bind_some _ _).symm.trans H; with_reducible exact H2_) | with_reducible exact H | (rw [hy265]; exact H) | exact H
  have Ny265 := Q_ hy265
  clear hy265
  have HC3 := Q_ H
  clear H
  go_enter Try.func71, Try.ntmps71
  go_upto_region 2 with (first | ((with_reducible refine gate_dst (N := 2) rfl ?_); refine box_event ?hg (N := 2) ?hd (cs := #[.int .i64 a0_0, .slice A0_1 l0_1.length c0_1, .slice A0_2 l0_2.length c0_2]) (t := 34) ?hr ?_; (case hd => rfl); (case hg => rfl); (case hr => first | (go_simp; done) | (go_simp; rfl)); intro gb263 hg w4 hbox hb; have n0_ := Q_ (below_step (pb_ HB.out) hb); have n1_ := Q_ (hbox); have n2_ := Q_ ((by rw [hg]; exact (below_size (pb_ HB.out)) : w.heap.size ≤ gb263)); have n3_ := n2_; clear HB; have HB := n0_; have BK263 := n1_; have GW263 := n2_; have GE263 := n3_; clear n0_ n1_ n2_ n3_; clear hb hbox hg) | ((with_reducible refine gate_dst (N := 3) rfl ?_); refine box_event ?hg (N := 3) ?hd (cs := #[.int .i64 a1_0, .slice A1_1 l1_1.length c1_1, .slice A1_2 l1_2.length c1_2]) (t := 34) ?hr ?_; (case hd => rfl); (case hg => rfl); (case hr => first | (go_simp; done) | (go_simp; rfl)); intro gb264 hg w5 hbox hb; have n0_ := Q_ (bb_ BK263.out hb); have n1_ := Q_ (below_step (pb1_ HB.out GE263.out) hb); have n2_ := Q_ (hbox); have n3_ := Q_ ((by rw [hg]; exact (below_size (pb1_ HB.out GE263.out)) : w.heap.size ≤ gb264)); have n4_ := n3_; have n5_ := Q_ ((by rw [hg]; exact Nat.ne_of_lt (blk_lt (pk_ BK263.out)) : gb263 ≠ gb264)); have n6_ := Q_ ((by rw [hg]; exact Nat.ne_of_gt (blk_lt (pk_ BK263.out)) : gb264 ≠ gb263)); clear BK263; clear HB; have BK263 := n0_; have HB := n1_; have BK264 := n2_; have GW264 := n3_; have GE264 := n4_; have NB263_264 := n5_; have NB264_263 := n6_; clear n0_ n1_ n2_ n3_ n4_ n5_ n6_; clear hb hbox hg) | ((with_reducible refine gate_dst (N := 9) rfl ?_); refine Kd.N_lit (Kd.slice 3 (Kd.int .i64)) _ 39 ?hg (N' := 9) ?hd (xs := ([] : List (List Int))) (inner := []) (ok := (fun k_ => (w.heap.size ≤ k_) ∧ k_ ≠ gb263 ∧ k_ ≠ gb264)) (okp := (fun k_ => (w.heap.size ≤ k_) ∧ k_ ≠ gb263 ∧ k_ ≠ gb264)) ?hr ?hp (fun _ hk => hk) ((show ∀ k_, w5.heap.size ≤ k_ → (fun k_ => (w.heap.size ≤ k_) ∧ k_ ≠ gb263 ∧ k_ ≠ gb264) k_ from fun k_ hk => ⟨(Nat.le_trans (below_size (pb2_ HB.out GE263.out GE264.out)) hk), Kd.freshB (g := gb263) (o := .cells #[.int .i64 a0_0, .slice A0_1 l0_1.length c0_1, .slice A0_2 l0_2.length c0_2] 34 (0, 0)) (pk_ BK263.out) k_ hk, Kd.freshB (g := gb264) (o := .cells #[.int .i64 a1_0, .slice A1_1 l1_1.length c1_1, .slice A1_2 l1_2.length c1_2] 34 (0, 0)) (pk_ BK264.out) k_ hk⟩) _ (Nat.le_refl _)) (Below.refl _ _) (Nat.le_refl _) (by simp) ?_; (case hd => rfl); (case hg => rfl); (case hr => first | (go_simp; done) | (go_simp; rfl)); (case hp => exact (Reps.none _ _)); intro v266 w6 ho7 hb hg_ hnew_; clear hg_ hnew_; (first | rw [← Ny265.out] at ho7 | (simp only [Int.reduceToNat] at ho7; rw [← Ny265.out] at ho7)); have _ := Q_ (Kd.N_lower ho7 (below_size (pb2_ HB.out GE263.out GE264.out))); have _ := Q_ (bb_ BK263.out hb); have _ := Q_ (bb_ BK264.out hb); have _ := Q_ (below_step (pb2_ HB.out GE263.out GE264.out) hb); clear BK263 BK264 HB; rename_i HO267 BK263 BK264 HB; clear hb ho7))
  (try simp only [Act.put, List.setIfInBounds_toArray, List.set_cons_zero, List.set_cons_succ])
  go_cut [17] (fun v17 wc => ∃ (kq : Nat) (x17_2 : Bool), v17 = .bool x17_2 ∧ Aside0 (spec_PairsOf.j0 kq y265 x17_2 a0_0 l0_1 l0_2 a1_0 l1_1 l1_2 = some r) ∧ Aside0 (kq ≤ k) ∧ Aside0 (Kd.N (Kd.slice 3 (Kd.int .i64)) 39 wc w.heap.size (fun k_ => (w.heap.size ≤ k_) ∧ k_ ≠ gb263 ∧ k_ ≠ gb264) v266 y265) ∧ Aside0 (wc.heap[gb263]? = some (.cells #[.int .i64 a0_0, (.slice A0_1 l0_1.length c0_1), (.slice A0_2 l0_2.length c0_2)] 34 (0, 0))) ∧ Aside0 (wc.heap[gb264]? = some (.cells #[.int .i64 a1_0, (.slice A1_1 l1_1.length c1_1), (.slice A1_2 l1_2.length c1_2)] 34 (0, 0))) ∧ Aside0 (Below w.heap.size w wc))
  case first =>
    have H := HC3.out
    clear HC3
    replace H := Option.bind_eq_some_iff.mp H
    obtain ⟨t268, A80, H⟩ := H
    (try dsimp only at H)
    have A8 := Q_ A80
    clear A80
    by_cases c9 : t268 = true
    rotate_left
    · replace c9 := Bool.eq_false_iff.mpr c9
      subst c9
      rw [if_neg (show ¬ (false = true) by decide)] at H
      have H' := Q_ H
      clear H
      have hnb10 := NB263_264.out
      have hnc10 := NB264_263.out
      have hcz11 := bc3_ BK263.out
      go_wp2_with (first | ((with_reducible refine gate_callee (f := 59) rfl ?_); refine gl_ (some 11) Try.func59 #[.agg #[.int .i64 a0_0, .slice A0_1 l0_1.length c0_1, .slice A0_2 l0_2.length c0_2]] ?_; (with_reducible refine (spec_IsMachine.calls k a0_0 _ _ l0_1 _ _ l0_2 false _ ?side1 ?side2 ?side3 ?side4 A8.out).mono ?_); (case side1 => exact cb_ HR0_1 HB); (case side2 => exact HC0_1.out); (case side3 => exact cb_ HR0_2 HB); (case side4 => exact HC0_2.out); rintro e w12 ⟨rfl, hb⟩; refine ⟨_, rfl, ?_⟩; have n0_ := Q_ (Kd.N_below (by (with_reducible repeat (first | apply Kd.N_alloc | apply Kd.N_drewN | apply Kd.N_drew)); exact HO267.out) hb); have n1_ := Q_ (bb_ BK263.out hb); have n2_ := Q_ (bb_ BK264.out hb); have n3_ := Q_ (below_step (pb2_ HB.out GE263.out GE264.out) hb); clear HO267; clear BK263; clear BK264; clear HB; have HO267 := n0_; have BK263 := n1_; have BK264 := n2_; have HB := n3_; clear n0_ n1_ n2_ n3_; (try clear hb); (try clear hb2); (try clear hk); (try clear hi)))
      go_meet
      case rel => exact ⟨_, (true), el_, H', ⟨by first | omega | exact Nat.le_refl _⟩, ⟨by (with_reducible repeat (first | apply Kd.N_alloc | apply Kd.N_drewN | apply Kd.N_drew)); exact HO267.out⟩, ⟨pk_ BK263.out⟩, ⟨pk_ BK264.out⟩, ⟨pb2_ HB.out GE263.out GE264.out⟩⟩
    subst c9
    rw [if_pos rfl] at H
    replace H := Option.bind_eq_some_iff.mp H
    obtain ⟨t269, A130, H⟩ := H
    replace H : (spec_PairsOf.j0 k y265 (!t269) a0_0 l0_1 l0_2 a1_0 l1_1 l1_2) = some r := H
    have A13 := Q_ A130
    clear A130
    have H' := Q_ H
    clear H
    have hnb14 := NB263_264.out
    have hnc14 := NB264_263.out
    have hcz15 := bc3_ BK263.out
    go_wp2_with (first | ((with_reducible refine gate_callee (f := 59) rfl ?_); refine gl_ (some 11) Try.func59 #[.agg #[.int .i64 a0_0, .slice A0_1 l0_1.length c0_1, .slice A0_2 l0_2.length c0_2]] ?_; (with_reducible refine (spec_IsMachine.calls k a0_0 _ _ l0_1 _ _ l0_2 true _ ?side1 ?side2 ?side3 ?side4 A8.out).mono ?_); (case side1 => exact cb_ HR0_1 HB); (case side2 => exact HC0_1.out); (case side3 => exact cb_ HR0_2 HB); (case side4 => exact HC0_2.out); rintro e w16 ⟨rfl, hb⟩; refine ⟨_, rfl, ?_⟩; have n0_ := Q_ (Kd.N_below (by (with_reducible repeat (first | apply Kd.N_alloc | apply Kd.N_drewN | apply Kd.N_drew)); exact HO267.out) hb); have n1_ := Q_ (bb_ BK263.out hb); have n2_ := Q_ (bb_ BK264.out hb); have n3_ := Q_ (below_step (pb2_ HB.out GE263.out GE264.out) hb); clear HO267; clear BK263; clear BK264; clear HB; have HO267 := n0_; have BK263 := n1_; have BK264 := n2_; have HB := n3_; clear n0_ n1_ n2_ n3_; (try clear hb); (try clear hb2); (try clear hk); (try clear hi); have hcz17 := bc3_ BK264.out) | (go_at_call 59; (with_reducible refine (spec_IsMachine.calls k a1_0 _ _ l1_1 _ _ l1_2 t269 _ ?side1 ?side2 ?side3 ?side4 A13.out).mono ?_); (case side1 => exact cb_ HR1_1 HB); (case side2 => exact HC1_1.out); (case side3 => exact cb_ HR1_2 HB); (case side4 => exact HC1_2.out); rintro e w18 ⟨rfl, hb⟩; have n0_ := Q_ (Kd.N_below (by (with_reducible repeat (first | apply Kd.N_alloc | apply Kd.N_drewN | apply Kd.N_drew)); exact HO267.out) hb); have n1_ := Q_ (bb_ BK263.out hb); have n2_ := Q_ (bb_ BK264.out hb); have n3_ := Q_ (below_step (pb2_ HB.out GE263.out GE264.out) hb); clear HO267; clear BK263; clear BK264; clear HB; have HO267 := n0_; have BK263 := n1_; have BK264 := n2_; have HB := n3_; clear n0_ n1_ n2_ n3_; (try clear hb); (try clear hb2); (try clear hk); (try clear hi)))
    go_meet
    case rel => exact ⟨_, (!t269), el_, H', ⟨by first | omega | exact Nat.le_refl _⟩, ⟨by (with_reducible repeat (first | apply Kd.N_alloc | apply Kd.N_drewN | apply Kd.N_drew)); exact HO267.out⟩, ⟨pk_ BK263.out⟩, ⟨pk_ BK264.out⟩, ⟨pb2_ HB.out GE263.out GE264.out⟩⟩
  clear HC3
  try clear c1
  try clear p2
  try clear c5
  try clear c7
  try clear c9
  try clear c10
  try clear c14
  try clear hcz11
  try clear hcz15
  try clear hcz17
  obtain ⟨kq, x17_2, rfl, HA, HJ2, HO_5, BK263, BK264, HB⟩ := hcut
  rcases kq with _ | kj2
  · exact absurd HA.out (by simp [spec_PairsOf.j0])
  have H := HA.out
  clear HA
  simp only [spec_PairsOf.j0] at H
  by_cases c19 : x17_2 = true
  · subst c19
    rw [if_pos rfl] at H
    obtain rfl := Option.some.inj H
    go_wp2
    go_ret
    exact ⟨_, er_, by (with_reducible repeat (first | apply Kd.N_alloc | apply Kd.N_drewN | apply Kd.N_drew)); exact Kd.N_mono HO_5.out (fun _ hk => hk.1), pb2_ HB.out GE263.out GE264.out⟩
  replace c19 := Bool.eq_false_iff.mpr c19
  subst c19
  rw [if_neg (show ¬ (false = true) by decide)] at H
  obtain ⟨y270, hy270⟩ : ∃ y_ : List Int, y_ = (([0, 0] : List Int)) := ⟨_, rfl⟩
  replace H : (if y265.length < 5864062014805 then (spec_PairsOf.l0 kj2 (y265 ++ [y270]) 0 a0_0 l0_1 l0_2 a1_0 l1_1 l1_2) else (none)) = some r := by first | (rw [hy270]; with_reducible exact H) | (have H2_ := (Option.bind_some _ _).symm.trans H; rw [hy270]; with_reducible exact H2_) | (have H2_ := (Option.bind_some _ _).symm.trans H; with_reducible exact H2_) | with_reducible exact H | (rw [hy270]; exact H) | exact H
  have Ny270 := Q_ hy270
  clear hy270
  by_cases c20 : y265.length < 5864062014805
  rotate_left
  · rw [if_neg c20] at H
    exact absurd H (by simp)
  rw [if_pos c20] at H
  have LMc20 := Q_ c20
  clear c20
  obtain ⟨y273, hy273⟩ : ∃ y_ : List (List Int), y_ = (y265 ++ [y270]) := ⟨_, rfl⟩
  replace H : (spec_PairsOf.l0 kj2 y273 0 a0_0 l0_1 l0_2 a1_0 l1_1 l1_2) = some r := by first | (rw [hy273]; with_reducible exact H) | (have H2_ := (Option.bind_some _ _).symm.trans H; rw [hy273]; with_reducible exact H2_) | (have H2_ := (Option.bind_some _ _).symm.trans H; with_reducible exact H2_) | with_reducible exact H | (rw [hy273]; exact H) | exact H
  have Ny273 := Q_ hy273
  clear hy273
  have H' := Q_ H
  clear H
  go_wp2_with (first | ((with_reducible refine gate_dst (N := 20) rfl ?_); refine Kd.R_lit (Kd.int .i64) _ 3 ?hg (N := 20) ?hd (xs := ([0, 0] : List Int)) (inner := [.int .i64 0, .int .i64 0]) (ok := fun _ => True) (okp := fun _ => True) ?hr ?hp (fun _ hk => hk) trivial (Below.refl _ _) (Nat.le_refl _) (by simp) ?_; (case hd => rfl); (case hg => rfl); (case hr => first | (go_simp; done) | (go_simp; rfl)); (case hp => exact (Reps.one (show Kd.M (Kd.int .i64) _ _ _ 0 [.int .i64 0] from rfl) (Reps.one (show Kd.M (Kd.int .i64) _ _ _ 0 [.int .i64 0] from rfl) (Reps.none _ _)))); intro v271 w21 ho22 hb hg_ hnew_; clear hg_ hnew_; (first | rw [← Ny270.out] at ho22 | (simp only [Int.reduceToNat] at ho22; rw [← Ny270.out] at ho22)); have n0_ := Q_ (Kd.N_elder' (by (with_reducible repeat (first | apply Kd.N_alloc | apply Kd.N_drewN | apply Kd.N_drew)); exact HO_5.out) (Kd.R_base ho22) hb); have n1_ := Q_ (Kd.R_lower (Kd.R_newM (M := fun k_ => (w.heap.size ≤ k_)) ho22 (below_size (pb2_ HB.out GE263.out GE264.out)) (fun k_ h_ => h_)) (below_size (pb2_ HB.out GE263.out GE264.out))); have n2_ := Q_ (bb_ BK263.out hb); have n3_ := Q_ (bb_ BK264.out hb); have n4_ := Q_ (below_step (pb2_ HB.out GE263.out GE264.out) hb); clear HO_5; clear BK263; clear BK264; clear HB; have HO_5 := n0_; have HO272 := n1_; have BK263 := n2_; have BK264 := n3_; have HB := n4_; clear n0_ n1_ n2_ n3_ n4_; clear hb ho22; obtain ⟨Ao24, co24, eo24⟩ := Kd.R_slice HO272.out; subst eo24) | ((with_reducible refine gate_builtin (b := .append) (xs := #[.tmp 19, .tmp 21]) rfl ?_); at_builtin; refine Kd.N_append (Kd.slice 3 (Kd.int .i64)) (w0 := w) w.heap.size rfl (.tmp 19) (.tmp 21) 83 39 (.slice none 0 0) 24 rfl Try.underlying83 info39 rfl (by decide) (by omega) v266 y265 y270 [.slice Ao24 y270.length co24] (fun k_ => (w.heap.size ≤ k_) ∧ k_ ≠ gb263 ∧ k_ ≠ gb264) (fun k_ => ((fun k_ => (w.heap.size ≤ k_) ∧ k_ ≠ gb263 ∧ k_ ≠ gb264)) k_ ∧ some k_ ≠ (v266 : Value).ownBlock) rfl rfl ?aP (fun _ hk => hk) ?aF ?aO ?aB ?aS ?aL ?_; (case aP => exact (Kd.FK_slice_mk (Kd.R_reads' (Kd.R_mono (ok' := (fun k_ => ((fun k_ => (w.heap.size ≤ k_) ∧ k_ ≠ gb263 ∧ k_ ≠ gb264)) k_ ∧ some k_ ≠ (v266 : Value).ownBlock)) (Kd.R_types (Kd.R_types (Kd.R_apart' (HO272.out) (Kd.N_typed HO_5.out) (by decide)) BK263.out (by decide)) BK264.out (by decide)) (fun k_ hk => ⟨⟨hk.1.1.1.1, ⟨hk.1.2, hk.2⟩⟩, hk.1.1.2⟩))).2.1 (Kd.R_F (Kd.R_mono (ok' := (fun k_ => ((fun k_ => (w.heap.size ≤ k_) ∧ k_ ≠ gb263 ∧ k_ ≠ gb264)) k_ ∧ some k_ ≠ (v266 : Value).ownBlock)) (Kd.R_types (Kd.R_types (Kd.R_apart' (HO272.out) (Kd.N_typed HO_5.out) (by decide)) BK263.out (by decide)) BK264.out (by decide)) (fun k_ hk => ⟨⟨hk.1.1.1.1, ⟨hk.1.2, hk.2⟩⟩, hk.1.1.2⟩))))); (case aB => exact (pb2_ HB.out GE263.out GE264.out)); (case aF => exact (fun k_ hk => ⟨(Nat.le_trans (below_size (pb2_ HB.out GE263.out GE264.out)) hk), Kd.freshB (g := gb263) (o := .cells #[.int .i64 a0_0, .slice A0_1 l0_1.length c0_1, .slice A0_2 l0_2.length c0_2] 34 (0, 0)) (pk_ BK263.out) k_ hk, Kd.freshB (g := gb264) (o := .cells #[.int .i64 a1_0, .slice A1_1 l1_1.length c1_1, .slice A1_2 l1_2.length c1_2] 34 (0, 0)) (pk_ BK264.out) k_ hk⟩)); (case aO => exact (by (with_reducible repeat (first | apply Kd.N_alloc | apply Kd.N_drewN | apply Kd.N_drew)); exact Kd.N_mono HO_5.out (fun _ hk => ⟨hk.1.1, ⟨hk.1.2.1, hk.1.2.2⟩⟩))); (case aS => exact (below_size (pb2_ HB.out GE263.out GE264.out))); (case aL => have := LMc20.out; omega); intro v274 w23 ho hb hg hat; rw [← Ny273.out] at ho; have _ := Q_ (blk_grown (g := gb263) (o := .cells #[.int .i64 a0_0, .slice A0_1 l0_1.length c0_1, .slice A0_2 l0_2.length c0_2] 34 (0, 0)) (pk_ BK263.out) hg (Kd.N_ne HO_5.out BK263.out (by decide))); have _ := Q_ (blk_grown (g := gb264) (o := .cells #[.int .i64 a1_0, .slice A1_1 l1_1.length c1_1, .slice A1_2 l1_2.length c1_2] 34 (0, 0)) (pk_ BK264.out) hg (Kd.N_ne HO_5.out BK264.out (by decide))); have _ := Q_ (hb); have _ := Q_ (ho); clear BK263 BK264 HB HO_5 HO272; rename_i BK263 BK264 HB HO275; clear ho hb hg hat))
  (try simp only [Act.put, List.setIfInBounds_toArray, List.set_cons_zero, List.set_cons_succ])
  go_loopg [5, 6] kj2 (fun kq v5 v6 w' => ∃ (x5_2 : List (List Int)) (x6_2 : Int), v6 = .int .i64 x6_2 ∧ Aside0 (spec_PairsOf.l0 kq x5_2 x6_2 a0_0 l0_1 l0_2 a1_0 l1_1 l1_2 = some r) ∧ Aside0 (kq ≤ kj2) ∧ Aside0 (Kd.N (Kd.slice 3 (Kd.int .i64)) 39 w' w.heap.size (fun k_ => (w.heap.size ≤ k_) ∧ k_ ≠ gb263 ∧ k_ ≠ gb264) v5 x5_2) ∧ Aside0 (w'.heap[gb263]? = some (.cells #[.int .i64 a0_0, (.slice A0_1 l0_1.length c0_1), (.slice A0_2 l0_2.length c0_2)] 34 (0, 0))) ∧ Aside0 (w'.heap[gb264]? = some (.cells #[.int .i64 a1_0, (.slice A1_1 l1_1.length c1_1), (.slice A1_2 l1_2.length c1_2)] 34 (0, 0))) ∧ Aside0 (Below w.heap.size w w'))
  case atStart => exact ⟨(y273), (0), el_, H', ⟨Nat.le_refl _⟩, ⟨by (with_reducible repeat (first | apply Kd.N_alloc | apply Kd.N_drewN | apply Kd.N_drew)); exact HO275.out⟩, ⟨pk_ BK263.out⟩, ⟨pk_ BK264.out⟩, ⟨pb2_ HB.out GE263.out GE264.out⟩⟩
  clear H'
  try clear c1
  try clear c2
  try clear p2
  try clear c5
  try clear c7
  try clear c9
  try clear c10
  try clear c14
  try clear c19
  try clear c20
  try clear p2
  obtain ⟨x5_2, x6_2, rfl, HA, HK2, HO_5, BK263, BK264, HB⟩ := hrel
  rcases gk with _ | k2
  · exact absurd HA.out (by simp [spec_PairsOf.l0])
  have H := HA.out
  clear HA
  simp only [spec_PairsOf.l0] at H
  by_cases c25 : x6_2 < (x5_2.length : Int)
  rotate_left
  · rw [if_neg c25] at H
    have c25b0 : decide (x6_2 < (x5_2.length : Int)) = false := decide_eq_false c25
    clear c25
    obtain rfl := Option.some.inj H
    obtain ⟨Ao26, co26, eo26⟩ := Kd.N_slice HO_5.out
    subst eo26
    go_wp2
    go_ret
    exact ⟨_, er_, by (with_reducible repeat (first | apply Kd.N_alloc | apply Kd.N_drewN | apply Kd.N_drew)); exact Kd.N_mono HO_5.out (fun _ hk => hk.1), pb2_ HB.out GE263.out GE264.out⟩
  rw [if_pos c25] at H
  have c25b0 : decide (x6_2 < (x5_2.length : Int)) = true := decide_eq_true c25
  clear c25
  by_cases c27 : 0 ≤ x6_2
  rotate_left
  · rw [if_neg c27] at H
    exact absurd H (by simp)
  rw [if_pos c27] at H
  have c27b0 : decide (0 ≤ x6_2) = true := decide_eq_true c27
  clear c27
  by_cases c28 : 0 < ((rd_L9 x5_2 x6_2).length : Int)
  rotate_left
  · rw [if_neg c28] at H
    exact absurd H (by simp)
  rw [if_pos c28] at H
  have c28b0 : decide (0 < ((rd_L9 x5_2 x6_2).length : Int)) = true := decide_eq_true c28
  have c28b1 : decide (0 < (rd_L9 x5_2 x6_2).length) = true := decide_eq_true (by omega)
  clear c28
  by_cases c29 : 1 < ((rd_L9 x5_2 x6_2).length : Int)
  rotate_left
  · rw [if_neg c29] at H
    exact absurd H (by simp)
  rw [if_pos c29] at H
  have c29b0 : decide (1 < ((rd_L9 x5_2 x6_2).length : Int)) = true := decide_eq_true c29
  have c29b1 : decide (1 < (rd_L9 x5_2 x6_2).length) = true := decide_eq_true (by omega)
  clear c29
  replace H := Option.bind_eq_some_iff.mp H
  obtain ⟨t280, A300, H⟩ := H
  (try dsimp only at H)
  have A30 := Q_ A300
  clear A300
  have H' := Q_ H
  clear H
  obtain ⟨Ao31, co31, eo31⟩ := Kd.N_slice HO_5.out
  subst eo31
  try go_wp2
  have _ := Q_ (Kd.N_drew HO_5.out)
  have _ := Q_ (blk_drew BK263.out)
  have _ := Q_ (blk_drew BK264.out)
  have _ := Q_ (below_drew1 HB.out)
  clear HO_5 BK263 BK264 HB
  rename_i HO_5 BK263 BK264 HB
  have p276 : 0 ≤ (x6_2 : Int) := dt_
  have q276 : x6_2 < (x5_2.length : Int) := dt_
  obtain ⟨ad276, A276_0, c276_0, e276, hx276_0, hl276_0, hi276_0⟩ := at_L9 (Kd.N_reads' HO_5.out).2.2 x6_2 p276 q276
  cases e276
  obtain ⟨ce276, hce276, hMe276, hcc276⟩ := Kd.N_get HO_5.out [] x6_2 p276 (by first | exact q276 | exact dt_ | (have e_ := (Kd.N_reads' HO_5.out).1; omega))
  obtain ⟨ua276_0, uc276_0, rfl, ul276_0, ge276_0⟩ := Kd.FK_slice_open hMe276
  have hv276_0 := hcc276 0 _ rfl
  rw [Nat.add_zero, show ((Kd.slice 3 (Kd.int .i64))).sz = 1 from rfl, Nat.mul_one] at hv276_0
  replace hv276_0 := Option.some.inj (hv276_0.symm.trans hx276_0)
  injection hv276_0 with hva_ hvn_ hvc_
  rw [hva_] at ge276_0
  rw [hvc_] at ul276_0
  have HL276_0 := Q_ (show Kd.V (Kd.int .i64) 3 _ w.heap.size _ _ (rd_L9 x5_2 x6_2) from Kd.V_mk ul276_0 ge276_0)
  clear hva_ hvn_ hvc_ ge276_0 ul276_0
  clear hcc276 hce276
  have HR276_0 := Q_ hi276_0
  have HC276_0 := Q_ hl276_0
  clear hi276_0 hl276_0
  replace p276 := eq_true p276
  replace q276 := eq_true q276
  have p277 : 0 ≤ (0 : Int) := (by omega)
  have q277 : 0 < ((rd_L9 x5_2 x6_2).length : Int) := dt_
  obtain ⟨ad277, e277, hx277_0⟩ := Kd.at_int (by repeat (first | (with_reducible exact HR276_0.out) | (with_reducible refine Kd.C_alloc ?_ _) | (with_reducible refine Kd.C_drewN ?_ _) | (with_reducible refine Kd.C_drew ?_) | exact HR276_0.out)) 0 p277 q277
  cases e277
  have qi277 : (0 < (rd_L9 x5_2 x6_2).length) = True := eq_true (by omega)
  (try rw [show ((0 : Int)).toNat = 0 from rfl] at hx277_0)
  (try rw [Addr.add_zero'] at hx277_0)
  replace p277 := eq_true p277
  replace q277 := eq_true q277
  have p278 : 0 ≤ (x6_2 : Int) := dt_
  have q278 : x6_2 < (x5_2.length : Int) := dt_
  obtain ⟨ad278, A278_0, c278_0, e278, hx278_0, hl278_0, hi278_0⟩ := at_L9 (Kd.N_reads' HO_5.out).2.2 x6_2 p278 q278
  obtain rfl : ad276 = ad278 := (by injection e278)
  obtain ⟨ce278, hce278, hMe278, hcc278⟩ := Kd.N_get HO_5.out [] x6_2 p278 (by first | exact q278 | exact dt_ | (have e_ := (Kd.N_reads' HO_5.out).1; omega))
  obtain ⟨ua278_0, uc278_0, rfl, ul278_0, ge278_0⟩ := Kd.FK_slice_open hMe278
  have hv278_0 := hcc278 0 _ rfl
  rw [Nat.add_zero, show ((Kd.slice 3 (Kd.int .i64))).sz = 1 from rfl, Nat.mul_one] at hv278_0
  replace hv278_0 := Option.some.inj (hv278_0.symm.trans hx278_0)
  injection hv278_0 with hva_ hvn_ hvc_
  rw [hva_] at ge278_0
  rw [hvc_] at ul278_0
  have HL278_0 := Q_ (show Kd.V (Kd.int .i64) 3 _ w.heap.size _ _ (rd_L9 x5_2 x6_2) from Kd.V_mk ul278_0 ge278_0)
  clear hva_ hvn_ hvc_ ge278_0 ul278_0
  clear hcc278 hce278
  have HR278_0 := Q_ hi278_0
  have HC278_0 := Q_ hl278_0
  clear hi278_0 hl278_0
  replace p278 := eq_true p278
  replace q278 := eq_true q278
  have ea_ := Option.some.inj (hx276_0.symm.trans hx278_0)
  injection ea_ with ea_ en_ ec_
  subst ea_
  subst ec_
  clear en_
  have p279 : 0 ≤ (1 : Int) := (by omega)
  have q279 : 1 < ((rd_L9 x5_2 x6_2).length : Int) := dt_
  obtain ⟨ad279, e279, hx279_0⟩ := Kd.at_int (by repeat (first | (with_reducible exact HR278_0.out) | (with_reducible refine Kd.C_alloc ?_ _) | (with_reducible refine Kd.C_drewN ?_ _) | (with_reducible refine Kd.C_drew ?_) | exact HR278_0.out)) 1 p279 q279
  cases e279
  (try simp only [show (1 : Int).toNat = 1 from rfl, Nat.reduceMul, Nat.reduceEqDiff, Go.Addr.add, ↓reduceIte] at hx279_0)
  have qi279 : (1 < (rd_L9 x5_2 x6_2).length) = True := eq_true (by omega)
  (try rw [show ((1 : Int)).toNat = 1 from rfl] at hx279_0)
  replace p279 := eq_true p279
  replace q279 := eq_true q279
  refine start_ (n := 16) (S := fun w' => w'.cell? ⟨gb263, 0, none⟩ = some (.int .i64 a0_0) ∧ w'.cell? ⟨gb263, 1, none⟩ = some (.slice A0_1 l0_1.length c0_1) ∧ w'.cell? ⟨gb263, 2, none⟩ = some (.slice A0_2 l0_2.length c0_2) ∧ w'.cell? ⟨gb264, 0, none⟩ = some (.int .i64 a1_0) ∧ w'.cell? ⟨gb264, 1, none⟩ = some (.slice A1_1 l1_1.length c1_1) ∧ w'.cell? ⟨gb264, 2, none⟩ = some (.slice A1_2 l1_2.length c1_2) ∧ w'.cell? (ad276.add (x6_2).toNat) = some (.slice (some ad277) (rd_L9 x5_2 x6_2).length c276_0) ∧ w'.cell? ad277 = some (.int .i64 (rd (rd_L9 x5_2 x6_2) 0)) ∧ w'.cell? (ad276.add (x6_2).toNat) = some (.slice (some ad277) (rd_L9 x5_2 x6_2).length c276_0) ∧ w'.cell? ⟨ad277.block, ad277.off + 1, none⟩ = some (.int .i64 (rd (rd_L9 x5_2 x6_2) 1))) (ds := []) (tf_ 0 16) (by kernel_rfl) rfl rfl ⟨(blk_cell BK263.out 0).trans rfl, (blk_cell BK263.out 1).trans rfl, (blk_cell BK263.out 2).trans rfl, (blk_cell BK264.out 0).trans rfl, (blk_cell BK264.out 1).trans rfl, (blk_cell BK264.out 2).trans rfl, hx276_0, hx277_0, hx278_0, hx279_0⟩ (fun hHeld => ?_); refine with_tabW spec_PairsOf.tab8 spec_PairsOf.bits8 (fun HT_ HW_ => ?_)
  generalize wr.drew = w32 at HO_5 BK263 BK264 HB HL276_0 HL278_0 HR276_0 HR278_0 hx276_0 hx277_0 hx278_0 hx279_0 hHeld ⊢
  refine pu_ 2 (some 31) (tm_ 16 4) HT_ ?_
  refine pu_ 3 (some 32) (tm_ 16 12) HT_ ?_
  refine pu_ 4 (some 33) (tm_ 16 28) HT_ ?_
  refine pu_ 8 (some 37) (tm_ 16 284) HT_ ?_
  refine pu_ 9 (some 38) (tm_ 16 796) HT_ ?_
  refine pu_ 10 (some 39) (tm_ 16 1820) HT_ ?_
  refine ta_ 0 (some 29) (tm_ 16 1821) HT_ HW_ hHeld ?_
  refine ta_ 1 (some 30) (tm_ 16 1823) HT_ HW_ hHeld ?_
  refine ta_ 5 (some 34) (tm_ 16 1855) HT_ HW_ hHeld ?_
  refine pu_ 6 (some 35) (tm_ 16 1919) HT_ ?_
  refine ta_ 7 (some 36) (tf_ 11 16) HT_ HW_ hHeld ?_
  refine ta_ 11 (some 40) (tf_ 12 16) HT_ HW_ hHeld ?_
  refine pu_ 12 (some 41) (tf_ 13 16) HT_ ?_
  refine ta_ 13 (some 42) (tf_ 14 16) HT_ HW_ hHeld ?_
  refine on_ 14 (some 43) (tf_ 15 16) HT_ (fun K hK => ?_)
  refine goes_ Try.func85 (by kernel_rfl) rfl #[.agg #[.int .i64 a0_0, .slice A0_1 l0_1.length c0_1, .slice A0_2 l0_2.length c0_2], .agg #[.int .i64 a1_0, .slice A1_1 l1_1.length c1_1, .slice A1_2 l1_2.length c1_2], .int .i64 (rd (rd_L9 x5_2 x6_2) 0), .int .i64 (rd (rd_L9 x5_2 x6_2) 1)] (by rfl) rfl rfl mp_ ?_
  with_reducible refine (spec_NextPairs.calls k2 a0_0 _ _ l0_1 _ _ l0_2 a1_0 _ _ l1_1 _ _ l1_2 (rd (rd_L9 x5_2 x6_2) 0) (rd (rd_L9 x5_2 x6_2) 1) t280 _ ?side1 ?side2 ?side3 ?side4 ?side5 ?side6 ?side7 ?side8 A30.out).mono ?_
  (case side1 => exact cb_ HR0_1 HB)
  (case side2 => exact HC0_1.out)
  (case side3 => exact cb_ HR0_2 HB)
  (case side4 => exact HC0_2.out)
  (case side5 => exact cb_ HR1_1 HB)
  (case side6 => exact HC1_1.out)
  (case side7 => exact cb_ HR1_2 HB)
  (case side8 => exact HC1_2.out)
  rintro e w33 ⟨v281, rfl, ho0, hb⟩
  have HS6_ := (hb.cell (World.block_lt_of_cell? _ _ (hHeld.2.2.2.2.2.2.1))).trans (hHeld.2.2.2.2.2.2.1)
  have HS7_ := (hb.cell (World.block_lt_of_cell? _ _ (hHeld.2.2.2.2.2.2.2.1))).trans (hHeld.2.2.2.2.2.2.2.1)
  have HS8_ := (hb.cell (World.block_lt_of_cell? _ _ (hHeld.2.2.2.2.2.2.2.2.1))).trans (hHeld.2.2.2.2.2.2.2.2.1)
  have HS9_ := (hb.cell (World.block_lt_of_cell? _ _ (hHeld.2.2.2.2.2.2.2.2.2))).trans (hHeld.2.2.2.2.2.2.2.2.2)
  refine ⟨_, rfl, ?_⟩
  have _ := Q_ (Kd.N_elder' (by (with_reducible repeat (first | apply Kd.N_alloc | apply Kd.N_drewN | apply Kd.N_drew)); exact HO_5.out) (Kd.S_base ho0) hb)
  have _ := Q_ (Kd.V_elder' (by (with_reducible repeat (first | apply Kd.V_alloc | apply Kd.V_drewN | apply Kd.V_drew)); exact HL276_0.out) (Kd.S_base ho0) hb)
  have _ := Q_ (Kd.V_elder' (by (with_reducible repeat (first | apply Kd.V_alloc | apply Kd.V_drewN | apply Kd.V_drew)); exact HL278_0.out) (Kd.S_base ho0) hb)
  have _ := Q_ (Kd.N_lower (Kd.N_mono (ok' := fun k_ => (w.heap.size ≤ k_) ∧ some k_ ≠ (.slice (some ad276) x5_2.length co31 : Value).ownBlock ∧ k_ ≠ gb263 ∧ k_ ≠ gb264) (Kd.S_N (Kd.S_bound ho0)) (fun k_ hk_ => ⟨(Nat.le_trans (below_size (pb2_ HB.out GE263.out GE264.out)) hk_.2.1), (Kd.fresh' (Kd.N_lt (by (with_reducible repeat (first | apply Kd.N_alloc | apply Kd.N_drewN | apply Kd.N_drew)); exact HO_5.out)) k_ hk_.2.1), (Kd.freshB (g := gb263) (o := .cells #[.int .i64 a0_0, .slice A0_1 l0_1.length c0_1, .slice A0_2 l0_2.length c0_2] 34 (0, 0)) (pk_ BK263.out) k_ hk_.2.1), (Kd.freshB (g := gb264) (o := .cells #[.int .i64 a1_0, .slice A1_1 l1_1.length c1_1, .slice A1_2 l1_2.length c1_2] 34 (0, 0)) (pk_ BK264.out) k_ hk_.2.1)⟩)) (below_size (pb2_ HB.out GE263.out GE264.out)))
  have _ := Q_ (bb_ BK263.out hb)
  have _ := Q_ (bb_ BK264.out hb)
  have _ := Q_ (Kd.C_below (by repeat (first | (with_reducible exact HR276_0.out) | (with_reducible refine Kd.C_alloc ?_ _) | (with_reducible refine Kd.C_drewN ?_ _) | (with_reducible refine Kd.C_drew ?_) | exact HR276_0.out)) hb)
  have _ := Q_ (Kd.C_below (by repeat (first | (with_reducible exact HR278_0.out) | (with_reducible refine Kd.C_alloc ?_ _) | (with_reducible refine Kd.C_drewN ?_ _) | (with_reducible refine Kd.C_drew ?_) | exact HR278_0.out)) hb)
  have _ := Q_ (below_step (pb2_ HB.out GE263.out GE264.out) hb)
  clear HO_5 HL276_0 HL278_0 BK263 BK264 HR276_0 HR278_0 HB
  rename_i HO_5 HL276_0 HL278_0 HO282 BK263 BK264 HR276_0 HR278_0 HB
  (try clear hb)
  (try clear hb2)
  (try clear hk)
  (try clear hi)
  (try clear ho0)
  refine hK.out _ _ ⟨(blk_cell BK263.out 0).trans rfl, (blk_cell BK263.out 1).trans rfl, (blk_cell BK263.out 2).trans rfl, (blk_cell BK264.out 0).trans rfl, (blk_cell BK264.out 1).trans rfl, (blk_cell BK264.out 2).trans rfl, HS6_, HS7_, HS8_, HS9_⟩ (fun hHeld => ?_)
  clear hK K
  refine no_ (some 43) ?_
  refine pu_ 15 (some 7) (tf_ 16 16) HT_ ?_
  refine done_ (done_of HT_.out (by kernel_rfl)) ?_
  try go_wp2
  go_loopg [5, 8] k2 (fun kq v5 v8 w' => ∃ (x5_3 : List (List Int)) (x8_3 : Int), v8 = .int .i64 x8_3 ∧ Aside0 (spec_PairsOf.l1 kq x5_3 x6_2 t280 x8_3 a0_0 l0_1 l0_2 a1_0 l1_1 l1_2 = some r) ∧ Aside0 (kq ≤ k2) ∧ Aside0 (Kd.N (Kd.slice 3 (Kd.int .i64)) 39 w' w.heap.size (fun k_ => (w.heap.size ≤ k_) ∧ some k_ ≠ (v281 : Value).ownBlock ∧ k_ ≠ gb263 ∧ k_ ≠ gb264) v5 x5_3) ∧ Aside0 (Kd.N (Kd.slice 3 (Kd.int .i64)) 39 w' w.heap.size (fun k_ => (w.heap.size ≤ k_) ∧ some k_ ≠ (v5 : Value).ownBlock ∧ k_ ≠ gb263 ∧ k_ ≠ gb264) v281 t280) ∧ Aside0 (w'.heap[gb263]? = some (.cells #[.int .i64 a0_0, (.slice A0_1 l0_1.length c0_1), (.slice A0_2 l0_2.length c0_2)] 34 (0, 0))) ∧ Aside0 (w'.heap[gb264]? = some (.cells #[.int .i64 a1_0, (.slice A1_1 l1_1.length c1_1), (.slice A1_2 l1_2.length c1_2)] 34 (0, 0))) ∧ Aside0 (Below w.heap.size w w'))
  case atStart => exact ⟨(x5_2), (0), el_, H', ⟨Nat.le_refl _⟩, ⟨by (with_reducible repeat (first | apply Kd.N_alloc | apply Kd.N_drewN | apply Kd.N_drew)); exact Kd.N_mono HO_5.out (fun _ hk => ⟨hk.1.1, ⟨hk.2, ⟨hk.1.2.1, hk.1.2.2⟩⟩⟩)⟩, ⟨by (with_reducible repeat (first | apply Kd.N_alloc | apply Kd.N_drewN | apply Kd.N_drew)); exact HO282.out⟩, ⟨pk_ BK263.out⟩, ⟨pk_ BK264.out⟩, ⟨pb2_ HB.out GE263.out GE264.out⟩⟩
  clear H'
  try clear c1
  try clear c2
  try clear p2
  try clear q2
  try clear hx2
  try clear qi2
  try clear c5
  try clear c7
  try clear c8
  try clear c9
  try clear c10
  try clear c14
  try clear c19
  try clear c20
  try clear c25
  try clear c25b0
  try clear c27
  try clear c27b0
  try clear p27
  try clear q27
  try clear hx27
  try clear qi27
  try clear c28
  try clear c28b0
  try clear c28b1
  try clear c29
  try clear c29b0
  try clear c29b1
  try clear hx276_0
  try clear hx277_0
  try clear hx278_0
  try clear hx279_0
  try clear p2
  try clear p276
  try clear p277
  try clear p278
  try clear p279
  try clear q276
  try clear q277
  try clear q278
  try clear q279
  obtain ⟨x5_3, x8_3, rfl, HA, HK3, HO_5, HO_7, BK263, BK264, HB⟩ := hrel
  rcases gk with _ | k3
  · exact absurd HA.out (by simp [spec_PairsOf.l1])
  have H := HA.out
  clear HA
  simp only [spec_PairsOf.l1] at H
  by_cases c34 : x8_3 < (t280.length : Int)
  rotate_left
  · rw [if_neg c34] at H
    have c34b0 : decide (x8_3 < (t280.length : Int)) = false := decide_eq_false c34
    clear c34
    have H' := Q_ H
    clear H
    obtain ⟨Ao35, co35, eo35⟩ := Kd.N_slice HO_7.out
    subst eo35
    go_wp2
    go_roundg k3
    case measure => have := HJ2.out; have := HK2.out; have := HK3.out; omega
    case rel => exact ⟨(x5_3), (wrap64 (x6_2 + 1)), el_, H', ⟨by have := HJ2.out; have := HK2.out; have := HK3.out; omega⟩, ⟨by (with_reducible repeat (first | apply Kd.N_alloc | apply Kd.N_drewN | apply Kd.N_drew)); exact Kd.N_mono HO_5.out (fun _ hk => ⟨hk.1, ⟨hk.2.2.1, hk.2.2.2⟩⟩)⟩, ⟨pk_ BK263.out⟩, ⟨pk_ BK264.out⟩, ⟨pb2_ HB.out GE263.out GE264.out⟩⟩
  rw [if_pos c34] at H
  have c34b0 : decide (x8_3 < (t280.length : Int)) = true := decide_eq_true c34
  clear c34
  by_cases c36 : 0 ≤ x8_3
  rotate_left
  · rw [if_neg c36] at H
    exact absurd H (by simp)
  rw [if_pos c36] at H
  have c36b0 : decide (0 ≤ x8_3) = true := decide_eq_true c36
  clear c36
  replace H := Option.bind_eq_some_iff.mp H
  obtain ⟨t284, A370, H⟩ := H
  (try dsimp only at H)
  have A37 := Q_ A370
  clear A370
  have HS_ := Q_ H
  clear H
  obtain ⟨Ao38, co38, eo38⟩ := Kd.N_slice HO_7.out
  subst eo38
  have p283 : 0 ≤ (x8_3 : Int) := dt_
  have q283 : x8_3 < (t280.length : Int) := dt_
  obtain ⟨ad283, A283_0, c283_0, e283, hx283_0, hl283_0, hi283_0⟩ := at_L9 (Kd.N_reads' HO_7.out).2.2 x8_3 p283 q283
  cases e283
  obtain ⟨ce283, hce283, hMe283, hcc283⟩ := Kd.N_get HO_7.out [] x8_3 p283 (by first | exact q283 | exact dt_ | (have e_ := (Kd.N_reads' HO_7.out).1; omega))
  obtain ⟨ua283_0, uc283_0, rfl, ul283_0, ge283_0⟩ := Kd.FK_slice_open hMe283
  have hv283_0 := hcc283 0 _ rfl
  rw [Nat.add_zero, show ((Kd.slice 3 (Kd.int .i64))).sz = 1 from rfl, Nat.mul_one] at hv283_0
  replace hv283_0 := Option.some.inj (hv283_0.symm.trans hx283_0)
  injection hv283_0 with hva_ hvn_ hvc_
  rw [hva_] at ge283_0
  rw [hvc_] at ul283_0
  have HL283_0 := Q_ (show Kd.V (Kd.int .i64) 3 _ w.heap.size _ _ (rd_L9 t280 x8_3) from Kd.V_mk ul283_0 ge283_0)
  clear hva_ hvn_ hvc_ ge283_0 ul283_0
  clear hcc283 hce283
  have HR283_0 := Q_ hi283_0
  have HC283_0 := Q_ hl283_0
  clear hi283_0 hl283_0
  replace p283 := eq_true p283
  replace q283 := eq_true q283
  obtain ⟨Ao39, co39, eo39⟩ := Kd.N_slice HO_5.out
  subst eo39
  go_upto_if 56 with (first | ((with_reducible refine gate_callee (f := 75) rfl ?_); refine gl_ (some 55) Try.func75 #[.slice Ao39 x5_3.length co39, .slice A283_0 (rd_L9 t280 x8_3).length c283_0] ?_; (with_reducible refine (spec_l14Has.calls k3 _ _ x5_3 _ _ (rd_L9 t280 x8_3) t284 _ ?side1 ?side2 ?side3 ?side4 A37.out).mono ?_); (case side1 => exact pc_ ((Kd.N_reads' HO_5.out).2.2)); (case side2 => exact (Kd.N_reads' HO_5.out).2.1); (case side3 => repeat (first | exact (by repeat (first | (with_reducible exact HR283_0.out) | (with_reducible refine Kd.C_alloc ?_ _) | (with_reducible refine Kd.C_drewN ?_ _) | (with_reducible refine Kd.C_drew ?_) | exact HR283_0.out)) | (with_reducible refine Kd.C_alloc ?_ _) | (with_reducible refine Kd.C_drewN ?_ _) | (with_reducible refine Kd.C_drew ?_))); (case side4 => exact HC283_0.out); rintro e w' ⟨rfl, ⟨nd, rfl⟩⟩; refine ⟨_, rfl, ?_⟩))
  (try simp only [Act.put, List.setIfInBounds_toArray, List.set_cons_zero, List.set_cons_succ])
  have H := HS_.out
  clear HS_
  by_cases c40 : t284 = true
  · subst c40
    rw [if_pos rfl] at H
    have H' := Q_ H
    clear H
    go_wp2
    go_roundg k3
    case measure => have := HJ2.out; have := HK2.out; have := HK3.out; omega
    case rel => exact ⟨(x5_3), (wrap64 (x8_3 + 1)), el_, H', ⟨by have := HJ2.out; have := HK2.out; have := HK3.out; omega⟩, ⟨by (with_reducible repeat (first | apply Kd.N_alloc | apply Kd.N_drewN | apply Kd.N_drew)); exact HO_5.out⟩, ⟨by (with_reducible repeat (first | apply Kd.N_alloc | apply Kd.N_drewN | apply Kd.N_drew)); exact HO_7.out⟩, ⟨pk_ BK263.out⟩, ⟨pk_ BK264.out⟩, ⟨pb2_ HB.out GE263.out GE264.out⟩⟩
  replace c40 := Bool.eq_false_iff.mpr c40
  subst c40
  rw [if_neg (show ¬ (false = true) by decide)] at H
  by_cases c41 : x5_3.length < 5864062014805
  rotate_left
  · rw [if_neg c41] at H
    exact absurd H (by simp)
  rw [if_pos c41] at H
  have LMc41 := Q_ c41
  clear c41
  obtain ⟨y286, hy286⟩ : ∃ y_ : List (List Int), y_ = (x5_3 ++ [rd_L9 t280 x8_3]) := ⟨_, rfl⟩
  replace H : (spec_PairsOf.l1 k3 y286 x6_2 t280 (wrap64 (x8_3 + 1)) a0_0 l0_1 l0_2 a1_0 l1_1 l1_2) = some r := by first | (rw [hy286]; with_reducible exact H) | (have H2_ := (Option.bind_some _ _).symm.trans H; rw [hy286]; with_reducible exact H2_) | (have H2_ := (Option.bind_some _ _).symm.trans H; with_reducible exact H2_) | with_reducible exact H | (rw [hy286]; exact H) | exact H
  have Ny286 := Q_ hy286
  clear hy286
  have H' := Q_ H
  clear H
  have p285 : 0 ≤ (x8_3 : Int) := dt_
  have q285 : x8_3 < (t280.length : Int) := dt_
  obtain ⟨ad285, A285_0, c285_0, e285, hx285_0, hl285_0, hi285_0⟩ := at_L9 (Kd.N_reads' HO_7.out).2.2 x8_3 p285 q285
  obtain rfl : ad283 = ad285 := (by injection e285)
  (try clear hx283_0)
  obtain ⟨ce285, hce285, hMe285, hcc285⟩ := Kd.N_get HO_7.out [] x8_3 p285 (by first | exact q285 | exact dt_ | (have e_ := (Kd.N_reads' HO_7.out).1; omega))
  obtain ⟨ua285_0, uc285_0, rfl, ul285_0, ge285_0⟩ := Kd.FK_slice_open hMe285
  have hv285_0 := hcc285 0 _ rfl
  rw [Nat.add_zero, show ((Kd.slice 3 (Kd.int .i64))).sz = 1 from rfl, Nat.mul_one] at hv285_0
  replace hv285_0 := Option.some.inj (hv285_0.symm.trans hx285_0)
  injection hv285_0 with hva_ hvn_ hvc_
  rw [hva_] at ge285_0
  rw [hvc_] at ul285_0
  have HL285_0 := Q_ (show Kd.V (Kd.int .i64) 3 _ w.heap.size _ _ (rd_L9 t280 x8_3) from Kd.V_mk ul285_0 ge285_0)
  clear hva_ hvn_ hvc_ ge285_0 ul285_0
  clear hcc285 hce285
  have HR285_0 := Q_ hi285_0
  have HC285_0 := Q_ hl285_0
  clear hi285_0 hl285_0
  replace p285 := eq_true p285
  replace q285 := eq_true q285
  go_wp2_with (first | ((with_reducible refine gate_builtin (b := .append) (xs := #[.tmp 57, .tmp 62]) rfl ?_); at_builtin; have HM_ := Q_ (Kd.V_drewN HL285_0.out nd); refine Kd.N_append (Kd.slice 3 (Kd.int .i64)) (w0 := w) w.heap.size rfl (.tmp 57) (.tmp 62) 83 39 (.slice none 0 0) 24 rfl Try.underlying83 info39 rfl (by decide) (by omega) (.slice Ao39 x5_3.length co39) x5_3 (rd_L9 t280 x8_3) [.slice A285_0 (rd_L9 t280 x8_3).length c285_0] (fun k_ => (w.heap.size ≤ k_) ∧ some k_ ≠ (.slice (some ad283) t280.length co38 : Value).ownBlock ∧ k_ ≠ gb263 ∧ k_ ≠ gb264) (fun k_ => ((fun k_ => (w.heap.size ≤ k_) ∧ some k_ ≠ (.slice (some ad283) t280.length co38 : Value).ownBlock ∧ k_ ≠ gb263 ∧ k_ ≠ gb264)) k_ ∧ some k_ ≠ (.slice Ao39 x5_3.length co39 : Value).ownBlock) rfl rfl ?aP (fun _ hk => hk) ?aF ?aO ?aB ?aS ?aL ?_; (case aP => exact (Kd.FK_slice_mk (Kd.V_reads' (Kd.V_mono (ok' := (fun k_ => ((fun k_ => (w.heap.size ≤ k_) ∧ some k_ ≠ (.slice (some ad283) t280.length co38 : Value).ownBlock ∧ k_ ≠ gb263 ∧ k_ ≠ gb264)) k_ ∧ some k_ ≠ (.slice Ao39 x5_3.length co39 : Value).ownBlock)) (HM_.out) (fun k_ hk => ⟨⟨hk.1.1, ⟨hk.2, ⟨hk.1.2.2.1, hk.1.2.2.2⟩⟩⟩, hk.1.2.1⟩))).2.1 (Kd.V_F (Kd.V_mono (ok' := (fun k_ => ((fun k_ => (w.heap.size ≤ k_) ∧ some k_ ≠ (.slice (some ad283) t280.length co38 : Value).ownBlock ∧ k_ ≠ gb263 ∧ k_ ≠ gb264)) k_ ∧ some k_ ≠ (.slice Ao39 x5_3.length co39 : Value).ownBlock)) (HM_.out) (fun k_ hk => ⟨⟨hk.1.1, ⟨hk.2, ⟨hk.1.2.2.1, hk.1.2.2.2⟩⟩⟩, hk.1.2.1⟩))))); (case aB => exact (pb2_ HB.out GE263.out GE264.out)); (case aF => exact (fun k_ hk => ⟨(Nat.le_trans (below_size (pb2_ HB.out GE263.out GE264.out)) hk), Kd.fresh' (Kd.N_lt (by (with_reducible repeat (first | apply Kd.N_alloc | apply Kd.N_drewN | apply Kd.N_drew)); exact HO_7.out)) k_ hk, Kd.freshB (g := gb263) (o := .cells #[.int .i64 a0_0, .slice A0_1 l0_1.length c0_1, .slice A0_2 l0_2.length c0_2] 34 (0, 0)) (pk_ BK263.out) k_ hk, Kd.freshB (g := gb264) (o := .cells #[.int .i64 a1_0, .slice A1_1 l1_1.length c1_1, .slice A1_2 l1_2.length c1_2] 34 (0, 0)) (pk_ BK264.out) k_ hk⟩)); (case aO => exact (by (with_reducible repeat (first | apply Kd.N_alloc | apply Kd.N_drewN | apply Kd.N_drew)); exact HO_5.out)); (case aS => exact (below_size (pb2_ HB.out GE263.out GE264.out))); (case aL => have := LMc41.out; omega); intro v287 w42 ho hb hg hat; rw [← Ny286.out] at ho; have n0_ := Q_ (Kd.N_afterv (ok := (fun k_ => (w.heap.size ≤ k_) ∧ k_ ≠ gb263 ∧ k_ ≠ gb264)) (by (with_reducible repeat (first | apply Kd.N_alloc | apply Kd.N_drewN | apply Kd.N_drew)); exact Kd.N_mono HO_7.out (fun _ hk => ⟨⟨hk.1, ⟨hk.2.2.1, hk.2.2.2⟩⟩, hk.2.1⟩)) hg hat); have n1_ := Q_ (blk_grown (g := gb263) (o := .cells #[.int .i64 a0_0, .slice A0_1 l0_1.length c0_1, .slice A0_2 l0_2.length c0_2] 34 (0, 0)) (pk_ BK263.out) hg (Kd.N_ne HO_5.out BK263.out (by decide))); have n2_ := Q_ (blk_grown (g := gb264) (o := .cells #[.int .i64 a1_0, .slice A1_1 l1_1.length c1_1, .slice A1_2 l1_2.length c1_2] 34 (0, 0)) (pk_ BK264.out) hg (Kd.N_ne HO_5.out BK264.out (by decide))); have n3_ := Q_ (Kd.V_afterv (ok := (fun k_ => (w.heap.size ≤ k_) ∧ some k_ ≠ (.slice (some ad283) t280.length co38 : Value).ownBlock ∧ k_ ≠ gb263 ∧ k_ ≠ gb264)) (by (with_reducible repeat (first | apply Kd.V_alloc | apply Kd.V_drewN | apply Kd.V_drew)); exact Kd.V_mono HL283_0.out (fun _ hk => ⟨⟨hk.1.1, ⟨hk.2, ⟨hk.1.2.2.1, hk.1.2.2.2⟩⟩⟩, hk.1.2.1⟩)) hg hat); have n4_ := Q_ (Kd.V_afterv (ok := (fun k_ => (w.heap.size ≤ k_) ∧ some k_ ≠ (.slice (some ad283) t280.length co38 : Value).ownBlock ∧ k_ ≠ gb263 ∧ k_ ≠ gb264)) (by (with_reducible repeat (first | apply Kd.V_alloc | apply Kd.V_drewN | apply Kd.V_drew)); exact Kd.V_mono HL285_0.out (fun _ hk => ⟨⟨hk.1.1, ⟨hk.2, ⟨hk.1.2.2.1, hk.1.2.2.2⟩⟩⟩, hk.1.2.1⟩)) hg hat); have n5_ := Q_ (hb); have n6_ := Q_ (ho); clear HO_7; clear BK263; clear BK264; clear HL283_0; clear HL285_0; clear HB; clear HO_5; have HO_7 := n0_; have BK263 := n1_; have BK264 := n2_; have HL283_0 := n3_; have HL285_0 := n4_; have HB := n5_; have HO288 := n6_; clear n0_ n1_ n2_ n3_ n4_ n5_ n6_; clear ho hb hg hat))
  go_roundg k3
  case measure => have := HJ2.out; have := HK2.out; have := HK3.out; omega
  case rel => exact ⟨(y286), (wrap64 (x8_3 + 1)), el_, H', ⟨by have := HJ2.out; have := HK2.out; have := HK3.out; omega⟩, ⟨by (with_reducible repeat (first | apply Kd.N_alloc | apply Kd.N_drewN | apply Kd.N_drew)); exact HO288.out⟩, ⟨by (with_reducible repeat (first | apply Kd.N_alloc | apply Kd.N_drewN | apply Kd.N_drew)); exact Kd.N_mono HO_7.out (fun _ hk => ⟨hk.1.1, ⟨hk.2, ⟨hk.1.2.1, hk.1.2.2⟩⟩⟩)⟩, ⟨pk_ BK263.out⟩, ⟨pk_ BK264.out⟩, ⟨pb2_ HB.out GE263.out GE264.out⟩⟩

/-! ### spec_l14End: function 77 -/
def spec_l14End.f (a0_0 : Int) (l0_1 : List Bool) (l0_2 : List (S78)) (a1 : Int) : Option (Bool) := (spec_l1In.f a1 0 (wrap64 ((l0_1.length : Int) - 1))).bind fun t290 => (if t290 = true then (if 0 ≤ a1 then (if a1 < (l0_1.length : Int) then (some (rdOf false l0_1 a1)) else (none)) else (none)) else (some false))
set_option maxHeartbeats 8000000 in
set_option maxRecDepth 100000 in
theorem spec_l14End.calls (a0_0 : Int) (A0_1 : Option Addr) (c0_1 : Nat) (l0_1 : List Bool) (A0_2 : Option Addr) (c0_2 : Nat) (l0_2 : List (S78)) (a1 : Int) (r : Bool) (w : World) (hr0_1 : Kd.C Kd.bool w A0_1 l0_1.length l0_1) (hc0_1 : l0_1.length ≤ c0_1) (hr0_2 : Kd.C k78 w A0_2 l0_2.length l0_2) (hc0_2 : l0_2.length ≤ c0_2) (h : spec_l14End.f a0_0 l0_1 l0_2 a1 = some r) :
    Calls Try.prog 77 #[.agg #[.int .i64 a0_0, .slice A0_1 l0_1.length c0_1, .slice A0_2 l0_2.length c0_2], .int .i64 a1] w fun e w' => e = .returned (.bool r) ∧ Below w.heap.size w w' := by
  have hu34 := Try.underlying34
  have HR0_1 := Q_ hr0_1
  have HC0_1 := Q_ hc0_1
  clear hr0_1 hc0_1
  have HR0_2 := Q_ hr0_2
  have HC0_2 := Q_ hc0_2
  clear hr0_2 hc0_2
  have HB := Q_ (Below.refl w.heap.size w)
  have H : ((spec_l1In.f a1 0 (wrap64 ((l0_1.length : Int) - 1))).bind fun t290 => (if t290 = true then (if 0 ≤ a1 then (if a1 < (l0_1.length : Int) then (some (rdOf false l0_1 a1)) else (none)) else (none)) else (some false))) = some r := h
  clear h
  have HS_ := Q_ H
  clear H
  go_enter Try.func77, Try.ntmps77
  go_upto_region 1 with (first | ((with_reducible refine gate_dst (N := 2) rfl ?_); refine box_event ?hg (N := 2) ?hd (cs := #[.int .i64 a0_0, .slice A0_1 l0_1.length c0_1, .slice A0_2 l0_2.length c0_2]) (t := 34) ?hr ?_; (case hd => rfl); (case hg => rfl); (case hr => first | (go_simp; done) | (go_simp; rfl)); intro gb289 hg w3 hbox hb; have n0_ := Q_ (below_step (pb_ HB.out) hb); have n1_ := Q_ (hbox); have n2_ := Q_ ((by rw [hg]; exact (below_size (pb_ HB.out)) : w.heap.size ≤ gb289)); have n3_ := n2_; clear HB; have HB := n0_; have BK289 := n1_; have GW289 := n2_; have GE289 := n3_; clear n0_ n1_ n2_ n3_; clear hb hbox hg))
  (try simp only [Act.put, List.setIfInBounds_toArray, List.set_cons_zero, List.set_cons_succ])
  have H := HS_.out
  clear HS_
  replace H := Option.bind_eq_some_iff.mp H
  obtain ⟨t290, A40, H⟩ := H
  (try dsimp only at H)
  have A4 := Q_ A40
  clear A40
  by_cases c5 : t290 = true
  rotate_left
  · replace c5 := Bool.eq_false_iff.mpr c5
    subst c5
    rw [if_neg (show ¬ (false = true) by decide)] at H
    obtain rfl := Option.some.inj H
    have hcz6 := bc3_ BK289.out
    go_wp2_with (first | ((with_reducible refine gate_callee (f := 45) rfl ?_); refine gl_ (some 10) Try.func45 #[.int .i64 a1, .int .i64 0, .int .i64 (wrap64 ((l0_1.length : Int) - 1))] ?_; (with_reducible refine (spec_l1In.calls a1 0 (wrap64 ((l0_1.length : Int) - 1)) false _ A4.out).mono ?_); rintro e w' ⟨rfl, ⟨nd, rfl⟩⟩; refine ⟨_, rfl, ?_⟩))
    go_ret
    exact ⟨er_, pb1_ HB.out GE289.out⟩
  subst c5
  rw [if_pos rfl] at H
  by_cases c7 : 0 ≤ a1
  rotate_left
  · rw [if_neg c7] at H
    exact absurd H (by simp)
  rw [if_pos c7] at H
  have c7b0 : decide (0 ≤ a1) = true := decide_eq_true c7
  clear c7
  (first | rw [c7b0] | (simp only [i64_w, i32_w]; rw [c7b0]) | skip)
  by_cases c8 : a1 < (l0_1.length : Int)
  rotate_left
  · rw [if_neg c8] at H
    exact absurd H (by simp)
  rw [if_pos c8] at H
  have c8b0 : decide (a1 < (l0_1.length : Int)) = true := decide_eq_true c8
  clear c8
  obtain rfl := Option.some.inj H
  have hcz9 := bc3_ BK289.out
  go_wp2_with (first | ((with_reducible refine gate_callee (f := 45) rfl ?_); refine gl_ (some 10) Try.func45 #[.int .i64 a1, .int .i64 0, .int .i64 (wrap64 ((l0_1.length : Int) - 1))] ?_; (with_reducible refine (spec_l1In.calls a1 0 (wrap64 ((l0_1.length : Int) - 1)) true _ A4.out).mono ?_); rintro e w' ⟨rfl, ⟨nd, rfl⟩⟩; refine ⟨_, rfl, ?_⟩; have p291 : 0 ≤ (a1 : Int) := dt_; have q291 : a1 < (l0_1.length : Int) := dt_; obtain ⟨ad291, e291, hx291_0⟩ := Kd.at_bool HR0_1.out a1 p291 q291; cases e291; replace hx291_0 := bt_ HB hx291_0; replace p291 := eq_true p291; replace q291 := eq_true q291))
  go_ret
  exact ⟨er_, pb1_ HB.out GE289.out⟩

/-! ### spec_l14Unread: function 86 -/
def spec_l14Unread.l0 : Nat → Int → List Int → Int → Int → List Bool → List (S78) → Option (Bool)
  | 0, _, _, _, _, _, _ => none
  | k + 1, x3, x9, x10, x294000, x294001, x294002 => if x10 < (x9.length : Int) then (if 0 ≤ x10 then ((spec_MoveOf.f k x294000 x294001 x294002 x3 false (rd x9 x10)).bind fun t298 => (if t298 < 0 then (some true) else (spec_l14Unread.l0 k x3 x9 (wrap64 (x10 + 1)) x294000 x294001 x294002))) else (none)) else (some false)
def spec_l14Unread.f (k : Nat) (a0_0 : Int) (l0_1 : List Bool) (l0_2 : List (S78)) (a1_0 : Int) (l1_1 : List Bool) (l1_2 : List (S78)) (a2 : Int) (a3 : Int) : Option (Bool) := (spec_MovesFrom.f k a0_0 l0_1 l0_2 a2 true).bind fun t294 => (spec_l14Unread.l0 k a3 t294 0 a1_0 l1_1 l1_2)
theorem spec_l14Unread.mono_l : ∀ k, (∀ y0 y1 y2 y3 y4 y5, LeO (spec_l14Unread.l0 k y0 y1 y2 y3 y4 y5) (spec_l14Unread.l0 (k + 1) y0 y1 y2 y3 y4 y5))
  | 0 => fun _ _ _ _ _ _ r h => by simp [spec_l14Unread.l0] at h
  | k + 1 => by
    have ih0 := spec_l14Unread.mono_l k
    · intro y0 y1 y2 y3 y4 y5
      unfold spec_l14Unread.l0
      exact mo3_ ih0 spec_MoveOf.mono spec_MovesFrom.mono
theorem spec_l14Unread.mono : ∀ a0 a1 a2 a3 a4 a5 a6 a7 k, LeO (spec_l14Unread.f k a0 a1 a2 a3 a4 a5 a6 a7) (spec_l14Unread.f (k + 1) a0 a1 a2 a3 a4 a5 a6 a7) := by
  intro a0 a1 a2 a3 a4 a5 a6 a7 k
  have ih0 := spec_l14Unread.mono_l k
  unfold spec_l14Unread.f
  exact mo3_ ih0 spec_MoveOf.mono spec_MovesFrom.mono
def spec_l14Unread.T5 : Bool × List (List Nat × List Nat) := (true, [([], []), ([], []), ([], []), ([], []), ([2, 3], [2, 3]), ([4], [4]), ([0, 1, 5], [0, 1, 5]), ([6], [6])])
def spec_l14Unread.B5 : List Nat := [0, 0, 0, 0, 12, 28, 63, 127]
theorem spec_l14Unread.tab5 : rtab .any (opsOf Try.f86 5) = spec_l14Unread.T5 := by kernel_rfl
theorem spec_l14Unread.bits5 : waitsOk spec_l14Unread.T5.2 spec_l14Unread.B5 = true := by kernel_rfl
set_option maxHeartbeats 8000000 in
set_option maxRecDepth 100000 in
theorem spec_l14Unread.calls (k : Nat) (a0_0 : Int) (A0_1 : Option Addr) (c0_1 : Nat) (l0_1 : List Bool) (A0_2 : Option Addr) (c0_2 : Nat) (l0_2 : List (S78)) (a1_0 : Int) (A1_1 : Option Addr) (c1_1 : Nat) (l1_1 : List Bool) (A1_2 : Option Addr) (c1_2 : Nat) (l1_2 : List (S78)) (a2 : Int) (a3 : Int) (r : Bool) (w : World) (hr0_1 : Kd.C Kd.bool w A0_1 l0_1.length l0_1) (hc0_1 : l0_1.length ≤ c0_1) (hr0_2 : Kd.C k78 w A0_2 l0_2.length l0_2) (hc0_2 : l0_2.length ≤ c0_2) (hr1_1 : Kd.C Kd.bool w A1_1 l1_1.length l1_1) (hc1_1 : l1_1.length ≤ c1_1) (hr1_2 : Kd.C k78 w A1_2 l1_2.length l1_2) (hc1_2 : l1_2.length ≤ c1_2) (h : spec_l14Unread.f k a0_0 l0_1 l0_2 a1_0 l1_1 l1_2 a2 a3 = some r) :
    Calls Try.prog 86 #[.agg #[.int .i64 a0_0, .slice A0_1 l0_1.length c0_1, .slice A0_2 l0_2.length c0_2], .agg #[.int .i64 a1_0, .slice A1_1 l1_1.length c1_1, .slice A1_2 l1_2.length c1_2], .int .i64 a2, .int .i64 a3] w fun e w' => e = .returned (.bool r) ∧ Below w.heap.size w w' := by
  have hu34 := Try.underlying34
  have HR0_1 := Q_ hr0_1
  have HC0_1 := Q_ hc0_1
  clear hr0_1 hc0_1
  have HR0_2 := Q_ hr0_2
  have HC0_2 := Q_ hc0_2
  clear hr0_2 hc0_2
  have HR1_1 := Q_ hr1_1
  have HC1_1 := Q_ hc1_1
  clear hr1_1 hc1_1
  have HR1_2 := Q_ hr1_2
  have HC1_2 := Q_ hc1_2
  clear hr1_2 hc1_2
  have HB := Q_ (Below.refl w.heap.size w)
  have H : ((spec_MovesFrom.f k a0_0 l0_1 l0_2 a2 true).bind fun t294 => (spec_l14Unread.l0 k a3 t294 0 a1_0 l1_1 l1_2)) = some r := h
  clear h
  replace H := Option.bind_eq_some_iff.mp H
  obtain ⟨t294, A50, H⟩ := H
  replace H : (spec_l14Unread.l0 k a3 t294 0 a1_0 l1_1 l1_2) = some r := H
  have A5 := Q_ A50
  clear A50
  have H' := Q_ H
  clear H
  go_enter Try.func86, Try.ntmps86
  go_wp2_with (first | ((with_reducible refine gate_dst (N := 4) rfl ?_); refine box_event ?hg (N := 4) ?hd (cs := #[.int .i64 a0_0, .slice A0_1 l0_1.length c0_1, .slice A0_2 l0_2.length c0_2]) (t := 34) ?hr ?_; (case hd => rfl); (case hg => rfl); (case hr => first | (go_simp; done) | (go_simp; rfl)); intro gb292 hg w6 hbox hb; have n0_ := Q_ (below_step (pb_ HB.out) hb); have n1_ := Q_ (hbox); have n2_ := Q_ ((by rw [hg]; exact (below_size (pb_ HB.out)) : w.heap.size ≤ gb292)); have n3_ := n2_; clear HB; have HB := n0_; have BK292 := n1_; have GW292 := n2_; have GE292 := n3_; clear n0_ n1_ n2_ n3_; clear hb hbox hg) | ((with_reducible refine gate_dst (N := 5) rfl ?_); refine box_event ?hg (N := 5) ?hd (cs := #[.int .i64 a1_0, .slice A1_1 l1_1.length c1_1, .slice A1_2 l1_2.length c1_2]) (t := 34) ?hr ?_; (case hd => rfl); (case hg => rfl); (case hr => first | (go_simp; done) | (go_simp; rfl)); intro gb293 hg w7 hbox hb; have n0_ := Q_ (bb_ BK292.out hb); have n1_ := Q_ (below_step (pb1_ HB.out GE292.out) hb); have n2_ := Q_ (hbox); have n3_ := Q_ ((by rw [hg]; exact (below_size (pb1_ HB.out GE292.out)) : w.heap.size ≤ gb293)); have n4_ := n3_; have n5_ := Q_ ((by rw [hg]; exact Nat.ne_of_lt (blk_lt (pk_ BK292.out)) : gb292 ≠ gb293)); have n6_ := Q_ ((by rw [hg]; exact Nat.ne_of_gt (blk_lt (pk_ BK292.out)) : gb293 ≠ gb292)); clear BK292; clear HB; have BK292 := n0_; have HB := n1_; have BK293 := n2_; have GW293 := n3_; have GE293 := n4_; have NB292_293 := n5_; have NB293_292 := n6_; clear n0_ n1_ n2_ n3_ n4_ n5_ n6_; clear hb hbox hg; have hnb8 := NB292_293.out; have hnc8 := NB293_292.out; have hcz9 := bc3_ BK292.out) | ((with_reducible refine gate_callee (f := 70) rfl ?_); refine gl_ (some 13) Try.func70 #[.agg #[.int .i64 a0_0, .slice A0_1 l0_1.length c0_1, .slice A0_2 l0_2.length c0_2], .int .i64 a2, .bool true] ?_; (with_reducible refine (spec_MovesFrom.calls k a0_0 _ _ l0_1 _ _ l0_2 a2 true t294 _ ?side1 ?side2 ?side3 ?side4 A5.out).mono ?_); (case side1 => exact cb_ HR0_1 HB); (case side2 => exact HC0_1.out); (case side3 => exact cb_ HR0_2 HB); (case side4 => exact HC0_2.out); rintro e w10 ⟨v295, rfl, ho0, hb⟩; refine ⟨_, rfl, ?_⟩; have _ := Q_ (Kd.R_lower ho0 (below_size (pb2_ HB.out GE292.out GE293.out))); have _ := Q_ (bb_ BK292.out hb); have _ := Q_ (bb_ BK293.out hb); have _ := Q_ (below_step (pb2_ HB.out GE292.out GE293.out) hb); clear BK292 BK293 HB; rename_i HO296 BK292 BK293 HB; (try clear hb); (try clear hb2); (try clear hk); (try clear hi); (try clear ho0)))
  (try simp only [Act.put, List.setIfInBounds_toArray, List.set_cons_zero, List.set_cons_succ])
  go_loopg [10] k (fun kq v10 w' => ∃ (x10_1 : Int), v10 = .int .i64 x10_1 ∧ Aside0 (spec_l14Unread.l0 kq a3 t294 x10_1 a1_0 l1_1 l1_2 = some r) ∧ Aside0 (kq ≤ k) ∧ Aside0 (Kd.R (Kd.int .i64) 3 w' w.heap.size (fun _ => True) v295 t294) ∧ Aside0 (w'.heap[gb292]? = some (.cells #[.int .i64 a0_0, (.slice A0_1 l0_1.length c0_1), (.slice A0_2 l0_2.length c0_2)] 34 (0, 0))) ∧ Aside0 (w'.heap[gb293]? = some (.cells #[.int .i64 a1_0, (.slice A1_1 l1_1.length c1_1), (.slice A1_2 l1_2.length c1_2)] 34 (0, 0))) ∧ Aside0 (Below w.heap.size w w'))
  case atStart => exact ⟨(0), el_, H', ⟨Nat.le_refl _⟩, ⟨pr_ HO296.out⟩, ⟨pk_ BK292.out⟩, ⟨pk_ BK293.out⟩, ⟨pb2_ HB.out GE292.out GE293.out⟩⟩
  clear H'
  try clear c1
  try clear p2
  try clear c7
  try clear c8
  try clear hcz9
  obtain ⟨x10_1, rfl, HA, HK1, HO_9, BK292, BK293, HB⟩ := hrel
  rcases gk with _ | k1
  · exact absurd HA.out (by simp [spec_l14Unread.l0])
  have H := HA.out
  clear HA
  simp only [spec_l14Unread.l0] at H
  by_cases c11 : x10_1 < (t294.length : Int)
  rotate_left
  · rw [if_neg c11] at H
    have c11b0 : decide (x10_1 < (t294.length : Int)) = false := decide_eq_false c11
    clear c11
    obtain rfl := Option.some.inj H
    obtain ⟨Ao12, co12, eo12⟩ := Kd.R_slice HO_9.out
    subst eo12
    go_wp2
    go_ret
    exact ⟨er_, pb2_ HB.out GE292.out GE293.out⟩
  rw [if_pos c11] at H
  have c11b0 : decide (x10_1 < (t294.length : Int)) = true := decide_eq_true c11
  clear c11
  by_cases c13 : 0 ≤ x10_1
  rotate_left
  · rw [if_neg c13] at H
    exact absurd H (by simp)
  rw [if_pos c13] at H
  have c13b0 : decide (0 ≤ x10_1) = true := decide_eq_true c13
  clear c13
  replace H := Option.bind_eq_some_iff.mp H
  obtain ⟨t298, A140, H⟩ := H
  (try dsimp only at H)
  have A14 := Q_ A140
  clear A140
  have HS_ := Q_ H
  clear H
  obtain ⟨Ao15, co15, eo15⟩ := Kd.R_slice HO_9.out
  subst eo15
  try go_wp2
  have _ := Q_ (Kd.R_drew HO_9.out)
  have _ := Q_ (blk_drew BK292.out)
  have _ := Q_ (blk_drew BK293.out)
  have _ := Q_ (below_drew1 HB.out)
  clear HO_9 BK292 BK293 HB
  rename_i HO_9 BK292 BK293 HB
  have p297 : 0 ≤ (x10_1 : Int) := dt_
  have q297 : x10_1 < (t294.length : Int) := dt_
  obtain ⟨ad297, e297, hx297_0⟩ := Kd.at_int (Kd.R_reads' HO_9.out).2.2 x10_1 p297 q297
  cases e297
  replace p297 := eq_true p297
  replace q297 := eq_true q297
  refine start_ (n := 8) (S := fun w' => w'.cell? ⟨gb293, 0, none⟩ = some (.int .i64 a1_0) ∧ w'.cell? ⟨gb293, 1, none⟩ = some (.slice A1_1 l1_1.length c1_1) ∧ w'.cell? ⟨gb293, 2, none⟩ = some (.slice A1_2 l1_2.length c1_2) ∧ w'.cell? (ad297.add (x10_1).toNat) = some (.int .i64 (rd t294 x10_1))) (ds := []) (tf_ 0 8) (by kernel_rfl) rfl rfl ⟨(blk_cell BK293.out 0).trans rfl, (blk_cell BK293.out 1).trans rfl, (blk_cell BK293.out 2).trans rfl, hx297_0⟩ (fun hHeld => ?_); refine with_tabW spec_l14Unread.tab5 spec_l14Unread.bits5 (fun HT_ HW_ => ?_)
  generalize wr.drew = w16 at HO_9 BK292 BK293 HB hx297_0 hHeld ⊢
  refine pu_ 1 (some 21) (tm_ 8 2) HT_ ?_
  refine pu_ 2 (some 22) (tm_ 8 6) HT_ ?_
  refine pu_ 3 (some 23) (tm_ 8 14) HT_ ?_
  refine pu_ 4 (some 24) (tm_ 8 30) HT_ ?_
  refine ta_ 0 (some 20) (tf_ 5 8) HT_ HW_ hHeld ?_
  refine ta_ 5 (some 25) (tf_ 6 8) HT_ HW_ hHeld ?_
  refine on_ 6 (some 26) (tf_ 7 8) HT_ (fun K hK => ?_)
  refine goes_ Try.func68 (by kernel_rfl) rfl #[.agg #[.int .i64 a1_0, .slice A1_1 l1_1.length c1_1, .slice A1_2 l1_2.length c1_2], .int .i64 a3, .bool false, .int .i64 (rd t294 x10_1)] (by rfl) rfl rfl mp_ ?_
  with_reducible refine (spec_MoveOf.calls k1 a1_0 _ _ l1_1 _ _ l1_2 a3 false (rd t294 x10_1) t298 _ ?side1 ?side2 ?side3 ?side4 A14.out).mono ?_
  (case side1 => exact cb_ HR1_1 HB)
  (case side2 => exact HC1_1.out)
  (case side3 => exact cb_ HR1_2 HB)
  (case side4 => exact HC1_2.out)
  rintro e w17 ⟨rfl, hb⟩
  have HS3_ := (hb.cell (World.block_lt_of_cell? _ _ (hHeld.2.2.2))).trans (hHeld.2.2.2)
  refine ⟨_, rfl, ?_⟩
  have _ := Q_ (Kd.R_below (pr_ HO_9.out) hb)
  have _ := Q_ (bb_ BK292.out hb)
  have _ := Q_ (bb_ BK293.out hb)
  have _ := Q_ (below_step (pb2_ HB.out GE292.out GE293.out) hb)
  clear HO_9 BK292 BK293 HB
  rename_i HO_9 BK292 BK293 HB
  (try clear hb)
  (try clear hb2)
  (try clear hk)
  (try clear hi)
  refine hK.out _ _ ⟨(blk_cell BK293.out 0).trans rfl, (blk_cell BK293.out 1).trans rfl, (blk_cell BK293.out 2).trans rfl, HS3_⟩ (fun hHeld => ?_)
  clear hK K
  refine no_ (some 26) ?_
  refine pu_ 7 (some 27) (tf_ 8 8) HT_ ?_
  refine done_ (done_of HT_.out (by kernel_rfl)) ?_
  go_upto_if 27 with (fail)
  have H := HS_.out
  clear HS_
  by_cases c18 : t298 < 0
  rotate_left
  · rw [if_neg c18] at H
    have c18b0 : decide (t298 < 0) = false := decide_eq_false c18
    clear c18
    (first | rw [c18b0] | (simp only [i64_w, i32_w]; rw [c18b0]) | skip)
    have H' := Q_ H
    clear H
    go_wp2
    go_roundg k1
    case measure => have := HK1.out; omega
    case rel => exact ⟨(wrap64 (x10_1 + 1)), el_, H', ⟨by have := HK1.out; omega⟩, ⟨pr_ HO_9.out⟩, ⟨pk_ BK292.out⟩, ⟨pk_ BK293.out⟩, ⟨pb2_ HB.out GE292.out GE293.out⟩⟩
  rw [if_pos c18] at H
  have c18b0 : decide (t298 < 0) = true := decide_eq_true c18
  clear c18
  (first | rw [c18b0] | (simp only [i64_w, i32_w]; rw [c18b0]) | skip)
  obtain rfl := Option.some.inj H
  go_wp2
  go_ret
  exact ⟨er_, pb2_ HB.out GE292.out GE293.out⟩

end Go.Proofs.Ytldcchjbaglppaa.Print
