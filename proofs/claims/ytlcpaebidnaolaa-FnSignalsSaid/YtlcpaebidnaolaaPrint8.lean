-- Written by a program of this session (printx.py) out of the translation; Lean checks it.
import Derived.Test.YtlcpaebidnaolaaPrint0
import Derived.Test.YtlcpaebidnaolaaPrint2
import Derived.Test.YtlcpaebidnaolaaPrint3
import Derived.Test.YtlcpaebidnaolaaPrint6
namespace Go.Proofs.Ytlcpaebidnaolaa.Print
open Go.RowKit Go.Proofs.YtlcpaebidnaolaaW.PrintWords Go.Proofs.YtlcpaebidnaolaaW.PrintLast Go.Proofs.YtlcpaebidnaolaaW.PrintMore Go.Proofs.Ytlcpaebidnaolaa.Short
attribute [local go_sem] max2_int min2_int max_two min_two max_three min_three max_four min_four   -- for this text's walks alone
set_option linter.unusedVariables false
set_option maxHeartbeats 8000000
set_option maxRecDepth 100000
set_option linter.unusedSimpArgs false

/-! ### spec_PartHello: function 56 -/
mutual
def spec_PartHello.l0 : Nat → List Int → List Int → Int → List Int → List (S113) → List Int → Option (List Int × (List (S113)) × Bool)
 | 0, _, _, _, _, _, _ => none
 | k + 1, x1, x2, x9, x297000, x297001, x300000 => if x9 < (x297000.length : Int) then (if 0 ≤ x9 then ((spec_l9Has.f k x1 (rd x297000 x9)).bind fun t301 => (if t301 = true then (spec_PartHello.l0 k x1 x2 (wrap64 (x9 + 1)) x297000 x297001 x300000) else (if x300000.length < 17592186044416 then (spec_PartHello.l0 k x1 x2 (wrap64 (x9 + 1)) x297000 x297001 (x300000 ++ [rd x297000 x9])) else (none)))) else (none)) else (spec_PartHello.l1 k x2 0 x297000 x297001 x300000 ([] : List (S113)))
def spec_PartHello.l1 : Nat → List Int → Int → List Int → List (S113) → List Int → List (S113) → Option (List Int × (List (S113)) × Bool)
 | 0, _, _, _, _, _, _ => none
 | k + 1, x2, x10, x297000, x297001, x300000, x300001 => if x10 < (x297001.length : Int) then (if 0 ≤ x10 then ((spec_l9Has.f k x2 ((rd_T113 x297001 x10).f0)).bind fun t307 => (if t307 = true then (spec_PartHello.l1 k x2 (wrap64 (x10 + 1)) x297000 x297001 x300000 x300001) else ((some (([] : List Int) : List Int)).bind fun y309 => (if y309.length + ((rd_T113 x297001 x10).f1).length < 17592186044416 then (if x300001.length < 4398046511104 then (spec_PartHello.l1 k x2 (wrap64 (x10 + 1)) x297000 x297001 x300000 (x300001 ++ [(⟨(rd_T113 x297001 x10).f0, (y309 ++ ((rd_T113 x297001 x10).f1))⟩ : S113)])) else (none)) else (none))))) else (none)) else (if (x300000.length : Int) = 0 then (some (([] : List Int), ([] : List (S113)), false)) else (some (x300000, x300001, true)))
end
def spec_PartHello.f (k : Nat) (l0_0 : List Int) (l0_1 : List (S113)) (l1 : List Int) (l2 : List Int) : Option (List Int × (List (S113)) × Bool) := (spec_IsHello.f k l0_0 l0_1).bind fun t298 => (if t298 = true then (spec_PartHello.l0 k l1 l2 0 l0_0 l0_1 ([] : List Int)) else (some (([] : List Int), ([] : List (S113)), false)))
theorem spec_PartHello.mono_l : ∀ k, (∀ y0 y1 y2 y3 y4 y5, LeO (spec_PartHello.l0 k y0 y1 y2 y3 y4 y5) (spec_PartHello.l0 (k + 1) y0 y1 y2 y3 y4 y5)) ∧ (∀ y0 y1 y2 y3 y4 y5, LeO (spec_PartHello.l1 k y0 y1 y2 y3 y4 y5) (spec_PartHello.l1 (k + 1) y0 y1 y2 y3 y4 y5))
 | 0 => ⟨fun _ _ _ _ _ _ r h => by simp [spec_PartHello.l0] at h, fun _ _ _ _ _ _ r h => by simp [spec_PartHello.l1] at h⟩
 | k + 1 => by
  obtain ⟨ih0, ih1⟩ := spec_PartHello.mono_l k
  refine ⟨?_, ?_⟩
  ·intro y0 y1 y2 y3 y4 y5
   unfold spec_PartHello.l0
   exact mo4_ ih0 ih1 spec_IsHello.mono spec_l9Has.mono
  ·intro y0 y1 y2 y3 y4 y5
   unfold spec_PartHello.l1
   exact mo4_ ih0 ih1 spec_IsHello.mono spec_l9Has.mono
theorem spec_PartHello.mono : ∀ a0 a1 a2 a3 k, LeO (spec_PartHello.f k a0 a1 a2 a3) (spec_PartHello.f (k + 1) a0 a1 a2 a3) := by
 intro a0 a1 a2 a3 k
 obtain ⟨ih0, ih1⟩ := spec_PartHello.mono_l k
 unfold spec_PartHello.f
 exact mo4_ ih0 ih1 spec_IsHello.mono spec_l9Has.mono
def spec_PartHello.T8 : Bool × List (List Nat × List Nat) := (true, [([], []), ([0], [0]), ([], []), ([2], [2]), ([], []), ([3, 4], [3, 4]), ([5], [5]), ([6], [6]), ([1, 7], [1, 7]), ([0, 1, 2, 3, 4, 5, 6, 7, 8], []), ([9, 8, 8, 0, 1, 2, 3, 4, 5, 6, 7, 8], [8, 9])])
def spec_PartHello.B8 : List Nat := [0, 1, 0, 4, 0, 28, 60, 124, 255, 511, 1023]
theorem spec_PartHello.tab8 : rtab .any (opsOf Try.f56 8) = spec_PartHello.T8 := by kernel_rfl
theorem spec_PartHello.bits8 : waitsOk spec_PartHello.T8.2 spec_PartHello.B8 = true := by kernel_rfl
def spec_PartHello.T13 : Bool × List (List Nat × List Nat) := (true, [([], []), ([0], [0]), ([], []), ([2], [2]), ([], []), ([3, 4], [3, 4]), ([5], [5]), ([6], [6]), ([], []), ([], []), ([9], [9]), ([], []), ([10, 11], [10, 11]), ([12], [12]), ([13], [13]), ([8, 14], [8, 14]), ([7, 15], [7, 15]), ([16], [16]), ([1, 17, 15], [1, 17]), ([0, 1, 2, 3, 4, 5, 6, 7, 8, 9, 10, 11, 12, 13, 14, 15, 16, 17, 18], []), ([19, 18, 18, 0, 1, 2, 3, 4, 5, 6, 7, 8, 9, 10, 11, 12, 13, 14, 15, 16, 17, 18], [18, 19])])
def spec_PartHello.B13 : List Nat := [0, 1, 0, 4, 0, 28, 60, 124, 0, 0, 512, 0, 3584, 7680, 15872, 32512, 65532, 131068, 262143, 524287, 1048575]
theorem spec_PartHello.tab13 : rtab .any (opsOf Try.f56 13) = spec_PartHello.T13 := by kernel_rfl
theorem spec_PartHello.bits13 : waitsOk spec_PartHello.T13.2 spec_PartHello.B13 = true := by kernel_rfl
theorem spec_PartHello.calls (k : Nat) (A0_0 : Option Addr) (c0_0 : Nat) (l0_0 : List Int) (A0_1 : Option Addr) (c0_1 : Nat) (l0_1 : List (S113)) (A1 : Option Addr) (c1 : Nat) (l1 : List Int) (A2 : Option Addr) (c2 : Nat) (l2 : List Int) (r1 : List Int) (r2 : List (S113)) (r3 : Bool) (w : World) (hr0_0 : Kd.C (Kd.int .i64) w A0_0 l0_0.length l0_0) (hc0_0 : l0_0.length ≤ c0_0) (hr0_1 : Kd.C k113 w A0_1 l0_1.length l0_1) (hc0_1 : l0_1.length ≤ c0_1) (hr1 : Kd.C (Kd.int .i64) w A1 l1.length l1) (hc1 : l1.length ≤ c1) (hr2 : Kd.C (Kd.int .i64) w A2 l2.length l2) (hc2 : l2.length ≤ c2) (h : spec_PartHello.f k l0_0 l0_1 l1 l2 = some (r1, r2, r3)) :
  Calls Try.prog 56 #[.agg #[.slice A0_0 l0_0.length c0_0, .slice A0_1 l0_1.length c0_1], .slice A1 l1.length c1, .slice A2 l2.length c2] w fun e w' => ∃ v0_ v1_ : Value, e = .returned (.tuple #[.agg #[v0_, v1_], .bool r3]) ∧ Kd.R (Kd.int .i64) 3 w' w.heap.size (fun _ => True) v0_ r1 ∧ Kd.S k113 113 w' w.heap.size (fun k_ => some k_ ≠ (v0_ : Value).ownBlock) v1_ r2 ∧ Below w.heap.size w w' := by
 have hu71 := Try.underlying71
 have hu113 := Try.underlying113
 have HR0_0 := Q_ hr0_0
 have HC0_0 := Q_ hc0_0
 clear hr0_0 hc0_0
 have HR0_1 := Q_ hr0_1
 have HC0_1 := Q_ hc0_1
 clear hr0_1 hc0_1
 have HR1 := Q_ hr1
 have HC1 := Q_ hc1
 clear hr1 hc1
 have HR2 := Q_ hr2
 have HC2 := Q_ hc2
 clear hr2 hc2
 have HB := Q_ (Below.refl w.heap.size w)
 have H : ((spec_IsHello.f k l0_0 l0_1).bind fun t298 => (if t298 = true then (spec_PartHello.l0 k l1 l2 0 l0_0 l0_1 ([] : List Int)) else (some (([] : List Int), ([] : List (S113)), false)))) = some (r1, r2, r3) := h
 clear h
 have HS_ := Q_ H
 clear H
 go_enter Try.func56, Try.ntmps56
 go_upto_region 1 with (first | ((with_reducible refine gate_dst (N := 3) rfl ?_); refine box_event ?hg (N := 3) ?hd (cs := #[.slice A0_0 l0_0.length c0_0, .slice A0_1 l0_1.length c0_1]) (t := 71) ?hr ?_; (case hd => rfl); (case hg => rfl); (case hr => first | (go_simp; done) | (go_simp; rfl)); intro gb296 hg w4 hbox hb; have _ := Q_ (below_step (pb_ HB.out) hb); have BK296 := Q_ (hbox); have GW296 := Q_ ((by rw [hg]; exact (below_size (pb_ HB.out)) : w.heap.size ≤ gb296)); have GE296 := GW296; clear HB; rename_i HB; clear hb hbox hg) | ((with_reducible refine gate_dst (N := 6) rfl ?_); refine box_event ?hg (N := 6) ?hd (cs := #[.slice none 0 0, .slice none 0 0]) (t := 71) ?hr ?_; (case hd => rfl); (case hg => rfl); (case hr => first | (go_simp; done) | (go_simp; rfl)); intro gb297 hg w5 hbox hb; have _ := Q_ (bb_ BK296.out hb); have _ := Q_ (below_step (pb1_ HB.out GE296.out) hb); have BK297 := Q_ (hbox); have GW297 := Q_ ((by rw [hg]; exact (below_size (pb1_ HB.out GE296.out)) : w.heap.size ≤ gb297)); have GE297 := GW297; have NB296_297 := Q_ ((by rw [hg]; exact Nat.ne_of_lt (blk_lt (pk_ BK296.out)) : gb296 ≠ gb297)); have NB297_296 := Q_ NB296_297.out.symm; clear BK296 HB; rename_i BK296 HB; clear hb hbox hg))
 (try simp only [Act.put, List.setIfInBounds_toArray, List.set_cons_zero, List.set_cons_succ])
 have H := HS_.out
 clear HS_
 replace H := Option.bind_eq_some_iff.mp H
 obtain ⟨t298, A60, H⟩ := H
 (try dsimp only at H)
 have A6 := Q_ A60
 clear A60
 have HS_ := Q_ H
 clear H
 have hnb7 := NB296_297.out
 have hnc7 := NB297_296.out
 have hcz8 := bc2_ BK296.out
 go_upto_if 13 with (first | ((with_reducible refine gate_callee (f := 59) rfl ?_); refine gl_ (some 12) Try.func59 #[.agg #[.slice A0_0 l0_0.length c0_0, .slice A0_1 l0_1.length c0_1]] ?_; (with_reducible refine (spec_IsHello.calls k _ _ l0_0 _ _ l0_1 t298 _ ?side1 ?side2 ?side3 ?side4 A6.out).mono ?_); (case side1 => exact cb_ HR0_0 HB); (case side2 => exact HC0_0.out); (case side3 => exact cb_ HR0_1 HB); (case side4 => exact HC0_1.out); rintro e w9 ⟨rfl, hb⟩; refine ⟨_, rfl, ?_⟩; have _ := Q_ (bb_ BK296.out hb); have _ := Q_ (bb_ BK297.out hb); have _ := Q_ (below_step (pb2_ HB.out GE296.out GE297.out) hb); clear BK296 BK297 HB; rename_i BK296 BK297 HB; (try clear hb); (try clear hb2); (try clear hk); (try clear hi)))
 (try simp only [Act.put, List.setIfInBounds_toArray, List.set_cons_zero, List.set_cons_succ])
 have H := HS_.out
 clear HS_
 by_cases c10 : t298 = true
 rotate_left
 ·replace c10 := bf_ c10
  subst c10
  rw [if_neg ff_] at H
  simp only [Option.some.injEq, Prod.mk.injEq] at H
  obtain ⟨rfl, rfl, rfl⟩ := H
  have hnb11 := NB297_296.out
  have hnc11 := NB296_297.out
  have hcz12 := bc2_ BK297.out
  go_wp2
  refine bodyPost_ret (results_ct rfl _ _ gb297 71 #[.slice none 0 0, .slice none 0 0] (0, 0) _ rfl (pp_ BK297.out) Try.underlying71 rfl (by kernel_rfl)) rfl ?_
  exact ⟨_, _, er_, by first | exact Kd.R_nil _ _ _ _ _ | exact Kd.N_nil _ _ _ _ _ | exact Kd.V_nil _ _ _ _ _ | exact Kd.Q_nil _ _ _ _ _ | exact Kd.S_nil _ _ _ _ _, by first | exact Kd.S_nil _ _ _ _ _ | exact Kd.N_nil _ _ _ _ _ | exact Kd.V_nil _ _ _ _ _ | exact Kd.Q_nil _ _ _ _ _ | exact Kd.R_nil _ _ _ _ _, pb2_ HB.out GE296.out GE297.out⟩
 subst c10
 rw [if_pos rfl] at H
 have H' := Q_ H
 clear H
 go_wp2_with (first | ((with_reducible refine gate_dst (N := 8) rfl ?_); refine box_event ?hg (N := 8) ?hd (cs := #[.slice none 0 0, .slice none 0 0]) (t := 71) ?hr ?_; (case hd => rfl); (case hg => rfl); (case hr => first | (go_simp; done) | (go_simp; rfl)); intro gb299 hg w13 hbox hb; have _ := Q_ (bb_ BK296.out hb); have _ := Q_ (bb_ BK297.out hb); have _ := Q_ (below_step (pb2_ HB.out GE296.out GE297.out) hb); have BK299 := Q_ (hbox); have GW299 := Q_ ((by rw [hg]; exact (below_size (pb2_ HB.out GE296.out GE297.out)) : w.heap.size ≤ gb299)); have GE299 := GW299; have NB296_299 := Q_ ((by rw [hg]; exact Nat.ne_of_lt (blk_lt (pk_ BK296.out)) : gb296 ≠ gb299)); have NB299_296 := Q_ NB296_299.out.symm; have NB297_299 := Q_ ((by rw [hg]; exact Nat.ne_of_lt (blk_lt (pk_ BK297.out)) : gb297 ≠ gb299)); have NB299_297 := Q_ NB297_299.out.symm; clear BK296 BK297 HB; rename_i BK296 BK297 HB; clear hb hbox hg; have hnb14 := NB299_296.out; have hnc14 := NB296_299.out; have hnb15 := NB299_297.out; have hnc15 := NB297_299.out; have hcz16 := bc2_ BK299.out))
 (try simp only [Act.put, List.setIfInBounds_toArray, List.set_cons_zero, List.set_cons_succ])
 go_loopg [9] k (fun kq v9 w' => ∃ (x9_1 : Int) (x300000_1 : List Int) (u300000 : Value), v9 = .int .i64 x9_1 ∧ Aside0 (spec_PartHello.l0 kq l1 l2 x9_1 l0_0 l0_1 x300000_1 = some (r1, r2, r3)) ∧ Aside0 (kq ≤ k) ∧ Aside0 (Kd.R (Kd.int .i64) 3 w' w.heap.size (fun _ => True) u300000 x300000_1) ∧ Aside0 (w'.heap[gb296]? = some (.cells #[(.slice A0_0 l0_0.length c0_0), (.slice A0_1 l0_1.length c0_1)] 71 (0, 0))) ∧ Aside0 (w'.heap[gb297]? = some (.cells #[(.slice none 0 0), (.slice none 0 0)] 71 (0, 0))) ∧ Aside0 (w'.heap[gb299]? = some (.cells #[u300000, (.slice none 0 0)] 71 (0, 0))) ∧ Aside0 (Below w.heap.size w w'))
 case atStart => exact ⟨(0), (([] : List Int)), (.slice none 0 0), el_, H', ⟨Nat.le_refl _⟩, ⟨by first | exact Kd.R_nil _ _ _ _ _ | exact Kd.N_nil _ _ _ _ _ | exact Kd.V_nil _ _ _ _ _ | exact Kd.Q_nil _ _ _ _ _ | exact Kd.S_nil _ _ _ _ _⟩, ⟨pp_ BK296.out⟩, ⟨pp_ BK297.out⟩, ⟨pp_ BK299.out⟩, ⟨pb3_ HB.out GE296.out GE297.out GE299.out⟩⟩
 clear H'
 try clear c1
 try clear c2
 try clear p2
 try clear c5
 try clear c7
 try clear c10
 try clear c11
 try clear c14
 try clear c15
 try clear hcz12
 try clear hcz16
 try clear hcz8
 obtain ⟨x9_1, x300000_1, u300000, rfl, HA, HK1, HO_300000, BK296, BK297, BK299, HB⟩ := hrel
 rcases gk with _ | k1
 ·exact absurd HA.out (by simp [spec_PartHello.l0])
 have H := HA.out
 clear HA
 simp only [spec_PartHello.l0] at H
 by_cases c17 : x9_1 < (l0_0.length : Int)
 rotate_left
 ·rw [if_neg c17] at H
  have c17b0 : decide (x9_1 < (l0_0.length : Int)) = false := decide_eq_false c17
  clear c17
  (first | rw [c17b0] | (simp only [i64_w, i32_w]; rw [c17b0]) | skip)
  have H' := Q_ H
  clear H
  have hnb18 := NB296_297.out
  have hnc18 := NB297_296.out
  have hnb19 := NB296_299.out
  have hnc19 := NB299_296.out
  have hcz20 := bc2_ BK296.out
  go_wp2
  go_loopg [10] k1 (fun kq v10 w' => ∃ (x10_2 : Int) (x300001_2 : List (S113)) (u300001 : Value), v10 = .int .i64 x10_2 ∧ Aside0 (spec_PartHello.l1 kq l2 x10_2 l0_0 l0_1 x300000_1 x300001_2 = some (r1, r2, r3)) ∧ Aside0 (kq ≤ k1) ∧ Aside0 (Kd.R (Kd.int .i64) 3 w' w.heap.size (fun _ => True) u300000 x300000_1) ∧ Aside0 (Kd.S k113 113 w' w.heap.size (fun k_ => some k_ ≠ (u300000 : Value).ownBlock) u300001 x300001_2) ∧ Aside0 (w'.heap[gb296]? = some (.cells #[(.slice A0_0 l0_0.length c0_0), (.slice A0_1 l0_1.length c0_1)] 71 (0, 0))) ∧ Aside0 (w'.heap[gb297]? = some (.cells #[(.slice none 0 0), (.slice none 0 0)] 71 (0, 0))) ∧ Aside0 (w'.heap[gb299]? = some (.cells #[u300000, u300001] 71 (0, 0))) ∧ Aside0 (Below w.heap.size w w'))
  case atStart => exact ⟨(0), (([] : List (S113))), (.slice none 0 0), el_, H', ⟨Nat.le_refl _⟩, ⟨pr_ HO_300000.out⟩, ⟨by first | exact Kd.S_nil _ _ _ _ _ | exact Kd.N_nil _ _ _ _ _ | exact Kd.V_nil _ _ _ _ _ | exact Kd.Q_nil _ _ _ _ _ | exact Kd.R_nil _ _ _ _ _⟩, ⟨pk_ BK296.out⟩, ⟨pk_ BK297.out⟩, ⟨pk_ BK299.out⟩, ⟨pb3_ HB.out GE296.out GE297.out GE299.out⟩⟩
  clear H'
  try clear c1
  try clear c2
  try clear p2
  try clear c5
  try clear c7
  try clear c10
  try clear c11
  try clear c14
  try clear c15
  try clear c17
  try clear c17b0
  try clear c18
  try clear c19
  try clear hcz20
  try clear p2
  obtain ⟨x10_2, x300001_2, u300001, rfl, HA, HK2, HO_300000, HO_300001, BK296, BK297, BK299, HB⟩ := hrel
  rcases gk with _ | k2
  ·exact absurd HA.out (by simp [spec_PartHello.l1])
  have H := HA.out
  clear HA
  simp only [spec_PartHello.l1] at H
  by_cases c21 : x10_2 < (l0_1.length : Int)
  rotate_left
  ·rw [if_neg c21] at H
   have c21b0 : decide (x10_2 < (l0_1.length : Int)) = false := decide_eq_false c21
   clear c21
   by_cases c22 : (x300000_1.length : Int) = 0
   ·rw [if_pos c22] at H
    have c22b0 : ((x300000_1.length : Int) == 0) = true := beq_iff_eq.mpr c22
    have c22b1 : ((x300000_1.length : Int) != 0) = false := bne_eq_false_iff_eq.mpr c22
    clear c22
    simp only [Option.some.injEq, Prod.mk.injEq] at H
    obtain ⟨rfl, rfl, rfl⟩ := H
    have hnb23 := NB296_297.out
    have hnc23 := NB297_296.out
    have hnb24 := NB296_299.out
    have hnc24 := NB299_296.out
    have hcz25 := bc2_ BK296.out
    have hnb26 := NB299_297.out
    have hnc26 := NB297_299.out
    have hcz27 := bc2_ BK299.out
    obtain ⟨Ao28, co28, eo28⟩ := Kd.R_slice HO_300000.out
    subst eo28
    have hcz29 := bc2_ BK297.out
    go_wp2
    refine bodyPost_ret (results_ct rfl _ _ gb297 71 #[.slice none 0 0, .slice none 0 0] (0, 0) _ rfl (pp_ BK297.out) Try.underlying71 rfl (by kernel_rfl)) rfl ?_
    exact ⟨_, _, er_, by first | exact Kd.R_nil _ _ _ _ _ | exact Kd.N_nil _ _ _ _ _ | exact Kd.V_nil _ _ _ _ _ | exact Kd.Q_nil _ _ _ _ _ | exact Kd.S_nil _ _ _ _ _, by first | exact Kd.S_nil _ _ _ _ _ | exact Kd.N_nil _ _ _ _ _ | exact Kd.V_nil _ _ _ _ _ | exact Kd.Q_nil _ _ _ _ _ | exact Kd.R_nil _ _ _ _ _, pb3_ HB.out GE296.out GE297.out GE299.out⟩
   rw [if_neg c22] at H
   have c22b0 : ((x300000_1.length : Int) == 0) = false := beq_eq_false_iff_ne.mpr c22
   have c22b1 : ((x300000_1.length : Int) != 0) = true := bne_iff_ne.mpr c22
   have c22b2 : ¬ (x300000_1 = []) := fun h_ => c22 (by rw [h_]; rfl)
   simp only [Option.some.injEq, Prod.mk.injEq] at H
   obtain ⟨rfl, rfl, rfl⟩ := H
   have hnb30 := NB296_297.out
   have hnc30 := NB297_296.out
   have hnb31 := NB296_299.out
   have hnc31 := NB299_296.out
   have hcz32 := bc2_ BK296.out
   have hnb33 := NB299_297.out
   have hnc33 := NB297_299.out
   have hcz34 := bc2_ BK299.out
   obtain ⟨Ao35, co35, eo35⟩ := Kd.R_slice HO_300000.out
   subst eo35
   have hcz36 := bc2_ BK297.out
   obtain ⟨Ao37, co37, eo37⟩ := Kd.S_slice HO_300001.out
   subst eo37
   go_wp2
   refine bodyPost_ret (results_ct rfl _ _ gb297 71 #[.slice Ao35 x300000_1.length co35, .slice Ao37 x300001_2.length co37] (0, 0) _ rfl (pp_ BK297.out) Try.underlying71 rfl (by kernel_rfl)) rfl ?_
   exact ⟨_, _, er_, pr_ (Kd.R_mono (rf2_ HO_300000.out BK297.out) (fun _ hk => trivial)), ps_ (sf2_ HO_300001.out BK297.out), pb3_ HB.out GE296.out GE297.out GE299.out⟩
  rw [if_pos c21] at H
  have c21b0 : decide (x10_2 < (l0_1.length : Int)) = true := decide_eq_true c21
  clear c21
  by_cases c38 : 0 ≤ x10_2
  rotate_left
  ·rw [if_neg c38] at H
   exact absurd H (by simp)
  rw [if_pos c38] at H
  have c38b0 : decide (0 ≤ x10_2) = true := decide_eq_true c38
  clear c38
  replace H := Option.bind_eq_some_iff.mp H
  obtain ⟨t307, A390, H⟩ := H
  (try dsimp only at H)
  have A39 := Q_ A390
  clear A390
  have HS_ := Q_ H
  clear H
  have hnb40 := NB296_297.out
  have hnc40 := NB297_296.out
  have hnb41 := NB296_299.out
  have hnc41 := NB299_296.out
  have hcz42 := bc2_ BK296.out
  have p306 : 0 ≤ (x10_2 : Int) := dt_
  have q306 : x10_2 < (l0_1.length : Int) := dt_
  obtain ⟨ad306, A306_1, c306_1, e306, hx306_0, hx306_1, hl306_1, hi306_1⟩ := at_T113 HR0_1.out x10_2 p306 q306
  cases e306
  replace hx306_0 := bt_ HB hx306_0
  replace hx306_1 := bt_ HB hx306_1
  have HR306_1 := Q_ hi306_1
  have HC306_1 := Q_ hl306_1
  clear hi306_1 hl306_1
  replace p306 := eq_true p306
  replace q306 := eq_true q306
  go_upto_if 56 with (first | ((with_reducible refine gate_callee (f := 74) rfl ?_); refine gl_ (some 55) Try.func74 #[.slice A2 l2.length c2, .int .i64 ((rd_T113 l0_1 x10_2).f0)] ?_; (with_reducible refine (spec_l9Has.calls k2 _ _ l2 ((rd_T113 l0_1 x10_2).f0) t307 _ ?side1 ?side2 A39.out).mono ?_); (case side1 => exact cb_ HR2 HB); (case side2 => exact HC2.out); rintro e w' ⟨rfl, ⟨nd, rfl⟩⟩; refine ⟨_, rfl, ?_⟩))
  (try simp only [Act.put, List.setIfInBounds_toArray, List.set_cons_zero, List.set_cons_succ])
  have H := HS_.out
  clear HS_
  by_cases c43 : t307 = true
  ·subst c43
   rw [if_pos rfl] at H
   have H' := Q_ H
   clear H
   go_wp2
   go_roundg k2
   case measure => have := HK1.out; have := HK2.out; omega
   case rel => exact ⟨(wrap64 (x10_2 + 1)), (x300001_2), (u300001), el_, H', ⟨by have := HK1.out; have := HK2.out; omega⟩, ⟨pr_ HO_300000.out⟩, ⟨ps_ HO_300001.out⟩, ⟨pk_ BK296.out⟩, ⟨pk_ BK297.out⟩, ⟨pk_ BK299.out⟩, ⟨pb3_ HB.out GE296.out GE297.out GE299.out⟩⟩
  replace c43 := bf_ c43
  subst c43
  rw [if_neg ff_] at H
  obtain ⟨y309, hy309⟩ : ∃ y_ : List Int, y_ = (([] : List Int)) := ⟨_, rfl⟩
  replace H : (if y309.length + ((rd_T113 l0_1 x10_2).f1).length < 17592186044416 then (if x300001_2.length < 4398046511104 then (spec_PartHello.l1 k2 l2 (wrap64 (x10_2 + 1)) l0_0 l0_1 x300000_1 (x300001_2 ++ [(⟨(rd_T113 l0_1 x10_2).f0, (y309 ++ ((rd_T113 l0_1 x10_2).f1))⟩ : S113)])) else (none)) else (none)) = some (r1, r2, r3) := hb_ hy309 H
  have Ny309 := Q_ hy309
  clear hy309
  by_cases c44 : y309.length + ((rd_T113 l0_1 x10_2).f1).length < 17592186044416
  rotate_left
  ·rw [if_neg c44] at H
   exact absurd H (by simp)
  rw [if_pos c44] at H
  have LMc44 := Q_ c44
  clear c44
  obtain ⟨y313, hy313⟩ : ∃ y_ : List Int, y_ = (y309 ++ ((rd_T113 l0_1 x10_2).f1)) := ⟨_, rfl⟩
  replace H : (if x300001_2.length < 4398046511104 then (spec_PartHello.l1 k2 l2 (wrap64 (x10_2 + 1)) l0_0 l0_1 x300000_1 (x300001_2 ++ [(⟨(rd_T113 l0_1 x10_2).f0, y313⟩ : S113)])) else (none)) = some (r1, r2, r3) := hb_ hy313 H
  have Ny313 := Q_ hy313
  clear hy313
  by_cases c45 : x300001_2.length < 4398046511104
  rotate_left
  ·rw [if_neg c45] at H
   exact absurd H (by simp)
  rw [if_pos c45] at H
  have LMc45 := Q_ c45
  clear c45
  obtain ⟨y316, hy316⟩ : ∃ y_ : List (S113), y_ = (x300001_2 ++ [(⟨(rd_T113 l0_1 x10_2).f0, y313⟩ : S113)]) := ⟨_, rfl⟩
  replace H : (spec_PartHello.l1 k2 l2 (wrap64 (x10_2 + 1)) l0_0 l0_1 x300000_1 y316) = some (r1, r2, r3) := hb_ hy316 H
  have Ny316 := Q_ hy316
  clear hy316
  have H' := Q_ H
  clear H
  try go_wp2
  (try (rw [drewN_self wr]; generalize hq_ : World.drewN wr _ = wr; have n0_ : Aside0 (Kd.R (Kd.int .i64) 3 wr w.heap.size (fun _ => True) u300000 x300000_1) := ⟨by rw [← hq_]; exact (pr_ HO_300000.out)⟩; have n1_ : Aside0 (Kd.S k113 113 wr w.heap.size (fun k_ => some k_ ≠ (u300000 : Value).ownBlock) u300001 x300001_2) := ⟨by rw [← hq_]; exact (ps_ HO_300001.out)⟩; have n2_ : Aside0 (wr.heap[gb296]? = some (.cells #[.slice A0_0 l0_0.length c0_0, .slice (some ad306) l0_1.length c0_1] 71 (0, 0))) := ⟨by rw [← hq_]; exact (pk_ BK296.out)⟩; have n3_ : Aside0 (wr.heap[gb297]? = some (.cells #[.slice none 0 0, .slice none 0 0] 71 (0, 0))) := ⟨by rw [← hq_]; exact (pk_ BK297.out)⟩; have n4_ : Aside0 (wr.heap[gb299]? = some (.cells #[u300000, u300001] 71 (0, 0))) := ⟨by rw [← hq_]; exact (pk_ BK299.out)⟩; have n5_ : Aside0 (Below w.heap.size w wr) := ⟨by rw [← hq_]; exact (pb3_ HB.out GE296.out GE297.out GE299.out)⟩; clear HO_300000 HO_300001 BK296 BK297 BK299 HB hq_; have HO_300000 := n0_; have HO_300001 := n1_; have BK296 := n2_; have BK297 := n3_; have BK299 := n4_; have HB := n5_; clear n0_ n1_ n2_ n3_ n4_ n5_))
  have _ := Q_ (Kd.R_drew HO_300000.out)
  have _ := Q_ (Kd.S_drew HO_300001.out)
  have _ := Q_ (blk_drew BK296.out)
  have _ := Q_ (blk_drew BK297.out)
  have _ := Q_ (blk_drew BK299.out)
  have _ := Q_ (below_drew1 HB.out)
  clear HO_300000 HO_300001 BK296 BK297 BK299 HB
  rename_i HO_300000 HO_300001 BK296 BK297 BK299 HB
  have p308 : 0 ≤ (x10_2 : Int) := dt_
  have q308 : x10_2 < (l0_1.length : Int) := dt_
  obtain ⟨ad308, A308_1, c308_1, e308, hx308_0, hx308_1, hl308_1, hi308_1⟩ := at_T113 HR0_1.out x10_2 p308 q308
  have hw308_1 := hx308_1
  have hw308_0 := hx308_0
  obtain rfl : ad306 = ad308 := (by injection e308)
  replace hx308_0 := bt_ HB hx308_0
  replace hx308_1 := bt_ HB hx308_1
  have HR308_1 := Q_ hi308_1
  have HC308_1 := Q_ hl308_1
  clear hi308_1 hl308_1
  replace p308 := eq_true p308
  replace q308 := eq_true q308
  have p312 : 0 ≤ (x10_2 : Int) := dt_
  have q312 : x10_2 < (l0_1.length : Int) := dt_
  obtain ⟨ad312, A312_1, c312_1, e312, hx312_0, hx312_1, hl312_1, hi312_1⟩ := at_T113 HR0_1.out x10_2 p312 q312
  have hw312_1 := hx312_1
  have hw312_0 := hx312_0
  obtain rfl : ad306 = ad312 := (by injection e312)
  replace hx312_0 := bt_ HB hx312_0
  replace hx312_1 := bt_ HB hx312_1
  have HR312_1 := Q_ hi312_1
  have HC312_1 := Q_ hl312_1
  clear hi312_1 hl312_1
  replace p312 := eq_true p312
  replace q312 := eq_true q312
  have ea_ := Option.some.inj (hx308_1.symm.trans hx312_1)
  injection ea_ with ea_ en_ ec_
  subst ea_
  subst ec_
  clear en_
  refine start_ (n := 21) (S := fun w' => w'.cell? ⟨gb299, 0, none⟩ = some (u300000) ∧ w'.cell? ⟨gb299, 1, none⟩ = some (u300001) ∧ w'.cell? ⟨gb296, 0, none⟩ = some (.slice A0_0 l0_0.length c0_0) ∧ w'.cell? ⟨gb296, 1, none⟩ = some (.slice (some ad306) l0_1.length c0_1) ∧ w'.cell? (ad306.add ((x10_2).toNat * 2)) = some (.int .i64 ((rd_T113 l0_1 x10_2).f0)) ∧ w'.cell? ⟨(ad306.add ((x10_2).toNat * 2)).block, (ad306.add ((x10_2).toNat * 2)).off + 1, none⟩ = some (.slice A308_1 ((rd_T113 l0_1 x10_2).f1).length c308_1) ∧ w'.cell? (ad306.add ((x10_2).toNat * 2)) = some (.int .i64 ((rd_T113 l0_1 x10_2).f0)) ∧ w'.cell? ⟨(ad306.add ((x10_2).toNat * 2)).block, (ad306.add ((x10_2).toNat * 2)).off + 1, none⟩ = some (.slice A308_1 ((rd_T113 l0_1 x10_2).f1).length c308_1)) (ds := [20]) #[false, false, false, false, false, false, false, false, false, false, false, false, false, false, false, false, false, false, false, false, false] (by kernel_rfl) rfl rfl ⟨(blk_cell BK299.out 0).trans rfl, (blk_cell BK299.out 1).trans rfl, (blk_cell BK296.out 0).trans rfl, (blk_cell BK296.out 1).trans rfl, (bt_ HB hw308_0), (bt_ HB hw308_1), (bt_ HB hw312_0), (bt_ HB hw312_1)⟩ (fun hHeld => ?_); refine with_tabW spec_PartHello.tab13 spec_PartHello.bits13 (fun HT_ HW_ => ?_)
  generalize wr.drew = w46 at HO_300000 HO_300001 BK296 BK297 BK299 HB HR308_1 HR312_1 hx308_0 hx308_1 hx312_0 hx312_1 hHeld ⊢
  refine pu_ 0 (some 57) (tf_ 1 21) HT_ ?_
  refine pu_ 2 (some 59) (tm_ 21 5) HT_ ?_
  refine pu_ 4 (some 61) (tm_ 21 21) HT_ ?_
  refine pu_ 9 (some 66) (tm_ 21 533) HT_ ?_
  refine pu_ 11 (some 68) (tm_ 21 2581) HT_ ?_
  refine ta_ 1 (some 58) (tm_ 21 2583) HT_ HW_ hHeld ?_
  refine ta_ 3 (some 60) (tm_ 21 2591) HT_ HW_ hHeld ?_
  refine pu_ 5 (some 62) (tm_ 21 2623) HT_ ?_
  refine pu_ 6 (some 63) (tm_ 21 2687) HT_ ?_
  refine ta_ 7 (some 64) (tm_ 21 2815) HT_ HW_ hHeld ?_
  refine ta_ 10 (some 67) (tm_ 21 3839) HT_ HW_ hHeld ?_
  refine pu_ 12 (some 69) (tm_ 21 7935) HT_ ?_
  refine pu_ 13 (some 70) (tm_ 21 16127) HT_ ?_
  refine ta_ 14 (some 71) (tm_ 21 32511) HT_ HW_ hHeld ?_
  refine on_ 8 (some 65) (tf_ 15 21) HT_ (fun K hK => ?_)
  refine Kd.R_lit_step (Kd.int .i64) _ 3 ?hg (N := 65) ?hd (xs := ([] : List Int)) (inner := []) (ok := fun _ => True) (okp := fun _ => True) ?hr ?hp (fun _ hk => hk) trivial (Below.refl _ _) (Nat.le_refl _) (by simp) ?_; (case hd => rfl); (case hg => rfl); (case hr => first | (go_simp; done) | (go_simp; rfl)); (case hp => exact (Reps.none _ _))
  intro v310 w47 ho48 hb hg_ hnew_
  clear hg_ hnew_
  (first | rw [← Ny309.out] at ho48 | (simp only [Int.reduceToNat] at ho48; rw [← Ny309.out] at ho48))
  have _ := Q_ (Kd.R_elder' (pr_ HO_300000.out) (Kd.R_base ho48) hb)
  have _ := Q_ (Kd.S_elder' (ps_ HO_300001.out) (Kd.R_base ho48) hb)
  have _ := Q_ (Kd.R_lower (Kd.R_new' ho48 (Kd.R_lt (pr_ HO_300000.out))) (below_size (pb3_ HB.out GE296.out GE297.out GE299.out)))
  have _ := Q_ (bb_ BK296.out hb)
  have _ := Q_ (bb_ BK297.out hb)
  have _ := Q_ (bb_ BK299.out hb)
  have _ := Q_ (below_step (pb3_ HB.out GE296.out GE297.out GE299.out) hb)
  clear HO_300000 HO_300001 BK296 BK297 BK299 HB
  rename_i HO_300000 HO_300001 HO311 BK296 BK297 BK299 HB
  clear hb ho48
  refine hK.out _ _ ⟨(blk_cell BK299.out 0).trans rfl, (blk_cell BK299.out 1).trans rfl, (blk_cell BK296.out 0).trans rfl, (blk_cell BK296.out 1).trans rfl, (bt_ HB hw308_0), (bt_ HB hw308_1), (bt_ HB hw312_0), (bt_ HB hw312_1)⟩ (fun hHeld => ?_)
  clear hK K
  refine no_ (some 65) ?_
  refine on_ 15 (some 72) (tf_ 16 21) HT_ (fun K hK => ?_)
  refine Kd.R_append_rows_step (Kd.int .i64) (w0 := w) w.heap.size (by rfl) (.tmp 65) (.tmp 71) 25 3 (.int .i64 0) 8 rfl Try.underlying25 info3 rfl (by decide) (by omega) v310 y309 ((rd_T113 l0_1 x10_2).f1) _ _ _ (fun k_ => some k_ ≠ (u300000 : Value).ownBlock) (fun _ => False) rfl rfl ?aO ?aR (fun _ _ h => h) (fun _ h => h.elim) ?aF ?aB ?aS ?aL ?_
  (case aR => exact cb_ HR312_1 HB)
  (case aB => exact (pb3_ HB.out GE296.out GE297.out GE299.out))
  (case aF => exact (fun k_ hk => Kd.fresh' (Kd.R_lt (pr_ HO_300000.out)) k_ hk))
  (case aO => exact (pr_ (Kd.R_mono HO311.out (fun _ hk => hk.2))))
  (case aS => exact (below_size (pb3_ HB.out GE296.out GE297.out GE299.out)))
  (case aL => have := LMc44.out; omega)
  intro v314 w49 ho hb hg hat
  rw [← Ny313.out] at ho
  have _ := Q_ (Kd.R_after (ok := (fun _ => True)) (pr_ HO_300000.out) hg hat)
  have _ := Q_ (Kd.S_after (ok := (fun k_ => some k_ ≠ (u300000 : Value).ownBlock)) (ps_ HO_300001.out) hg hat)
  have _ := Q_ (blk_grown (g := gb296) (o := .cells #[.slice A0_0 l0_0.length c0_0, .slice (some ad306) l0_1.length c0_1] 71 (0, 0)) (pk_ BK296.out) hg (Kd.R_ne HO311.out BK296.out (by decide)))
  have _ := Q_ (blk_grown (g := gb297) (o := .cells #[.slice none 0 0, .slice none 0 0] 71 (0, 0)) (pk_ BK297.out) hg (Kd.R_ne HO311.out BK297.out (by decide)))
  have _ := Q_ (blk_grown (g := gb299) (o := .cells #[u300000, u300001] 71 (0, 0)) (pk_ BK299.out) hg (Kd.R_ne HO311.out BK299.out (by decide)))
  have _ := Q_ (hb)
  have _ := Q_ (ho)
  clear HO_300000 HO_300001 BK296 BK297 BK299 HB HO311
  rename_i HO_300000 HO_300001 BK296 BK297 BK299 HB HO315
  clear ho hb hg hat
  obtain ⟨Ao50, co50, eo50⟩ := Kd.R_slice HO315.out
  (first | subst eo50 | (injection eo50 with f1_ f2_ f3_; have f4_ := f1_.symm; have f5_ := f3_.symm; clear f1_ f2_ f3_; subst f4_; subst f5_))
  refine hK.out _ _ ⟨(blk_cell BK299.out 0).trans rfl, (blk_cell BK299.out 1).trans rfl, (blk_cell BK296.out 0).trans rfl, (blk_cell BK296.out 1).trans rfl, (bt_ HB hw308_0), (bt_ HB hw308_1), (bt_ HB hw312_0), (bt_ HB hw312_1)⟩ (fun hHeld => ?_)
  clear hK K
  refine no_ (some 72) ?_
  refine pu_ 16 (some 73) (tf_ 17 21) HT_ ?_
  refine on_ 17 (some 74) (tf_ 18 21) HT_ (fun K hK => ?_)
  refine value_ (w1 := ?_) (v := ?_) (by rfl) rfl ?_ ?_
  rotate_left 2
  ·go_simp
   constructor
   ·rfl
   ·rfl
  refine hK.out _ _ ⟨(blk_cell (blk_alloc BK299.out _) 0).trans rfl, (blk_cell (blk_alloc BK299.out _) 1).trans rfl, (blk_cell (blk_alloc BK296.out _) 0).trans rfl, (blk_cell (blk_alloc BK296.out _) 1).trans rfl, (World.cell?_alloc_lt _ _ _ (World.block_lt_of_cell? _ _ ((bt_ HB hw308_0)))).trans ((bt_ HB hw308_0)), (World.cell?_alloc_lt _ _ _ (World.block_lt_of_cell? _ _ ((bt_ HB hw308_1)))).trans ((bt_ HB hw308_1)), (World.cell?_alloc_lt _ _ _ (World.block_lt_of_cell? _ _ ((bt_ HB hw312_0)))).trans ((bt_ HB hw312_0)), (World.cell?_alloc_lt _ _ _ (World.block_lt_of_cell? _ _ ((bt_ HB hw312_1)))).trans ((bt_ HB hw312_1))⟩ (fun hHeld => ?_)
  clear hK K
  refine no_ (some 74) ?_
  refine on_ 18 (some 75) (tf_ 19 21) HT_ (fun K hK => ?_)
  refine Kd.S_append_step k113 (w0 := w) w.heap.size (by rfl) (.tmp 58) (.tmp 74) 69 113 (.agg #[(.int .i64 0), (.slice none 0 0)]) 32 rfl Try.underlying69 info113 rfl (by decide) (by omega) u300001 x300001_2 (⟨(rd_T113 l0_1 x10_2).f0, y313⟩ : S113) [.int .i64 ((rd_T113 l0_1 x10_2).f0), .slice Ao50 y313.length co50] (fun k_ => some k_ ≠ (u300000 : Value).ownBlock) (fun k_ => some k_ = (.slice Ao50 y313.length co50 : Value).ownBlock) rfl rfl ?aP (fun k_ hk_ => ((Kd.R_mono (ok' := fun k_ => ((fun k_ => some k_ ≠ (u300000 : Value).ownBlock)) k_ ∧ some k_ ≠ (u300001 : Value).ownBlock) (Kd.R_apart' (HO315.out) (Kd.S_typed HO_300001.out) (by decide)) (fun k_ hk => ⟨hk.1, hk.2⟩))).1 k_ hk_.symm) ?aF ?aO ?aB ?aS ?aL ?_
  (case aP => exact k113_mkM _ _ _ (⟨(rd_T113 l0_1 x10_2).f0, y313⟩ : S113) (Kd.R_mono (Kd.R_tight rfl (Kd.R_mono (ok' := fun k_ => ((fun k_ => some k_ ≠ (u300000 : Value).ownBlock)) k_ ∧ some k_ ≠ (u300001 : Value).ownBlock) (Kd.R_apart' (HO315.out) (Kd.S_typed HO_300001.out) (by decide)) (fun k_ hk => ⟨hk.1, hk.2⟩))) (fun _ h_ => h_)))
  (case aB => exact (pb3_ HB.out GE296.out GE297.out GE299.out))
  (case aF => exact (fun k_ hk => Kd.fresh' (Kd.R_lt (pr_ HO_300000.out)) k_ hk))
  (case aO => exact (by (with_reducible repeat (first | apply Kd.S_alloc | apply Kd.S_drewN | apply Kd.S_drew)); exact Kd.S_mono HO_300001.out (fun k_ hk => ⟨hk.1, fun e_ => hk.2 e_⟩)))
  (case aS => exact (below_size (pb3_ HB.out GE296.out GE297.out GE299.out)))
  (case aL => have := LMc45.out; omega)
  intro v317 w51 ho hb hg hat
  rw [← Ny316.out] at ho
  have _ := Q_ (Kd.R_over' (pr_ HO_300000.out) (Kd.S_typed (ps_ HO_300001.out)) (by decide) hg)
  have _ := Q_ (blk_grown (g := gb296) (o := .cells #[.slice A0_0 l0_0.length c0_0, .slice (some ad306) l0_1.length c0_1] 71 (0, 0)) (pk_ BK296.out) hg (Kd.S_ne HO_300001.out BK296.out (by decide)))
  have _ := Q_ (blk_grown (g := gb297) (o := .cells #[.slice none 0 0, .slice none 0 0] 71 (0, 0)) (pk_ BK297.out) hg (Kd.S_ne HO_300001.out BK297.out (by decide)))
  have _ := Q_ (blk_grown (g := gb299) (o := .cells #[u300000, u300001] 71 (0, 0)) (pk_ BK299.out) hg (Kd.S_ne HO_300001.out BK299.out (by decide)))
  have _ := Q_ (hb)
  have _ := Q_ (ho)
  clear HO_300000 BK296 BK297 BK299 HB HO_300001 HO315
  rename_i HO_300000 BK296 BK297 BK299 HB HO318
  clear ho hb hg hat
  obtain ⟨Ao52, co52, eo52⟩ := Kd.S_slice HO318.out
  (first | subst eo52 | (injection eo52 with f1_ f2_ f3_; have f4_ := f1_.symm; have f5_ := f3_.symm; clear f1_ f2_ f3_; subst f4_; subst f5_))
  refine hK.out _ _ ⟨(blk_cell BK299.out 0).trans rfl, (blk_cell BK299.out 1).trans rfl, (blk_cell BK296.out 0).trans rfl, (blk_cell BK296.out 1).trans rfl, (bt_ HB hw308_0), (bt_ HB hw308_1), (bt_ HB hw312_0), (bt_ HB hw312_1)⟩ (fun hHeld => ?_)
  clear hK K
  refine no_ (some 75) ?_
  refine pu_ 19 (some 76) (tf_ 20 21) HT_ ?_
  refine last_ (i := 20) (N := none) #[true, true, true, true, true, true, true, true, true, true, true, true, true, true, true, true, true, true, true, true, true] rfl rfl (one_of HT_.out (by kernel_rfl)) (by decide) (fun K hK => ?_)
  have hs53 : w51.cell? ⟨gb299, 1, none⟩ = some (u300001) := (blk_cell BK299.out 1).trans rfl
  have hfs53 := blk_frozen BK299.out 1
  have hns53_0 := NB296_299.out
  have hns53_1 := NB297_299.out
  have hms53_0 := NB299_296.out
  have hms53_1 := NB299_297.out
  refine skip_ (w1 := ?_) (by rfl) rfl ?_ ?_
  rotate_left
  ·go_simp
   rfl
  refine hK.out _ _ ?_
  clear hK K
  refine done_ (done_of HT_.out (by kernel_rfl)) ?_
  try go_wp2
  go_roundg k2
  case measure => have := HK1.out; have := HK2.out; omega
  case rel => exact ⟨(wrap64 (x10_2 + 1)), (y316), (.slice Ao52 y316.length co52), el_, H', ⟨by have := HK1.out; have := HK2.out; omega⟩, ⟨pr_ (Kd.R_mono (Kd.R_far (p := ⟨gb299, 1, none⟩) (Kd.R_types HO_300000.out BK299.out (by decide)) (fun _ hk => hk.2) (.slice Ao52 y316.length co52)) (fun _ hk => trivial))⟩, ⟨ps_ (Kd.S_mono (Kd.S_far (p := ⟨gb299, 1, none⟩) (Kd.S_types HO318.out BK299.out (by decide)) (fun _ hk => hk.2) (.slice Ao52 y316.length co52)) (fun _ hk => hk.1))⟩, ⟨pp_ BK296.out⟩, ⟨pp_ BK297.out⟩, ⟨pp_ BK299.out⟩, ⟨pb3_ HB.out GE296.out GE297.out GE299.out⟩⟩
 rw [if_pos c17] at H
 have c17b0 : decide (x9_1 < (l0_0.length : Int)) = true := decide_eq_true c17
 clear c17
 (first | rw [c17b0] | (simp only [i64_w, i32_w]; rw [c17b0]) | skip)
 by_cases c54 : 0 ≤ x9_1
 rotate_left
 ·rw [if_neg c54] at H
  exact absurd H (by simp)
 rw [if_pos c54] at H
 have c54b0 : decide (0 ≤ x9_1) = true := decide_eq_true c54
 clear c54
 replace H := Option.bind_eq_some_iff.mp H
 obtain ⟨t301, A550, H⟩ := H
 (try dsimp only at H)
 have A55 := Q_ A550
 clear A550
 have HS_ := Q_ H
 clear H
 have hnb56 := NB296_297.out
 have hnc56 := NB297_296.out
 have hnb57 := NB296_299.out
 have hnc57 := NB299_296.out
 have hcz58 := bc2_ BK296.out
 have p300 : 0 ≤ (x9_1 : Int) := dt_
 have q300 : x9_1 < (l0_0.length : Int) := dt_
 obtain ⟨ad300, e300, hx300_0⟩ := Kd.at_int HR0_0.out x9_1 p300 q300
 cases e300
 replace hx300_0 := bt_ HB hx300_0
 replace p300 := eq_true p300
 replace q300 := eq_true q300
 go_upto_if 30 with (first | ((with_reducible refine gate_callee (f := 74) rfl ?_); refine gl_ (some 29) Try.func74 #[.slice A1 l1.length c1, .int .i64 (rd l0_0 x9_1)] ?_; (with_reducible refine (spec_l9Has.calls k1 _ _ l1 (rd l0_0 x9_1) t301 _ ?side1 ?side2 A55.out).mono ?_); (case side1 => exact cb_ HR1 HB); (case side2 => exact HC1.out); rintro e w' ⟨rfl, ⟨nd, rfl⟩⟩; refine ⟨_, rfl, ?_⟩))
 (try simp only [Act.put, List.setIfInBounds_toArray, List.set_cons_zero, List.set_cons_succ])
 have H := HS_.out
 clear HS_
 by_cases c59 : t301 = true
 ·subst c59
  rw [if_pos rfl] at H
  have H' := Q_ H
  clear H
  go_wp2
  go_roundg k1
  case measure => have := HK1.out; omega
  case rel => exact ⟨(wrap64 (x9_1 + 1)), (x300000_1), (u300000), el_, H', ⟨by have := HK1.out; omega⟩, ⟨pr_ HO_300000.out⟩, ⟨pk_ BK296.out⟩, ⟨pk_ BK297.out⟩, ⟨pk_ BK299.out⟩, ⟨pb3_ HB.out GE296.out GE297.out GE299.out⟩⟩
 replace c59 := bf_ c59
 subst c59
 rw [if_neg ff_] at H
 by_cases c60 : x300000_1.length < 17592186044416
 rotate_left
 ·rw [if_neg c60] at H
  exact absurd H (by simp)
 rw [if_pos c60] at H
 have LMc60 := Q_ c60
 clear c60
 obtain ⟨y303, hy303⟩ : ∃ y_ : List Int, y_ = (x300000_1 ++ [rd l0_0 x9_1]) := ⟨_, rfl⟩
 replace H : (spec_PartHello.l0 k1 l1 l2 (wrap64 (x9_1 + 1)) l0_0 l0_1 y303) = some (r1, r2, r3) := hb_ hy303 H
 have Ny303 := Q_ hy303
 clear hy303
 have H' := Q_ H
 clear H
 try go_wp2
 (try (rw [drewN_self wr]; generalize hq_ : World.drewN wr _ = wr; have n0_ : Aside0 (Kd.R (Kd.int .i64) 3 wr w.heap.size (fun _ => True) u300000 x300000_1) := ⟨by rw [← hq_]; exact (pr_ HO_300000.out)⟩; have n1_ : Aside0 (wr.heap[gb296]? = some (.cells #[.slice (some ad300) l0_0.length c0_0, .slice A0_1 l0_1.length c0_1] 71 (0, 0))) := ⟨by rw [← hq_]; exact (pk_ BK296.out)⟩; have n2_ : Aside0 (wr.heap[gb297]? = some (.cells #[.slice none 0 0, .slice none 0 0] 71 (0, 0))) := ⟨by rw [← hq_]; exact (pk_ BK297.out)⟩; have n3_ : Aside0 (wr.heap[gb299]? = some (.cells #[u300000, .slice none 0 0] 71 (0, 0))) := ⟨by rw [← hq_]; exact (pk_ BK299.out)⟩; have n4_ : Aside0 (Below w.heap.size w wr) := ⟨by rw [← hq_]; exact (pb3_ HB.out GE296.out GE297.out GE299.out)⟩; clear HO_300000 BK296 BK297 BK299 HB hq_; have HO_300000 := n0_; have BK296 := n1_; have BK297 := n2_; have BK299 := n3_; have HB := n4_; clear n0_ n1_ n2_ n3_ n4_))
 have _ := Q_ (Kd.R_drew HO_300000.out)
 have _ := Q_ (blk_drew BK296.out)
 have _ := Q_ (blk_drew BK297.out)
 have _ := Q_ (blk_drew BK299.out)
 have _ := Q_ (below_drew1 HB.out)
 clear HO_300000 BK296 BK297 BK299 HB
 rename_i HO_300000 BK296 BK297 BK299 HB
 have p302 : 0 ≤ (x9_1 : Int) := dt_
 have q302 : x9_1 < (l0_0.length : Int) := dt_
 obtain ⟨ad302, e302, hx302_0⟩ := Kd.at_int HR0_0.out x9_1 p302 q302
 have hw302_0 := hx302_0
 obtain rfl : ad300 = ad302 := (by injection e302)
 replace hx302_0 := bt_ HB hx302_0
 replace p302 := eq_true p302
 replace q302 := eq_true q302
 refine start_ (n := 11) (S := fun w' => w'.cell? ⟨gb299, 0, none⟩ = some (u300000) ∧ w'.cell? ⟨gb299, 1, none⟩ = some (.slice none 0 0) ∧ w'.cell? ⟨gb296, 0, none⟩ = some (.slice (some ad300) l0_0.length c0_0) ∧ w'.cell? ⟨gb296, 1, none⟩ = some (.slice A0_1 l0_1.length c0_1) ∧ w'.cell? (ad300.add (x9_1).toNat) = some (.int .i64 (rd l0_0 x9_1))) (ds := [10]) #[false, false, false, false, false, false, false, false, false, false, false] (by kernel_rfl) rfl rfl ⟨(blk_cell BK299.out 0).trans rfl, (blk_cell BK299.out 1).trans rfl, (blk_cell BK296.out 0).trans rfl, (blk_cell BK296.out 1).trans rfl, (bt_ HB hw302_0)⟩ (fun hHeld => ?_); refine with_tabW spec_PartHello.tab8 spec_PartHello.bits8 (fun HT_ HW_ => ?_)
 generalize wr.drew = w61 at HO_300000 BK296 BK297 BK299 HB hx302_0 hHeld ⊢
 refine pu_ 0 (some 31) (tf_ 1 11) HT_ ?_
 refine pu_ 2 (some 33) (tm_ 11 5) HT_ ?_
 refine pu_ 4 (some 35) (tm_ 11 21) HT_ ?_
 refine ta_ 1 (some 32) (tm_ 11 23) HT_ HW_ hHeld ?_
 refine ta_ 3 (some 34) (tf_ 5 11) HT_ HW_ hHeld ?_
 refine pu_ 5 (some 36) (tf_ 6 11) HT_ ?_
 refine ta_ 6 (some 37) (tf_ 7 11) HT_ HW_ hHeld ?_
 refine on_ 7 (some 38) (tf_ 8 11) HT_ (fun K hK => ?_)
 refine value_ (w1 := ?_) (v := ?_) (by rfl) rfl ?_ ?_
 rotate_left 2
 ·go_simp
  constructor
  ·rfl
  ·rfl
 refine hK.out _ _ ⟨(blk_cell (blk_alloc BK299.out _) 0).trans rfl, (blk_cell (blk_alloc BK299.out _) 1).trans rfl, (blk_cell (blk_alloc BK296.out _) 0).trans rfl, (blk_cell (blk_alloc BK296.out _) 1).trans rfl, (World.cell?_alloc_lt _ _ _ (World.block_lt_of_cell? _ _ ((bt_ HB hw302_0)))).trans ((bt_ HB hw302_0))⟩ (fun hHeld => ?_)
 clear hK K
 refine no_ (some 38) ?_
 refine on_ 8 (some 39) (tf_ 9 11) HT_ (fun K hK => ?_)
 refine Kd.R_append_step (Kd.int .i64) (w0 := w) w.heap.size (by rfl) (.tmp 32) (.tmp 38) 25 3 (.int .i64 0) 8 rfl Try.underlying25 info3 rfl (by decide) (by omega) u300000 x300000_1 (rd l0_0 x9_1) [.int .i64 (rd l0_0 x9_1)] (fun _ => True) (fun _ => False) rfl rfl ?aP (fun _ hk => hk.elim) ?aF ?aO ?aB ?aS ?aL ?_
 (case aP => exact rfl)
 (case aB => exact (pb3_ HB.out GE296.out GE297.out GE299.out))
 (case aF => exact (fun _ _ => trivial))
 (case aO => exact (pr_ HO_300000.out))
 (case aS => exact (below_size (pb3_ HB.out GE296.out GE297.out GE299.out)))
 (case aL => have := LMc60.out; omega)
 intro v304 w62 ho hb hg hat
 rw [← Ny303.out] at ho
 have _ := Q_ (blk_grown (g := gb296) (o := .cells #[.slice (some ad300) l0_0.length c0_0, .slice A0_1 l0_1.length c0_1] 71 (0, 0)) (pk_ BK296.out) hg (Kd.R_ne HO_300000.out BK296.out (by decide)))
 have _ := Q_ (blk_grown (g := gb297) (o := .cells #[.slice none 0 0, .slice none 0 0] 71 (0, 0)) (pk_ BK297.out) hg (Kd.R_ne HO_300000.out BK297.out (by decide)))
 have _ := Q_ (blk_grown (g := gb299) (o := .cells #[u300000, .slice none 0 0] 71 (0, 0)) (pk_ BK299.out) hg (Kd.R_ne HO_300000.out BK299.out (by decide)))
 have _ := Q_ (hb)
 have _ := Q_ (ho)
 clear BK296 BK297 BK299 HB HO_300000
 rename_i BK296 BK297 BK299 HB HO305
 clear ho hb hg hat
 obtain ⟨Ao63, co63, eo63⟩ := Kd.R_slice HO305.out
 (first | subst eo63 | (injection eo63 with f1_ f2_ f3_; have f4_ := f1_.symm; have f5_ := f3_.symm; clear f1_ f2_ f3_; subst f4_; subst f5_))
 refine hK.out _ _ ⟨(blk_cell BK299.out 0).trans rfl, (blk_cell BK299.out 1).trans rfl, (blk_cell BK296.out 0).trans rfl, (blk_cell BK296.out 1).trans rfl, (bt_ HB hw302_0)⟩ (fun hHeld => ?_)
 clear hK K
 refine no_ (some 39) ?_
 refine pu_ 9 (some 40) (tf_ 10 11) HT_ ?_
 refine last_ (i := 10) (N := none) #[true, true, true, true, true, true, true, true, true, true, true] rfl rfl (one_of HT_.out (by kernel_rfl)) (by decide) (fun K hK => ?_)
 have hs64 : w62.cell? ⟨gb299, 0, none⟩ = some (u300000) := (blk_cell BK299.out 0).trans rfl
 have hfs64 := blk_frozen BK299.out 0
 have hns64_0 := NB296_299.out
 have hns64_1 := NB297_299.out
 have hms64_0 := NB299_296.out
 have hms64_1 := NB299_297.out
 refine skip_ (w1 := ?_) (by rfl) rfl ?_ ?_
 rotate_left
 ·go_simp
  rfl
 refine hK.out _ _ ?_
 clear hK K
 refine done_ (done_of HT_.out (by kernel_rfl)) ?_
 try go_wp2
 go_roundg k1
 case measure => have := HK1.out; omega
 case rel => exact ⟨(wrap64 (x9_1 + 1)), (y303), (.slice Ao63 y303.length co63), el_, H', ⟨by have := HK1.out; omega⟩, ⟨pr_ (Kd.R_mono (rf1_ HO305.out BK299.out) (fun _ hk => trivial))⟩, ⟨pp_ BK296.out⟩, ⟨pp_ BK297.out⟩, ⟨pp_ BK299.out⟩, ⟨pb3_ HB.out GE296.out GE297.out GE299.out⟩⟩

/-! ### spec_l21Left: function 70 -/
def spec_l21Left.l0 : Nat → List Int → List Int → List Int → Int → Option (List Int)
 | 0, _, _, _, _ => none
 | k + 1, x0, x1, x5, x6 => if x6 < (x0.length : Int) then (if 0 ≤ x6 then ((spec_l9Has.f k x1 (rd x0 x6)).bind fun t323 => (if t323 = true then (spec_l21Left.l0 k x0 x1 x5 (wrap64 (x6 + 1))) else (if x5.length < 17592186044416 then (spec_l21Left.l0 k x0 x1 (x5 ++ [rd x0 x6]) (wrap64 (x6 + 1))) else (none)))) else (none)) else (some x5)
def spec_l21Left.f (k : Nat) (l0 : List Int) (l1 : List Int) : Option (List Int) := spec_l21Left.l0 k l0 l1 (([] : List Int)) 0
theorem spec_l21Left.mono_l : ∀ k, (∀ y0 y1 y2 y3, LeO (spec_l21Left.l0 k y0 y1 y2 y3) (spec_l21Left.l0 (k + 1) y0 y1 y2 y3))
 | 0 => fun _ _ _ _ r h => by simp [spec_l21Left.l0] at h
 | k + 1 => by
  have ih0 := spec_l21Left.mono_l k
  ·intro y0 y1 y2 y3
   unfold spec_l21Left.l0
   exact mo2_ ih0 spec_l9Has.mono
theorem spec_l21Left.mono : ∀ a0 a1 k, LeO (spec_l21Left.f k a0 a1) (spec_l21Left.f (k + 1) a0 a1) := by
 intro a0 a1 k
 have ih0 := spec_l21Left.mono_l k
 unfold spec_l21Left.f
 exact mo2_ ih0 spec_l9Has.mono
theorem spec_l21Left.calls (k : Nat) (A0 : Option Addr) (c0 : Nat) (l0 : List Int) (A1 : Option Addr) (c1 : Nat) (l1 : List Int) (r : List Int) (w : World) (hr0 : Kd.C (Kd.int .i64) w A0 l0.length l0) (hc0 : l0.length ≤ c0) (hr1 : Kd.C (Kd.int .i64) w A1 l1.length l1) (hc1 : l1.length ≤ c1) (h : spec_l21Left.f k l0 l1 = some r) :
  Calls Try.prog 70 #[.slice A0 l0.length c0, .slice A1 l1.length c1] w fun e w' => ∃ v0_ : Value, e = .returned (v0_) ∧ Kd.R (Kd.int .i64) 3 w' w.heap.size (fun _ => True) v0_ r ∧ Below w.heap.size w w' := by
 have HR0 := Q_ hr0
 have HC0 := Q_ hc0
 clear hr0 hc0
 have HR1 := Q_ hr1
 have HC1 := Q_ hc1
 clear hr1 hc1
 have HB := Q_ (Below.refl w.heap.size w)
 have H : (spec_l21Left.l0 k l0 l1 (([] : List Int)) 0) = some r := h
 clear h
 obtain ⟨y319, hy319⟩ : ∃ y_ : List Int, y_ = (([] : List Int)) := ⟨_, rfl⟩
 replace H : (spec_l21Left.l0 k l0 l1 y319 0) = some r := hb_ hy319 H
 have Ny319 := Q_ hy319
 clear hy319
 have H' := Q_ H
 clear H
 go_enter Try.func70, Try.ntmps70
 go_wp2_with (first | ((with_reducible refine gate_dst (N := 7) rfl ?_); refine Kd.R_lit (Kd.int .i64) _ 3 ?hg (N := 7) ?hd (xs := ([] : List Int)) (inner := []) (ok := fun _ => True) (okp := fun _ => True) ?hr ?hp (fun _ hk => hk) trivial (Below.refl _ _) (Nat.le_refl _) (by simp) ?_; (case hd => rfl); (case hg => rfl); (case hr => first | (go_simp; done) | (go_simp; rfl)); (case hp => exact (Reps.none _ _)); intro v320 w3 ho4 hb hg_ hnew_; clear hg_ hnew_; (first | rw [← Ny319.out] at ho4 | (simp only [Int.reduceToNat] at ho4; rw [← Ny319.out] at ho4)); have _ := Q_ (Kd.R_lower ho4 (below_size (pb_ HB.out))); have _ := Q_ (below_step (pb_ HB.out) hb); clear HB; rename_i HO321 HB; clear hb ho4))
 (try simp only [Act.put, List.setIfInBounds_toArray, List.set_cons_zero, List.set_cons_succ])
 go_loopg [5, 6] k (fun kq v5 v6 w' => ∃ (x5_1 : List Int) (x6_1 : Int), v6 = .int .i64 x6_1 ∧ Aside0 (spec_l21Left.l0 kq l0 l1 x5_1 x6_1 = some r) ∧ Aside0 (kq ≤ k) ∧ Aside0 (Kd.R (Kd.int .i64) 3 w' w.heap.size (fun _ => True) v5 x5_1) ∧ Aside0 (Below w.heap.size w w'))
 case atStart => exact ⟨(y319), (0), el_, H', ⟨Nat.le_refl _⟩, ⟨pr_ HO321.out⟩, ⟨pb_ HB.out⟩⟩
 clear H'
 try clear c1
 try clear p2
 obtain ⟨x5_1, x6_1, rfl, HA, HK1, HO_5, HB⟩ := hrel
 rcases gk with _ | k1
 ·exact absurd HA.out (by simp [spec_l21Left.l0])
 have H := HA.out
 clear HA
 simp only [spec_l21Left.l0] at H
 by_cases c5 : x6_1 < (l0.length : Int)
 rotate_left
 ·rw [if_neg c5] at H
  have c5b0 : decide (x6_1 < (l0.length : Int)) = false := decide_eq_false c5
  clear c5
  obtain rfl := Option.some.inj H
  go_wp2
  go_ret
  exact ⟨_, er_, pr_ HO_5.out, pb_ HB.out⟩
 rw [if_pos c5] at H
 have c5b0 : decide (x6_1 < (l0.length : Int)) = true := decide_eq_true c5
 clear c5
 by_cases c6 : 0 ≤ x6_1
 rotate_left
 ·rw [if_neg c6] at H
  exact absurd H (by simp)
 rw [if_pos c6] at H
 have c6b0 : decide (0 ≤ x6_1) = true := decide_eq_true c6
 clear c6
 replace H := Option.bind_eq_some_iff.mp H
 obtain ⟨t323, A70, H⟩ := H
 (try dsimp only at H)
 have A7 := Q_ A70
 clear A70
 have HS_ := Q_ H
 clear H
 have p322 : 0 ≤ (x6_1 : Int) := dt_
 have q322 : x6_1 < (l0.length : Int) := dt_
 obtain ⟨ad322, e322, hx322_0⟩ := Kd.at_int HR0.out x6_1 p322 q322
 cases e322
 replace hx322_0 := bt_ HB hx322_0
 replace p322 := eq_true p322
 replace q322 := eq_true q322
 go_upto_if 20 with (first | ((with_reducible refine gate_callee (f := 74) rfl ?_); refine gl_ (some 19) Try.func74 #[.slice A1 l1.length c1, .int .i64 (rd l0 x6_1)] ?_; (with_reducible refine (spec_l9Has.calls k1 _ _ l1 (rd l0 x6_1) t323 _ ?side1 ?side2 A7.out).mono ?_); (case side1 => exact cb_ HR1 HB); (case side2 => exact HC1.out); rintro e w' ⟨rfl, ⟨nd, rfl⟩⟩; refine ⟨_, rfl, ?_⟩))
 (try simp only [Act.put, List.setIfInBounds_toArray, List.set_cons_zero, List.set_cons_succ])
 have H := HS_.out
 clear HS_
 by_cases c8 : t323 = true
 ·subst c8
  rw [if_pos rfl] at H
  have H' := Q_ H
  clear H
  go_wp2
  go_roundg k1
  case measure => have := HK1.out; omega
  case rel => exact ⟨(x5_1), (wrap64 (x6_1 + 1)), el_, H', ⟨by have := HK1.out; omega⟩, ⟨pr_ HO_5.out⟩, ⟨pb_ HB.out⟩⟩
 replace c8 := bf_ c8
 subst c8
 rw [if_neg ff_] at H
 by_cases c9 : x5_1.length < 17592186044416
 rotate_left
 ·rw [if_neg c9] at H
  exact absurd H (by simp)
 rw [if_pos c9] at H
 have LMc9 := Q_ c9
 clear c9
 obtain ⟨y325, hy325⟩ : ∃ y_ : List Int, y_ = (x5_1 ++ [rd l0 x6_1]) := ⟨_, rfl⟩
 replace H : (spec_l21Left.l0 k1 l0 l1 y325 (wrap64 (x6_1 + 1))) = some r := hb_ hy325 H
 have Ny325 := Q_ hy325
 clear hy325
 have H' := Q_ H
 clear H
 have p324 : 0 ≤ (x6_1 : Int) := dt_
 have q324 : x6_1 < (l0.length : Int) := dt_
 obtain ⟨ad324, e324, hx324_0⟩ := Kd.at_int HR0.out x6_1 p324 q324
 obtain rfl : ad322 = ad324 := (by injection e324)
 replace hx324_0 := bt_ HB hx324_0
 replace p324 := eq_true p324
 replace q324 := eq_true q324
 go_wp2_with (first | ((with_reducible refine gate_builtin (b := .append) (xs := #[.tmp 21, .tmp 26]) rfl ?_); at_builtin; refine Kd.R_append (Kd.int .i64) (w0 := w) w.heap.size rfl (.tmp 21) (.tmp 26) 25 3 (.int .i64 0) 8 rfl Try.underlying25 info3 rfl (by decide) (by omega) u5 x5_1 (rd l0 x6_1) [.int .i64 (rd l0 x6_1)] (fun _ => True) (fun _ => False) rfl rfl ?aP (fun _ hk => hk.elim) ?aF ?aO ?aB ?aS ?aL ?_; (case aP => exact rfl); (case aB => exact (pb_ HB.out)); (case aF => exact (fun _ _ => trivial)); (case aO => exact (pr_ HO_5.out)); (case aS => exact (below_size (pb_ HB.out))); (case aL => have := LMc9.out; omega); intro v326 w10 ho hb hg hat; rw [← Ny325.out] at ho; have _ := Q_ (hb); have _ := Q_ (ho); clear HB HO_5; rename_i HB HO327; clear ho hb hg hat))
 go_roundg k1
 case measure => have := HK1.out; omega
 case rel => exact ⟨(y325), (wrap64 (x6_1 + 1)), el_, H', ⟨by have := HK1.out; omega⟩, ⟨pr_ HO327.out⟩, ⟨pb_ HB.out⟩⟩

/-! ### spec_PlainHello: function 97 -/
def spec_PlainHello.f (l0 : List Int) : Option (List Int × (List (S113))) := (some (([] : List Int) : List Int)).bind fun y329 => (if y329.length + l0.length < 17592186044416 then (some ((y329 ++ l0), ([] : List (S113)))) else (none))
theorem spec_PlainHello.calls (A0 : Option Addr) (c0 : Nat) (l0 : List Int) (r1 : List Int) (r2 : List (S113)) (w : World) (hr0 : Kd.C (Kd.int .i64) w A0 l0.length l0) (hc0 : l0.length ≤ c0) (h : spec_PlainHello.f l0 = some (r1, r2)) :
  Calls Try.prog 97 #[.slice A0 l0.length c0] w fun e w' => ∃ v0_ v1_ : Value, e = .returned (.agg #[v0_, v1_]) ∧ Kd.R (Kd.int .i64) 3 w' w.heap.size (fun _ => True) v0_ r1 ∧ Kd.S k113 113 w' w.heap.size (fun k_ => some k_ ≠ (v0_ : Value).ownBlock) v1_ r2 ∧ Below w.heap.size w w' := by
 have hu71 := Try.underlying71
 have HR0 := Q_ hr0
 have HC0 := Q_ hc0
 clear hr0 hc0
 have HB := Q_ (Below.refl w.heap.size w)
 have H : ((some (([] : List Int) : List Int)).bind fun y329 => (if y329.length + l0.length < 17592186044416 then (some ((y329 ++ l0), ([] : List (S113)))) else (none))) = some (r1, r2) := h
 clear h
 obtain ⟨y329, hy329⟩ : ∃ y_ : List Int, y_ = (([] : List Int)) := ⟨_, rfl⟩
 replace H : (if y329.length + l0.length < 17592186044416 then (some ((y329 ++ l0), ([] : List (S113)))) else (none)) = some (r1, r2) := hb_ hy329 H
 have Ny329 := Q_ hy329
 clear hy329
 by_cases c2 : y329.length + l0.length < 17592186044416
 rotate_left
 ·rw [if_neg c2] at H
  exact absurd H (by simp)
 rw [if_pos c2] at H
 have LMc2 := Q_ c2
 clear c2
 obtain ⟨y332, hy332⟩ : ∃ y_ : List Int, y_ = (y329 ++ l0) := ⟨_, rfl⟩
 replace H : (some (y332, ([] : List (S113)))) = some (r1, r2) := hb_ hy332 H
 have Ny332 := Q_ hy332
 clear hy332
 simp only [Option.some.injEq, Prod.mk.injEq] at H
 obtain ⟨rfl, rfl⟩ := H
 go_enter Try.func97, Try.ntmps97
 go_wp2_with (first | ((with_reducible refine gate_dst (N := 2) rfl ?_); refine box_event ?hg (N := 2) ?hd (cs := #[.slice none 0 0, .slice none 0 0]) (t := 71) ?hr ?_; (case hd => rfl); (case hg => rfl); (case hr => first | (go_simp; done) | (go_simp; rfl)); intro gb328 hg w3 hbox hb; have _ := Q_ (below_step (pb_ HB.out) hb); have BK328 := Q_ (hbox); have GW328 := Q_ ((by rw [hg]; exact (below_size (pb_ HB.out)) : w.heap.size ≤ gb328)); have GE328 := GW328; clear HB; rename_i HB; clear hb hbox hg) | ((with_reducible refine gate_dst (N := 3) rfl ?_); refine Kd.R_lit (Kd.int .i64) _ 3 ?hg (N := 3) ?hd (xs := ([] : List Int)) (inner := []) (ok := fun _ => True) (okp := fun _ => True) ?hr ?hp (fun _ hk => hk) trivial (Below.refl _ _) (Nat.le_refl _) (by simp) ?_; (case hd => rfl); (case hg => rfl); (case hr => first | (go_simp; done) | (go_simp; rfl)); (case hp => exact (Reps.none _ _)); intro v330 w4 ho5 hb hg_ hnew_; clear hg_ hnew_; (first | rw [← Ny329.out] at ho5 | (simp only [Int.reduceToNat] at ho5; rw [← Ny329.out] at ho5)); have _ := Q_ (Kd.R_lower ho5 (below_size (pb1_ HB.out GE328.out))); have _ := Q_ (bb_ BK328.out hb); have _ := Q_ (below_step (pb1_ HB.out GE328.out) hb); clear BK328 HB; rename_i HO331 BK328 HB; clear hb ho5) | ((with_reducible refine gate_builtin (b := .append) (xs := #[.tmp 3, .tmp 4]) rfl ?_); at_builtin; refine Kd.R_append_rows (Kd.int .i64) (w0 := w) w.heap.size rfl (.tmp 3) (.tmp 4) 25 3 (.int .i64 0) 8 rfl Try.underlying25 info3 rfl (by decide) (by omega) v330 y329 l0 _ _ _ (fun _ => True) (fun _ => False) rfl rfl ?aO ?aR (fun _ _ h => h) (fun _ h => h.elim) ?aF ?aB ?aS ?aL ?_; (case aR => exact cb_ HR0 HB); (case aB => exact (pb1_ HB.out GE328.out)); (case aF => exact (fun _ _ => trivial)); (case aO => exact (pr_ HO331.out)); (case aS => exact (below_size (pb1_ HB.out GE328.out))); (case aL => have := LMc2.out; omega); intro v333 w6 ho hb hg hat; rw [← Ny332.out] at ho; have _ := Q_ (blk_grown (g := gb328) (o := .cells #[.slice none 0 0, .slice none 0 0] 71 (0, 0)) (pk_ BK328.out) hg (Kd.R_ne HO331.out BK328.out (by decide))); have _ := Q_ (hb); have _ := Q_ (ho); clear BK328 HB HO331; rename_i BK328 HB HO334; clear ho hb hg hat; obtain ⟨Ao7, co7, eo7⟩ := Kd.R_slice HO334.out; subst eo7; have hcz8 := bc2_ BK328.out))
 refine bodyPost_ret (results_cell_row rfl _ _ gb328 71 #[.slice Ao7 y332.length co7, .slice none 0 0] (0, 0) _ rfl (pp_ BK328.out) Try.underlying71 rfl (by kernel_rfl)) rfl ?_
 exact ⟨_, _, er_, pr_ (Kd.R_mono (rf2_ HO334.out BK328.out) (fun _ hk => trivial)), by first | exact Kd.S_nil _ _ _ _ _ | exact Kd.N_nil _ _ _ _ _ | exact Kd.V_nil _ _ _ _ _ | exact Kd.Q_nil _ _ _ _ _ | exact Kd.R_nil _ _ _ _ _, pb1_ HB.out GE328.out⟩

/-! ### spec_IsOpenPath: function 96 -/
def spec_IsOpenPath.f (k : Nat) (l0 : List (S89)) (l1 : List Int) : Option (Bool) := (spec_AreVersions.f k l1).bind fun t335 => (if t335 = true then (if 1 ≤ (l1.length : Int) then ((spec_PlainHello.f (l1.take 1)).bind fun bt337 => ((spec_PassPath.f k l0 bt337.1 bt337.2).bind fun bt343 => (some bt343.2.2))) else (none)) else (some false))
theorem spec_IsOpenPath.mono : ∀ a0 a1 k, LeO (spec_IsOpenPath.f k a0 a1) (spec_IsOpenPath.f (k + 1) a0 a1) := by
 intro a0 a1 k
 unfold spec_IsOpenPath.f
 exact mo2_ spec_AreVersions.mono spec_PassPath.mono
theorem spec_IsOpenPath.calls (k : Nat) (A0 : Option Addr) (c0 : Nat) (l0 : List (S89)) (A1 : Option Addr) (c1 : Nat) (l1 : List Int) (r : Bool) (w : World) (hr0 : Kd.C k89 w A0 l0.length l0) (hc0 : l0.length ≤ c0) (hr1 : Kd.C (Kd.int .i64) w A1 l1.length l1) (hc1 : l1.length ≤ c1) (h : spec_IsOpenPath.f k l0 l1 = some r) :
  Calls Try.prog 96 #[.slice A0 l0.length c0, .slice A1 l1.length c1] w fun e w' => e = .returned (.bool r) ∧ Below w.heap.size w w' := by
 have hu71 := Try.underlying71
 have HR0 := Q_ hr0
 have HC0 := Q_ hc0
 clear hr0 hc0
 have HR1 := Q_ hr1
 have HC1 := Q_ hc1
 clear hr1 hc1
 have HB := Q_ (Below.refl w.heap.size w)
 have H : ((spec_AreVersions.f k l1).bind fun t335 => (if t335 = true then (if 1 ≤ (l1.length : Int) then ((spec_PlainHello.f (l1.take 1)).bind fun bt337 => ((spec_PassPath.f k l0 bt337.1 bt337.2).bind fun bt343 => (some bt343.2.2))) else (none)) else (some false))) = some r := h
 clear h
 replace H := Option.bind_eq_some_iff.mp H
 obtain ⟨t335, A30, H⟩ := H
 (try dsimp only at H)
 have A3 := Q_ A30
 clear A30
 have HS_ := Q_ H
 clear H
 go_enter Try.func96, Try.ntmps96
 go_upto_if 9 with (first | ((with_reducible refine gate_callee (f := 76) rfl ?_); refine gl_ (some 8) Try.func76 #[.slice A1 l1.length c1] ?_; (with_reducible refine (spec_AreVersions.calls k _ _ l1 t335 _ ?side1 ?side2 A3.out).mono ?_); (case side1 => exact pc_ HR1.out); (case side2 => exact HC1.out); rintro e w' ⟨rfl, ⟨nd, rfl⟩⟩; refine ⟨_, rfl, ?_⟩))
 (try simp only [Act.put, List.setIfInBounds_toArray, List.set_cons_zero, List.set_cons_succ])
 have H := HS_.out
 clear HS_
 by_cases c4 : t335 = true
 rotate_left
 ·replace c4 := bf_ c4
  subst c4
  rw [if_neg ff_] at H
  obtain rfl := Option.some.inj H
  go_wp2
  go_ret
  exact ⟨er_, pb_ HB.out⟩
 subst c4
 rw [if_pos rfl] at H
 by_cases c5 : 1 ≤ (l1.length : Int)
 rotate_left
 ·rw [if_neg c5] at H
  exact absurd H (by simp)
 rw [if_pos c5] at H
 have c5b0 := eq_true c5
 have c5b1 : decide (1 ≤ (l1.length : Int)) = true := decide_eq_true c5
 clear c5
 replace H := Option.bind_eq_some_iff.mp H
 obtain ⟨⟨t337, t340⟩, A60, H⟩ := H
 (try dsimp only at H)
 have A6 := Q_ A60
 clear A60
 replace H := Option.bind_eq_some_iff.mp H
 obtain ⟨⟨t343, t346, t349⟩, A70, H⟩ := H
 replace H : (some t349) = some r := H
 have A7 := Q_ A70
 clear A70
 obtain rfl := Option.some.inj H
 obtain ⟨i08, hi08, _, hsz8, _⟩ := info_parts info3
 obtain ⟨hcut8, hA8, hC8⟩ := print_take_of (P := Try.prog) (Value.int .i64) 0 25 3 .i64 Try.underlying25 hi08 hsz8 A1 c1 l1 1 (by omega) dt_ HC1.out
 have HR336 := Q_ (Kd.C_of_reads (h1 := fun _ => rfl) (hA8 _ (Kd.reads_of_C HR1.out)))
 have HC336 := Q_ hC8
 clear hA8 hC8 hi08 hsz8
 go_wp2_with (first | ((with_reducible refine gate_callee (f := 97) rfl ?_); refine goesL_ (some 14) rfl rfl Try.func97 (by kernel_rfl) rfl #[.slice A1 (l1.take 1).length c1] rfl (by (try simp only [List.map_toArray, List.map_cons, List.map_nil]); first | done | (rw [show (l1.take 1).length = 1 from (by rw [List.length_take]; have h_ : (1 : Int) ≤ (l1.length : Int) := dt_; omega)] <;> rfl) | rfl | (simp only [List.length_drop, List.length_take]; rfl)) ?_; (with_reducible refine (spec_PlainHello.calls _ _ (l1.take 1) t337 t340 _ ?side1 ?side2 A6.out).mono ?_); (case side1 => exact pc_ (Kd.C_below HR336.out (pb_ HB.out))); (case side2 => exact HC336.out); rintro e w9 ⟨v338, v341, rfl, ho0, ho1, hb⟩; refine ⟨_, rfl, ?_⟩; have _ := Q_ (Kd.R_lower ho0 (below_size (pb_ HB.out))); have _ := Q_ (Kd.S_lower ho1 (below_size (pb_ HB.out))); have _ := Q_ (below_step (pb_ HB.out) hb); clear HB; rename_i HO339 HO342 HB; (try clear hb); (try clear hb2); (try clear hk); (try clear hi); (try clear ho0); (try clear ho1); obtain ⟨Ao10, co10, eo10⟩ := Kd.R_slice HO339.out; subst eo10; obtain ⟨Ao11, co11, eo11⟩ := Kd.S_slice HO342.out; subst eo11) | ((with_reducible refine gate_callee (f := 63) rfl ?_); refine gl_ (some 15) Try.func63 #[.slice A0 l0.length c0, .agg #[.slice Ao10 t337.length co10, .slice Ao11 t340.length co11]] ?_; (with_reducible refine (spec_PassPath.calls k _ _ l0 _ _ t337 _ _ t340 t343 t346 t349 _ ?side1 ?side2 ?side3 ?side4 ?side5 ?side6 A7.out).mono ?_); (case side1 => exact cb_ HR0 HB); (case side2 => exact HC0.out); (case side3 => exact pc_ ((Kd.R_reads' HO339.out).2.2)); (case side4 => exact (Kd.R_reads' HO339.out).2.1); (case side5 => exact pc_ ((Kd.S_reads' HO342.out).2.2)); (case side6 => exact (Kd.S_reads' HO342.out).2.1); rintro e w12 ⟨v344, v347, rfl, ho0, ho1, hb⟩; refine ⟨_, rfl, ?_⟩; have _ := Q_ (Kd.R_elder' (pr_ HO339.out) (Kd.R_base ho0) hb); have _ := Q_ (Kd.S_mono (Kd.S_told (Kd.S_told (Kd.S_old (ps_ HO342.out) hb) (Kd.R_base ho0)) (Kd.S_base ho1)) (fun _ h_ => h_.1)); have _ := Q_ (Kd.R_lower (Kd.R_new' ho0 (Kd.R_lt (pr_ HO339.out))) (below_size (pb_ HB.out))); have _ := Q_ (Kd.S_lower (Kd.S_new' (Kd.S_new' ho1 (Kd.R_lt (pr_ HO339.out))) (Kd.S_lt (ps_ HO342.out))) (below_size (pb_ HB.out))); have _ := Q_ (below_step (pb_ HB.out) hb); clear HO339 HO342 HB; rename_i HO339 HO342 HO345 HO348 HB; (try clear hb); (try clear hb2); (try clear hk); (try clear hi); (try clear ho0); (try clear ho1)) | ((with_reducible refine gate_dst (N := 5) rfl ?_); refine box_event ?hg (N := 5) ?hd (cs := #[.slice none 0 0, .slice none 0 0]) (t := 71) ?hr ?_; (case hd => rfl); (case hg => rfl); (case hr => first | (go_simp; done) | (go_simp; rfl)); intro gb350 hg w13 hbox hb; have _ := Q_ (Kd.R_below (pr_ HO339.out) hb); have _ := Q_ (Kd.S_below (ps_ HO342.out) hb); have _ := Q_ (Kd.R_below (pr_ HO345.out) hb); have _ := Q_ (Kd.S_below (ps_ HO348.out) hb); have _ := Q_ (below_step (pb_ HB.out) hb); have BK350 := Q_ (hbox); have GW350 := Q_ ((by rw [hg]; exact (below_size (pb_ HB.out)) : w.heap.size ≤ gb350)); have GE350 := GW350; clear HO339 HO342 HO345 HO348 HB; rename_i HO339 HO342 HO345 HO348 HB; clear hb hbox hg; obtain ⟨Ao14, co14, eo14⟩ := Kd.R_slice HO345.out; subst eo14; have hcz15 := bc2_ BK350.out; obtain ⟨Ao16, co16, eo16⟩ := Kd.S_slice HO348.out; subst eo16))
 go_ret
 exact ⟨er_, pb1_ HB.out GE350.out⟩

end Go.Proofs.Ytlcpaebidnaolaa.Print
