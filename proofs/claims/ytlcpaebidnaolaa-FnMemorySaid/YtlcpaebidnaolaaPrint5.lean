-- Written by a program of this session (printx.py) out of the translation; Lean checks it.
import Derived.Test.YtlcpaebidnaolaaPrint0
import Derived.Test.YtlcpaebidnaolaaPrint3
import Derived.Test.YtlcpaebidnaolaaPrint4
namespace Go.Proofs.Ytlcpaebidnaolaa.Print
open Go.RowKit Go.Proofs.YtlcpaebidnaolaaW.PrintWords Go.Proofs.YtlcpaebidnaolaaW.PrintLast Go.Proofs.YtlcpaebidnaolaaW.PrintMore Go.Proofs.Ytlcpaebidnaolaa.Short
attribute [local go_sem] max2_int min2_int max_two min_two max_three min_three max_four min_four   -- for this text's walks alone
set_option linter.unusedVariables false
set_option maxHeartbeats 8000000
set_option maxRecDepth 100000
set_option linter.unusedSimpArgs false

/-! ### spec_PartHello: function 56 -/
mutual
def spec_PartHello.l0 : Nat → List Int → List Int → Int → List Int → List (S113) → List Int → Option (List Int × (List (S113)) × Bool)
 | 0, _, _, _, _, _, _ => none
 | k + 1, x1, x2, x9, x271000, x271001, x274000 => if x9 < (x271000.length : Int) then (if 0 ≤ x9 then ((spec_l9Has.f k x1 (rd x271000 x9)).bind fun t275 => (if t275 = true then (spec_PartHello.l0 k x1 x2 (wrap64 (x9 + 1)) x271000 x271001 x274000) else (if x274000.length < 17592186044416 then (spec_PartHello.l0 k x1 x2 (wrap64 (x9 + 1)) x271000 x271001 (x274000 ++ [rd x271000 x9])) else (none)))) else (none)) else (spec_PartHello.l1 k x2 0 x271000 x271001 x274000 ([] : List (S113)))
def spec_PartHello.l1 : Nat → List Int → Int → List Int → List (S113) → List Int → List (S113) → Option (List Int × (List (S113)) × Bool)
 | 0, _, _, _, _, _, _ => none
 | k + 1, x2, x10, x271000, x271001, x274000, x274001 => if x10 < (x271001.length : Int) then (if 0 ≤ x10 then ((spec_l9Has.f k x2 ((rd_T113 x271001 x10).f0)).bind fun t281 => (if t281 = true then (spec_PartHello.l1 k x2 (wrap64 (x10 + 1)) x271000 x271001 x274000 x274001) else ((some (([] : List Int) : List Int)).bind fun y283 => (if y283.length + ((rd_T113 x271001 x10).f1).length < 17592186044416 then (if x274001.length < 4398046511104 then (spec_PartHello.l1 k x2 (wrap64 (x10 + 1)) x271000 x271001 x274000 (x274001 ++ [(⟨(rd_T113 x271001 x10).f0, (y283 ++ ((rd_T113 x271001 x10).f1))⟩ : S113)])) else (none)) else (none))))) else (none)) else (if (x274000.length : Int) = 0 then (some (([] : List Int), ([] : List (S113)), false)) else (some (x274000, x274001, true)))
end
def spec_PartHello.f (k : Nat) (l0_0 : List Int) (l0_1 : List (S113)) (l1 : List Int) (l2 : List Int) : Option (List Int × (List (S113)) × Bool) := (spec_IsHello.f k l0_0 l0_1).bind fun t272 => (if t272 = true then (spec_PartHello.l0 k l1 l2 0 l0_0 l0_1 ([] : List Int)) else (some (([] : List Int), ([] : List (S113)), false)))
theorem spec_PartHello.mono_l : ∀ k, (∀ y0 y1 y2 y3 y4 y5, LeO (spec_PartHello.l0 k y0 y1 y2 y3 y4 y5) (spec_PartHello.l0 (k + 1) y0 y1 y2 y3 y4 y5)) ∧ (∀ y0 y1 y2 y3 y4 y5, LeO (spec_PartHello.l1 k y0 y1 y2 y3 y4 y5) (spec_PartHello.l1 (k + 1) y0 y1 y2 y3 y4 y5))
 | 0 => ⟨fun _ _ _ _ _ _ r h => by simp [spec_PartHello.l0] at h, fun _ _ _ _ _ _ r h => by simp [spec_PartHello.l1] at h⟩
 | k + 1 => by
  obtain ⟨ih0, ih1⟩ := spec_PartHello.mono_l k
  refine ⟨?_, ?_⟩
  ·intro y0 y1 y2 y3 y4 y5
   unfold spec_PartHello.l0
   exact mo4_ ih0 ih1 spec_IsHello.mono spec_l9Has.mono
  ·intro y0 y1 y2 y3 y4 y5
   unfold spec_PartHello.l1
   exact mo4_ ih0 ih1 spec_IsHello.mono spec_l9Has.mono
theorem spec_PartHello.mono : ∀ a0 a1 a2 a3 k, LeO (spec_PartHello.f k a0 a1 a2 a3) (spec_PartHello.f (k + 1) a0 a1 a2 a3) := by
 intro a0 a1 a2 a3 k
 obtain ⟨ih0, ih1⟩ := spec_PartHello.mono_l k
 unfold spec_PartHello.f
 exact mo4_ ih0 ih1 spec_IsHello.mono spec_l9Has.mono
def spec_PartHello.T8 : Bool × List (List Nat × List Nat) := (true, [([], []), ([0], [0]), ([], []), ([2], [2]), ([], []), ([3, 4], [3, 4]), ([5], [5]), ([6], [6]), ([1, 7], [1, 7]), ([0, 1, 2, 3, 4, 5, 6, 7, 8], []), ([9, 8, 8, 0, 1, 2, 3, 4, 5, 6, 7, 8], [8, 9])])
def spec_PartHello.B8 : List Nat := [0, 1, 0, 4, 0, 28, 60, 124, 255, 511, 1023]
theorem spec_PartHello.tab8 : rtab .any (opsOf Try.f56 8) = spec_PartHello.T8 := by kernel_rfl
theorem spec_PartHello.bits8 : waitsOk spec_PartHello.T8.2 spec_PartHello.B8 = true := by kernel_rfl
def spec_PartHello.T13 : Bool × List (List Nat × List Nat) := (true, [([], []), ([0], [0]), ([], []), ([2], [2]), ([], []), ([3, 4], [3, 4]), ([5], [5]), ([6], [6]), ([], []), ([], []), ([9], [9]), ([], []), ([10, 11], [10, 11]), ([12], [12]), ([13], [13]), ([8, 14], [8, 14]), ([7, 15], [7, 15]), ([16], [16]), ([1, 17, 15], [1, 17]), ([0, 1, 2, 3, 4, 5, 6, 7, 8, 9, 10, 11, 12, 13, 14, 15, 16, 17, 18], []), ([19, 18, 18, 0, 1, 2, 3, 4, 5, 6, 7, 8, 9, 10, 11, 12, 13, 14, 15, 16, 17, 18], [18, 19])])
def spec_PartHello.B13 : List Nat := [0, 1, 0, 4, 0, 28, 60, 124, 0, 0, 512, 0, 3584, 7680, 15872, 32512, 65532, 131068, 262143, 524287, 1048575]
theorem spec_PartHello.tab13 : rtab .any (opsOf Try.f56 13) = spec_PartHello.T13 := by kernel_rfl
theorem spec_PartHello.bits13 : waitsOk spec_PartHello.T13.2 spec_PartHello.B13 = true := by kernel_rfl
theorem spec_PartHello.calls (k : Nat) (A0_0 : Option Addr) (c0_0 : Nat) (l0_0 : List Int) (A0_1 : Option Addr) (c0_1 : Nat) (l0_1 : List (S113)) (A1 : Option Addr) (c1 : Nat) (l1 : List Int) (A2 : Option Addr) (c2 : Nat) (l2 : List Int) (r1 : List Int) (r2 : List (S113)) (r3 : Bool) (w : World) (hr0_0 : Kd.C (Kd.int .i64) w A0_0 l0_0.length l0_0) (hc0_0 : l0_0.length ≤ c0_0) (hr0_1 : Kd.C k113 w A0_1 l0_1.length l0_1) (hc0_1 : l0_1.length ≤ c0_1) (hr1 : Kd.C (Kd.int .i64) w A1 l1.length l1) (hc1 : l1.length ≤ c1) (hr2 : Kd.C (Kd.int .i64) w A2 l2.length l2) (hc2 : l2.length ≤ c2) (h : spec_PartHello.f k l0_0 l0_1 l1 l2 = some (r1, r2, r3)) :
  Calls Try.prog 56 #[.agg #[.slice A0_0 l0_0.length c0_0, .slice A0_1 l0_1.length c0_1], .slice A1 l1.length c1, .slice A2 l2.length c2] w fun e w' => ∃ v0_ v1_ : Value, e = .returned (.tuple #[.agg #[v0_, v1_], .bool r3]) ∧ Kd.R (Kd.int .i64) 3 w' w.heap.size (fun _ => True) v0_ r1 ∧ Kd.S k113 113 w' w.heap.size (fun k_ => some k_ ≠ (v0_ : Value).ownBlock) v1_ r2 ∧ Below w.heap.size w w' := by
 have hu71 := Try.underlying71
 have hu113 := Try.underlying113
 have HR0_0 := Q_ hr0_0
 have HC0_0 := Q_ hc0_0
 clear hr0_0 hc0_0
 have HR0_1 := Q_ hr0_1
 have HC0_1 := Q_ hc0_1
 clear hr0_1 hc0_1
 have HR1 := Q_ hr1
 have HC1 := Q_ hc1
 clear hr1 hc1
 have HR2 := Q_ hr2
 have HC2 := Q_ hc2
 clear hr2 hc2
 have HB := Q_ (Below.refl w.heap.size w)
 have H : ((spec_IsHello.f k l0_0 l0_1).bind fun t272 => (if t272 = true then (spec_PartHello.l0 k l1 l2 0 l0_0 l0_1 ([] : List Int)) else (some (([] : List Int), ([] : List (S113)), false)))) = some (r1, r2, r3) := h
 clear h
 have HS_ := Q_ H
 clear H
 go_enter Try.func56, Try.ntmps56
 go_upto_region 1 with (first | ((with_reducible refine gate_dst (N := 3) rfl ?_); refine box_event ?hg (N := 3) ?hd (cs := #[.slice A0_0 l0_0.length c0_0, .slice A0_1 l0_1.length c0_1]) (t := 71) ?hr ?_; (case hd => rfl); (case hg => rfl); (case hr => first | (go_simp; done) | (go_simp; rfl)); intro gb270 hg w4 hbox hb; have _ := Q_ (below_step (pb_ HB.out) hb); have BK270 := Q_ (hbox); have GW270 := Q_ ((by rw [hg]; exact (below_size (pb_ HB.out)) : w.heap.size ≤ gb270)); have GE270 := GW270; clear HB; rename_i HB; clear hb hbox hg) | ((with_reducible refine gate_dst (N := 6) rfl ?_); refine box_event ?hg (N := 6) ?hd (cs := #[.slice none 0 0, .slice none 0 0]) (t := 71) ?hr ?_; (case hd => rfl); (case hg => rfl); (case hr => first | (go_simp; done) | (go_simp; rfl)); intro gb271 hg w5 hbox hb; have _ := Q_ (bb_ BK270.out hb); have _ := Q_ (below_step (pb1_ HB.out GE270.out) hb); have BK271 := Q_ (hbox); have GW271 := Q_ ((by rw [hg]; exact (below_size (pb1_ HB.out GE270.out)) : w.heap.size ≤ gb271)); have GE271 := GW271; have NB270_271 := Q_ ((by rw [hg]; exact Nat.ne_of_lt (blk_lt (pk_ BK270.out)) : gb270 ≠ gb271)); have NB271_270 := Q_ NB270_271.out.symm; clear BK270 HB; rename_i BK270 HB; clear hb hbox hg))
 (try simp only [Act.put, List.setIfInBounds_toArray, List.set_cons_zero, List.set_cons_succ])
 have H := HS_.out
 clear HS_
 replace H := Option.bind_eq_some_iff.mp H
 obtain ⟨t272, A60, H⟩ := H
 (try dsimp only at H)
 have A6 := Q_ A60
 clear A60
 have HS_ := Q_ H
 clear H
 have hnb7 := NB270_271.out
 have hnc7 := NB271_270.out
 have hcz8 := bc2_ BK270.out
 go_upto_if 13 with (first | ((with_reducible refine gate_callee (f := 59) rfl ?_); refine gl_ (some 12) Try.func59 #[.agg #[.slice A0_0 l0_0.length c0_0, .slice A0_1 l0_1.length c0_1]] ?_; (with_reducible refine (spec_IsHello.calls k _ _ l0_0 _ _ l0_1 t272 _ ?side1 ?side2 ?side3 ?side4 A6.out).mono ?_); (case side1 => exact cb_ HR0_0 HB); (case side2 => exact HC0_0.out); (case side3 => exact cb_ HR0_1 HB); (case side4 => exact HC0_1.out); rintro e w9 ⟨rfl, hb⟩; refine ⟨_, rfl, ?_⟩; have _ := Q_ (bb_ BK270.out hb); have _ := Q_ (bb_ BK271.out hb); have _ := Q_ (below_step (pb2_ HB.out GE270.out GE271.out) hb); clear BK270 BK271 HB; rename_i BK270 BK271 HB; (try clear hb); (try clear hb2); (try clear hk); (try clear hi)))
 (try simp only [Act.put, List.setIfInBounds_toArray, List.set_cons_zero, List.set_cons_succ])
 have H := HS_.out
 clear HS_
 by_cases c10 : t272 = true
 rotate_left
 ·replace c10 := bf_ c10
  subst c10
  rw [if_neg ff_] at H
  simp only [Option.some.injEq, Prod.mk.injEq] at H
  obtain ⟨rfl, rfl, rfl⟩ := H
  have hnb11 := NB271_270.out
  have hnc11 := NB270_271.out
  have hcz12 := bc2_ BK271.out
  go_wp2
  refine bodyPost_ret (results_ct rfl _ _ gb271 71 #[.slice none 0 0, .slice none 0 0] (0, 0) _ rfl (pp_ BK271.out) Try.underlying71 rfl (by kernel_rfl)) rfl ?_
  exact ⟨_, _, er_, by first | exact Kd.R_nil _ _ _ _ _ | exact Kd.N_nil _ _ _ _ _ | exact Kd.V_nil _ _ _ _ _ | exact Kd.Q_nil _ _ _ _ _ | exact Kd.S_nil _ _ _ _ _, by first | exact Kd.S_nil _ _ _ _ _ | exact Kd.N_nil _ _ _ _ _ | exact Kd.V_nil _ _ _ _ _ | exact Kd.Q_nil _ _ _ _ _ | exact Kd.R_nil _ _ _ _ _, pb2_ HB.out GE270.out GE271.out⟩
 subst c10
 rw [if_pos rfl] at H
 have H' := Q_ H
 clear H
 go_wp2_with (first | ((with_reducible refine gate_dst (N := 8) rfl ?_); refine box_event ?hg (N := 8) ?hd (cs := #[.slice none 0 0, .slice none 0 0]) (t := 71) ?hr ?_; (case hd => rfl); (case hg => rfl); (case hr => first | (go_simp; done) | (go_simp; rfl)); intro gb273 hg w13 hbox hb; have _ := Q_ (bb_ BK270.out hb); have _ := Q_ (bb_ BK271.out hb); have _ := Q_ (below_step (pb2_ HB.out GE270.out GE271.out) hb); have BK273 := Q_ (hbox); have GW273 := Q_ ((by rw [hg]; exact (below_size (pb2_ HB.out GE270.out GE271.out)) : w.heap.size ≤ gb273)); have GE273 := GW273; have NB270_273 := Q_ ((by rw [hg]; exact Nat.ne_of_lt (blk_lt (pk_ BK270.out)) : gb270 ≠ gb273)); have NB273_270 := Q_ NB270_273.out.symm; have NB271_273 := Q_ ((by rw [hg]; exact Nat.ne_of_lt (blk_lt (pk_ BK271.out)) : gb271 ≠ gb273)); have NB273_271 := Q_ NB271_273.out.symm; clear BK270 BK271 HB; rename_i BK270 BK271 HB; clear hb hbox hg; have hnb14 := NB273_270.out; have hnc14 := NB270_273.out; have hnb15 := NB273_271.out; have hnc15 := NB271_273.out; have hcz16 := bc2_ BK273.out))
 (try simp only [Act.put, List.setIfInBounds_toArray, List.set_cons_zero, List.set_cons_succ])
 go_loopg [9] k (fun kq v9 w' => ∃ (x9_1 : Int) (x274000_1 : List Int) (u274000 : Value), v9 = .int .i64 x9_1 ∧ Aside0 (spec_PartHello.l0 kq l1 l2 x9_1 l0_0 l0_1 x274000_1 = some (r1, r2, r3)) ∧ Aside0 (kq ≤ k) ∧ Aside0 (Kd.R (Kd.int .i64) 3 w' w.heap.size (fun _ => True) u274000 x274000_1) ∧ Aside0 (w'.heap[gb270]? = some (.cells #[(.slice A0_0 l0_0.length c0_0), (.slice A0_1 l0_1.length c0_1)] 71 (0, 0))) ∧ Aside0 (w'.heap[gb271]? = some (.cells #[(.slice none 0 0), (.slice none 0 0)] 71 (0, 0))) ∧ Aside0 (w'.heap[gb273]? = some (.cells #[u274000, (.slice none 0 0)] 71 (0, 0))) ∧ Aside0 (Below w.heap.size w w'))
 case atStart => exact ⟨(0), (([] : List Int)), (.slice none 0 0), el_, H', ⟨Nat.le_refl _⟩, ⟨by first | exact Kd.R_nil _ _ _ _ _ | exact Kd.N_nil _ _ _ _ _ | exact Kd.V_nil _ _ _ _ _ | exact Kd.Q_nil _ _ _ _ _ | exact Kd.S_nil _ _ _ _ _⟩, ⟨pp_ BK270.out⟩, ⟨pp_ BK271.out⟩, ⟨pp_ BK273.out⟩, ⟨pb3_ HB.out GE270.out GE271.out GE273.out⟩⟩
 clear H'
 try clear c1
 try clear c2
 try clear p2
 try clear c5
 try clear c7
 try clear c10
 try clear c11
 try clear c14
 try clear c15
 try clear hcz12
 try clear hcz16
 try clear hcz8
 obtain ⟨x9_1, x274000_1, u274000, rfl, HA, HK1, HO_274000, BK270, BK271, BK273, HB⟩ := hrel
 rcases gk with _ | k1
 ·exact absurd HA.out (by simp [spec_PartHello.l0])
 have H := HA.out
 clear HA
 simp only [spec_PartHello.l0] at H
 by_cases c17 : x9_1 < (l0_0.length : Int)
 rotate_left
 ·rw [if_neg c17] at H
  have c17b0 : decide (x9_1 < (l0_0.length : Int)) = false := decide_eq_false c17
  clear c17
  (first | rw [c17b0] | (simp only [i64_w, i32_w]; rw [c17b0]) | skip)
  have H' := Q_ H
  clear H
  have hnb18 := NB270_271.out
  have hnc18 := NB271_270.out
  have hnb19 := NB270_273.out
  have hnc19 := NB273_270.out
  have hcz20 := bc2_ BK270.out
  go_wp2
  go_loopg [10] k1 (fun kq v10 w' => ∃ (x10_2 : Int) (x274001_2 : List (S113)) (u274001 : Value), v10 = .int .i64 x10_2 ∧ Aside0 (spec_PartHello.l1 kq l2 x10_2 l0_0 l0_1 x274000_1 x274001_2 = some (r1, r2, r3)) ∧ Aside0 (kq ≤ k1) ∧ Aside0 (Kd.R (Kd.int .i64) 3 w' w.heap.size (fun _ => True) u274000 x274000_1) ∧ Aside0 (Kd.S k113 113 w' w.heap.size (fun k_ => some k_ ≠ (u274000 : Value).ownBlock) u274001 x274001_2) ∧ Aside0 (w'.heap[gb270]? = some (.cells #[(.slice A0_0 l0_0.length c0_0), (.slice A0_1 l0_1.length c0_1)] 71 (0, 0))) ∧ Aside0 (w'.heap[gb271]? = some (.cells #[(.slice none 0 0), (.slice none 0 0)] 71 (0, 0))) ∧ Aside0 (w'.heap[gb273]? = some (.cells #[u274000, u274001] 71 (0, 0))) ∧ Aside0 (Below w.heap.size w w'))
  case atStart => exact ⟨(0), (([] : List (S113))), (.slice none 0 0), el_, H', ⟨Nat.le_refl _⟩, ⟨pr_ HO_274000.out⟩, ⟨by first | exact Kd.S_nil _ _ _ _ _ | exact Kd.N_nil _ _ _ _ _ | exact Kd.V_nil _ _ _ _ _ | exact Kd.Q_nil _ _ _ _ _ | exact Kd.R_nil _ _ _ _ _⟩, ⟨pk_ BK270.out⟩, ⟨pk_ BK271.out⟩, ⟨pk_ BK273.out⟩, ⟨pb3_ HB.out GE270.out GE271.out GE273.out⟩⟩
  clear H'
  try clear c1
  try clear c2
  try clear p2
  try clear c5
  try clear c7
  try clear c10
  try clear c11
  try clear c14
  try clear c15
  try clear c17
  try clear c17b0
  try clear c18
  try clear c19
  try clear hcz20
  try clear p2
  obtain ⟨x10_2, x274001_2, u274001, rfl, HA, HK2, HO_274000, HO_274001, BK270, BK271, BK273, HB⟩ := hrel
  rcases gk with _ | k2
  ·exact absurd HA.out (by simp [spec_PartHello.l1])
  have H := HA.out
  clear HA
  simp only [spec_PartHello.l1] at H
  by_cases c21 : x10_2 < (l0_1.length : Int)
  rotate_left
  ·rw [if_neg c21] at H
   have c21b0 : decide (x10_2 < (l0_1.length : Int)) = false := decide_eq_false c21
   clear c21
   by_cases c22 : (x274000_1.length : Int) = 0
   ·rw [if_pos c22] at H
    have c22b0 : ((x274000_1.length : Int) == 0) = true := beq_iff_eq.mpr c22
    have c22b1 : ((x274000_1.length : Int) != 0) = false := bne_eq_false_iff_eq.mpr c22
    clear c22
    simp only [Option.some.injEq, Prod.mk.injEq] at H
    obtain ⟨rfl, rfl, rfl⟩ := H
    have hnb23 := NB270_271.out
    have hnc23 := NB271_270.out
    have hnb24 := NB270_273.out
    have hnc24 := NB273_270.out
    have hcz25 := bc2_ BK270.out
    have hnb26 := NB273_271.out
    have hnc26 := NB271_273.out
    have hcz27 := bc2_ BK273.out
    obtain ⟨Ao28, co28, eo28⟩ := Kd.R_slice HO_274000.out
    subst eo28
    have hcz29 := bc2_ BK271.out
    go_wp2
    refine bodyPost_ret (results_ct rfl _ _ gb271 71 #[.slice none 0 0, .slice none 0 0] (0, 0) _ rfl (pp_ BK271.out) Try.underlying71 rfl (by kernel_rfl)) rfl ?_
    exact ⟨_, _, er_, by first | exact Kd.R_nil _ _ _ _ _ | exact Kd.N_nil _ _ _ _ _ | exact Kd.V_nil _ _ _ _ _ | exact Kd.Q_nil _ _ _ _ _ | exact Kd.S_nil _ _ _ _ _, by first | exact Kd.S_nil _ _ _ _ _ | exact Kd.N_nil _ _ _ _ _ | exact Kd.V_nil _ _ _ _ _ | exact Kd.Q_nil _ _ _ _ _ | exact Kd.R_nil _ _ _ _ _, pb3_ HB.out GE270.out GE271.out GE273.out⟩
   rw [if_neg c22] at H
   have c22b0 : ((x274000_1.length : Int) == 0) = false := beq_eq_false_iff_ne.mpr c22
   have c22b1 : ((x274000_1.length : Int) != 0) = true := bne_iff_ne.mpr c22
   have c22b2 : ¬ (x274000_1 = []) := fun h_ => c22 (by rw [h_]; rfl)
   simp only [Option.some.injEq, Prod.mk.injEq] at H
   obtain ⟨rfl, rfl, rfl⟩ := H
   have hnb30 := NB270_271.out
   have hnc30 := NB271_270.out
   have hnb31 := NB270_273.out
   have hnc31 := NB273_270.out
   have hcz32 := bc2_ BK270.out
   have hnb33 := NB273_271.out
   have hnc33 := NB271_273.out
   have hcz34 := bc2_ BK273.out
   obtain ⟨Ao35, co35, eo35⟩ := Kd.R_slice HO_274000.out
   subst eo35
   have hcz36 := bc2_ BK271.out
   obtain ⟨Ao37, co37, eo37⟩ := Kd.S_slice HO_274001.out
   subst eo37
   go_wp2
   refine bodyPost_ret (results_ct rfl _ _ gb271 71 #[.slice Ao35 x274000_1.length co35, .slice Ao37 x274001_2.length co37] (0, 0) _ rfl (pp_ BK271.out) Try.underlying71 rfl (by kernel_rfl)) rfl ?_
   exact ⟨_, _, er_, pr_ (Kd.R_mono (rf2_ HO_274000.out BK271.out) (fun _ hk => trivial)), ps_ (sf2_ HO_274001.out BK271.out), pb3_ HB.out GE270.out GE271.out GE273.out⟩
  rw [if_pos c21] at H
  have c21b0 : decide (x10_2 < (l0_1.length : Int)) = true := decide_eq_true c21
  clear c21
  by_cases c38 : 0 ≤ x10_2
  rotate_left
  ·rw [if_neg c38] at H
   exact absurd H (by simp)
  rw [if_pos c38] at H
  have c38b0 : decide (0 ≤ x10_2) = true := decide_eq_true c38
  clear c38
  replace H := Option.bind_eq_some_iff.mp H
  obtain ⟨t281, A390, H⟩ := H
  (try dsimp only at H)
  have A39 := Q_ A390
  clear A390
  have HS_ := Q_ H
  clear H
  have hnb40 := NB270_271.out
  have hnc40 := NB271_270.out
  have hnb41 := NB270_273.out
  have hnc41 := NB273_270.out
  have hcz42 := bc2_ BK270.out
  have p280 : 0 ≤ (x10_2 : Int) := dt_
  have q280 : x10_2 < (l0_1.length : Int) := dt_
  obtain ⟨ad280, A280_1, c280_1, e280, hx280_0, hx280_1, hl280_1, hi280_1⟩ := at_T113 HR0_1.out x10_2 p280 q280
  cases e280
  replace hx280_0 := bt_ HB hx280_0
  replace hx280_1 := bt_ HB hx280_1
  have HR280_1 := Q_ hi280_1
  have HC280_1 := Q_ hl280_1
  clear hi280_1 hl280_1
  replace p280 := eq_true p280
  replace q280 := eq_true q280
  go_upto_if 56 with (first | ((with_reducible refine gate_callee (f := 74) rfl ?_); refine gl_ (some 55) Try.func74 #[.slice A2 l2.length c2, .int .i64 ((rd_T113 l0_1 x10_2).f0)] ?_; (with_reducible refine (spec_l9Has.calls k2 _ _ l2 ((rd_T113 l0_1 x10_2).f0) t281 _ ?side1 ?side2 A39.out).mono ?_); (case side1 => exact cb_ HR2 HB); (case side2 => exact HC2.out); rintro e w' ⟨rfl, ⟨nd, rfl⟩⟩; refine ⟨_, rfl, ?_⟩))
  (try simp only [Act.put, List.setIfInBounds_toArray, List.set_cons_zero, List.set_cons_succ])
  have H := HS_.out
  clear HS_
  by_cases c43 : t281 = true
  ·subst c43
   rw [if_pos rfl] at H
   have H' := Q_ H
   clear H
   go_wp2
   go_roundg k2
   case measure => have := HK1.out; have := HK2.out; omega
   case rel => exact ⟨(wrap64 (x10_2 + 1)), (x274001_2), (u274001), el_, H', ⟨by have := HK1.out; have := HK2.out; omega⟩, ⟨pr_ HO_274000.out⟩, ⟨ps_ HO_274001.out⟩, ⟨pk_ BK270.out⟩, ⟨pk_ BK271.out⟩, ⟨pk_ BK273.out⟩, ⟨pb3_ HB.out GE270.out GE271.out GE273.out⟩⟩
  replace c43 := bf_ c43
  subst c43
  rw [if_neg ff_] at H
  obtain ⟨y283, hy283⟩ : ∃ y_ : List Int, y_ = (([] : List Int)) := ⟨_, rfl⟩
  replace H : (if y283.length + ((rd_T113 l0_1 x10_2).f1).length < 17592186044416 then (if x274001_2.length < 4398046511104 then (spec_PartHello.l1 k2 l2 (wrap64 (x10_2 + 1)) l0_0 l0_1 x274000_1 (x274001_2 ++ [(⟨(rd_T113 l0_1 x10_2).f0, (y283 ++ ((rd_T113 l0_1 x10_2).f1))⟩ : S113)])) else (none)) else (none)) = some (r1, r2, r3) := hb_ hy283 H
  have Ny283 := Q_ hy283
  clear hy283
  by_cases c44 : y283.length + ((rd_T113 l0_1 x10_2).f1).length < 17592186044416
  rotate_left
  ·rw [if_neg c44] at H
   exact absurd H (by simp)
  rw [if_pos c44] at H
  have LMc44 := Q_ c44
  clear c44
  obtain ⟨y287, hy287⟩ : ∃ y_ : List Int, y_ = (y283 ++ ((rd_T113 l0_1 x10_2).f1)) := ⟨_, rfl⟩
  replace H : (if x274001_2.length < 4398046511104 then (spec_PartHello.l1 k2 l2 (wrap64 (x10_2 + 1)) l0_0 l0_1 x274000_1 (x274001_2 ++ [(⟨(rd_T113 l0_1 x10_2).f0, y287⟩ : S113)])) else (none)) = some (r1, r2, r3) := hb_ hy287 H
  have Ny287 := Q_ hy287
  clear hy287
  by_cases c45 : x274001_2.length < 4398046511104
  rotate_left
  ·rw [if_neg c45] at H
   exact absurd H (by simp)
  rw [if_pos c45] at H
  have LMc45 := Q_ c45
  clear c45
  obtain ⟨y290, hy290⟩ : ∃ y_ : List (S113), y_ = (x274001_2 ++ [(⟨(rd_T113 l0_1 x10_2).f0, y287⟩ : S113)]) := ⟨_, rfl⟩
  replace H : (spec_PartHello.l1 k2 l2 (wrap64 (x10_2 + 1)) l0_0 l0_1 x274000_1 y290) = some (r1, r2, r3) := hb_ hy290 H
  have Ny290 := Q_ hy290
  clear hy290
  have H' := Q_ H
  clear H
  try go_wp2
  (try (rw [drewN_self wr]; generalize hq_ : World.drewN wr _ = wr; have n0_ : Aside0 (Kd.R (Kd.int .i64) 3 wr w.heap.size (fun _ => True) u274000 x274000_1) := ⟨by rw [← hq_]; exact (pr_ HO_274000.out)⟩; have n1_ : Aside0 (Kd.S k113 113 wr w.heap.size (fun k_ => some k_ ≠ (u274000 : Value).ownBlock) u274001 x274001_2) := ⟨by rw [← hq_]; exact (ps_ HO_274001.out)⟩; have n2_ : Aside0 (wr.heap[gb270]? = some (.cells #[.slice A0_0 l0_0.length c0_0, .slice (some ad280) l0_1.length c0_1] 71 (0, 0))) := ⟨by rw [← hq_]; exact (pk_ BK270.out)⟩; have n3_ : Aside0 (wr.heap[gb271]? = some (.cells #[.slice none 0 0, .slice none 0 0] 71 (0, 0))) := ⟨by rw [← hq_]; exact (pk_ BK271.out)⟩; have n4_ : Aside0 (wr.heap[gb273]? = some (.cells #[u274000, u274001] 71 (0, 0))) := ⟨by rw [← hq_]; exact (pk_ BK273.out)⟩; have n5_ : Aside0 (Below w.heap.size w wr) := ⟨by rw [← hq_]; exact (pb3_ HB.out GE270.out GE271.out GE273.out)⟩; clear HO_274000 HO_274001 BK270 BK271 BK273 HB hq_; have HO_274000 := n0_; have HO_274001 := n1_; have BK270 := n2_; have BK271 := n3_; have BK273 := n4_; have HB := n5_; clear n0_ n1_ n2_ n3_ n4_ n5_))
  have _ := Q_ (Kd.R_drew HO_274000.out)
  have _ := Q_ (Kd.S_drew HO_274001.out)
  have _ := Q_ (blk_drew BK270.out)
  have _ := Q_ (blk_drew BK271.out)
  have _ := Q_ (blk_drew BK273.out)
  have _ := Q_ (below_drew1 HB.out)
  clear HO_274000 HO_274001 BK270 BK271 BK273 HB
  rename_i HO_274000 HO_274001 BK270 BK271 BK273 HB
  have p282 : 0 ≤ (x10_2 : Int) := dt_
  have q282 : x10_2 < (l0_1.length : Int) := dt_
  obtain ⟨ad282, A282_1, c282_1, e282, hx282_0, hx282_1, hl282_1, hi282_1⟩ := at_T113 HR0_1.out x10_2 p282 q282
  have hw282_1 := hx282_1
  have hw282_0 := hx282_0
  obtain rfl : ad280 = ad282 := (by injection e282)
  replace hx282_0 := bt_ HB hx282_0
  replace hx282_1 := bt_ HB hx282_1
  have HR282_1 := Q_ hi282_1
  have HC282_1 := Q_ hl282_1
  clear hi282_1 hl282_1
  replace p282 := eq_true p282
  replace q282 := eq_true q282
  have p286 : 0 ≤ (x10_2 : Int) := dt_
  have q286 : x10_2 < (l0_1.length : Int) := dt_
  obtain ⟨ad286, A286_1, c286_1, e286, hx286_0, hx286_1, hl286_1, hi286_1⟩ := at_T113 HR0_1.out x10_2 p286 q286
  have hw286_1 := hx286_1
  have hw286_0 := hx286_0
  obtain rfl : ad280 = ad286 := (by injection e286)
  replace hx286_0 := bt_ HB hx286_0
  replace hx286_1 := bt_ HB hx286_1
  have HR286_1 := Q_ hi286_1
  have HC286_1 := Q_ hl286_1
  clear hi286_1 hl286_1
  replace p286 := eq_true p286
  replace q286 := eq_true q286
  have ea_ := Option.some.inj (hx282_1.symm.trans hx286_1)
  injection ea_ with ea_ en_ ec_
  subst ea_
  subst ec_
  clear en_
  refine start_ (n := 21) (S := fun w' => w'.cell? ⟨gb273, 0, none⟩ = some (u274000) ∧ w'.cell? ⟨gb273, 1, none⟩ = some (u274001) ∧ w'.cell? ⟨gb270, 0, none⟩ = some (.slice A0_0 l0_0.length c0_0) ∧ w'.cell? ⟨gb270, 1, none⟩ = some (.slice (some ad280) l0_1.length c0_1) ∧ w'.cell? (ad280.add ((x10_2).toNat * 2)) = some (.int .i64 ((rd_T113 l0_1 x10_2).f0)) ∧ w'.cell? ⟨(ad280.add ((x10_2).toNat * 2)).block, (ad280.add ((x10_2).toNat * 2)).off + 1, none⟩ = some (.slice A282_1 ((rd_T113 l0_1 x10_2).f1).length c282_1) ∧ w'.cell? (ad280.add ((x10_2).toNat * 2)) = some (.int .i64 ((rd_T113 l0_1 x10_2).f0)) ∧ w'.cell? ⟨(ad280.add ((x10_2).toNat * 2)).block, (ad280.add ((x10_2).toNat * 2)).off + 1, none⟩ = some (.slice A282_1 ((rd_T113 l0_1 x10_2).f1).length c282_1)) (ds := [20]) #[false, false, false, false, false, false, false, false, false, false, false, false, false, false, false, false, false, false, false, false, false] (by kernel_rfl) rfl rfl ⟨(blk_cell BK273.out 0).trans rfl, (blk_cell BK273.out 1).trans rfl, (blk_cell BK270.out 0).trans rfl, (blk_cell BK270.out 1).trans rfl, (bt_ HB hw282_0), (bt_ HB hw282_1), (bt_ HB hw286_0), (bt_ HB hw286_1)⟩ (fun hHeld => ?_); refine with_tabW spec_PartHello.tab13 spec_PartHello.bits13 (fun HT_ HW_ => ?_)
  generalize wr.drew = w46 at HO_274000 HO_274001 BK270 BK271 BK273 HB HR282_1 HR286_1 hx282_0 hx282_1 hx286_0 hx286_1 hHeld ⊢
  refine pu_ 0 (some 57) (tf_ 1 21) HT_ ?_
  refine pu_ 2 (some 59) (tm_ 21 5) HT_ ?_
  refine pu_ 4 (some 61) (tm_ 21 21) HT_ ?_
  refine pu_ 9 (some 66) (tm_ 21 533) HT_ ?_
  refine pu_ 11 (some 68) (tm_ 21 2581) HT_ ?_
  refine ta_ 1 (some 58) (tm_ 21 2583) HT_ HW_ hHeld ?_
  refine ta_ 3 (some 60) (tm_ 21 2591) HT_ HW_ hHeld ?_
  refine pu_ 5 (some 62) (tm_ 21 2623) HT_ ?_
  refine pu_ 6 (some 63) (tm_ 21 2687) HT_ ?_
  refine ta_ 7 (some 64) (tm_ 21 2815) HT_ HW_ hHeld ?_
  refine ta_ 10 (some 67) (tm_ 21 3839) HT_ HW_ hHeld ?_
  refine pu_ 12 (some 69) (tm_ 21 7935) HT_ ?_
  refine pu_ 13 (some 70) (tm_ 21 16127) HT_ ?_
  refine ta_ 14 (some 71) (tm_ 21 32511) HT_ HW_ hHeld ?_
  refine on_ 8 (some 65) (tf_ 15 21) HT_ (fun K hK => ?_)
  refine Kd.R_lit_step (Kd.int .i64) _ 3 ?hg (N := 65) ?hd (xs := ([] : List Int)) (inner := []) (ok := fun _ => True) (okp := fun _ => True) ?hr ?hp (fun _ hk => hk) trivial (Below.refl _ _) (Nat.le_refl _) (by simp) ?_; (case hd => rfl); (case hg => rfl); (case hr => first | (go_simp; done) | (go_simp; rfl)); (case hp => exact (Reps.none _ _))
  intro v284 w47 ho48 hb hg_ hnew_
  clear hg_ hnew_
  (first | rw [← Ny283.out] at ho48 | (simp only [Int.reduceToNat] at ho48; rw [← Ny283.out] at ho48))
  have _ := Q_ (Kd.R_elder' (pr_ HO_274000.out) (Kd.R_base ho48) hb)
  have _ := Q_ (Kd.S_elder' (ps_ HO_274001.out) (Kd.R_base ho48) hb)
  have _ := Q_ (Kd.R_lower (Kd.R_new' ho48 (Kd.R_lt (pr_ HO_274000.out))) (below_size (pb3_ HB.out GE270.out GE271.out GE273.out)))
  have _ := Q_ (bb_ BK270.out hb)
  have _ := Q_ (bb_ BK271.out hb)
  have _ := Q_ (bb_ BK273.out hb)
  have _ := Q_ (below_step (pb3_ HB.out GE270.out GE271.out GE273.out) hb)
  clear HO_274000 HO_274001 BK270 BK271 BK273 HB
  rename_i HO_274000 HO_274001 HO285 BK270 BK271 BK273 HB
  clear hb ho48
  refine hK.out _ _ ⟨(blk_cell BK273.out 0).trans rfl, (blk_cell BK273.out 1).trans rfl, (blk_cell BK270.out 0).trans rfl, (blk_cell BK270.out 1).trans rfl, (bt_ HB hw282_0), (bt_ HB hw282_1), (bt_ HB hw286_0), (bt_ HB hw286_1)⟩ (fun hHeld => ?_)
  clear hK K
  refine no_ (some 65) ?_
  refine on_ 15 (some 72) (tf_ 16 21) HT_ (fun K hK => ?_)
  refine Kd.R_append_rows_step (Kd.int .i64) (w0 := w) w.heap.size (by rfl) (.tmp 65) (.tmp 71) 25 3 (.int .i64 0) 8 rfl Try.underlying25 info3 rfl (by decide) (by omega) v284 y283 ((rd_T113 l0_1 x10_2).f1) _ _ _ (fun k_ => some k_ ≠ (u274000 : Value).ownBlock) (fun _ => False) rfl rfl ?aO ?aR (fun _ _ h => h) (fun _ h => h.elim) ?aF ?aB ?aS ?aL ?_
  (case aR => exact cb_ HR286_1 HB)
  (case aB => exact (pb3_ HB.out GE270.out GE271.out GE273.out))
  (case aF => exact (fun k_ hk => Kd.fresh' (Kd.R_lt (pr_ HO_274000.out)) k_ hk))
  (case aO => exact (pr_ (Kd.R_mono HO285.out (fun _ hk => hk.2))))
  (case aS => exact (below_size (pb3_ HB.out GE270.out GE271.out GE273.out)))
  (case aL => have := LMc44.out; omega)
  intro v288 w49 ho hb hg hat
  rw [← Ny287.out] at ho
  have _ := Q_ (Kd.R_after (ok := (fun _ => True)) (pr_ HO_274000.out) hg hat)
  have _ := Q_ (Kd.S_after (ok := (fun k_ => some k_ ≠ (u274000 : Value).ownBlock)) (ps_ HO_274001.out) hg hat)
  have _ := Q_ (blk_grown (g := gb270) (o := .cells #[.slice A0_0 l0_0.length c0_0, .slice (some ad280) l0_1.length c0_1] 71 (0, 0)) (pk_ BK270.out) hg (Kd.R_ne HO285.out BK270.out (by decide)))
  have _ := Q_ (blk_grown (g := gb271) (o := .cells #[.slice none 0 0, .slice none 0 0] 71 (0, 0)) (pk_ BK271.out) hg (Kd.R_ne HO285.out BK271.out (by decide)))
  have _ := Q_ (blk_grown (g := gb273) (o := .cells #[u274000, u274001] 71 (0, 0)) (pk_ BK273.out) hg (Kd.R_ne HO285.out BK273.out (by decide)))
  have _ := Q_ (hb)
  have _ := Q_ (ho)
  clear HO_274000 HO_274001 BK270 BK271 BK273 HB HO285
  rename_i HO_274000 HO_274001 BK270 BK271 BK273 HB HO289
  clear ho hb hg hat
  obtain ⟨Ao50, co50, eo50⟩ := Kd.R_slice HO289.out
  (first | subst eo50 | (injection eo50 with f1_ f2_ f3_; have f4_ := f1_.symm; have f5_ := f3_.symm; clear f1_ f2_ f3_; subst f4_; subst f5_))
  refine hK.out _ _ ⟨(blk_cell BK273.out 0).trans rfl, (blk_cell BK273.out 1).trans rfl, (blk_cell BK270.out 0).trans rfl, (blk_cell BK270.out 1).trans rfl, (bt_ HB hw282_0), (bt_ HB hw282_1), (bt_ HB hw286_0), (bt_ HB hw286_1)⟩ (fun hHeld => ?_)
  clear hK K
  refine no_ (some 72) ?_
  refine pu_ 16 (some 73) (tf_ 17 21) HT_ ?_
  refine on_ 17 (some 74) (tf_ 18 21) HT_ (fun K hK => ?_)
  refine value_ (w1 := ?_) (v := ?_) (by rfl) rfl ?_ ?_
  rotate_left 2
  ·go_simp
   constructor
   ·rfl
   ·rfl
  refine hK.out _ _ ⟨(blk_cell (blk_alloc BK273.out _) 0).trans rfl, (blk_cell (blk_alloc BK273.out _) 1).trans rfl, (blk_cell (blk_alloc BK270.out _) 0).trans rfl, (blk_cell (blk_alloc BK270.out _) 1).trans rfl, (World.cell?_alloc_lt _ _ _ (World.block_lt_of_cell? _ _ ((bt_ HB hw282_0)))).trans ((bt_ HB hw282_0)), (World.cell?_alloc_lt _ _ _ (World.block_lt_of_cell? _ _ ((bt_ HB hw282_1)))).trans ((bt_ HB hw282_1)), (World.cell?_alloc_lt _ _ _ (World.block_lt_of_cell? _ _ ((bt_ HB hw286_0)))).trans ((bt_ HB hw286_0)), (World.cell?_alloc_lt _ _ _ (World.block_lt_of_cell? _ _ ((bt_ HB hw286_1)))).trans ((bt_ HB hw286_1))⟩ (fun hHeld => ?_)
  clear hK K
  refine no_ (some 74) ?_
  refine on_ 18 (some 75) (tf_ 19 21) HT_ (fun K hK => ?_)
  refine Kd.S_append_step k113 (w0 := w) w.heap.size (by rfl) (.tmp 58) (.tmp 74) 69 113 (.agg #[(.int .i64 0), (.slice none 0 0)]) 32 rfl Try.underlying69 info113 rfl (by decide) (by omega) u274001 x274001_2 (⟨(rd_T113 l0_1 x10_2).f0, y287⟩ : S113) [.int .i64 ((rd_T113 l0_1 x10_2).f0), .slice Ao50 y287.length co50] (fun k_ => some k_ ≠ (u274000 : Value).ownBlock) (fun k_ => some k_ = (.slice Ao50 y287.length co50 : Value).ownBlock) rfl rfl ?aP (fun k_ hk_ => ((Kd.R_mono (ok' := fun k_ => ((fun k_ => some k_ ≠ (u274000 : Value).ownBlock)) k_ ∧ some k_ ≠ (u274001 : Value).ownBlock) (Kd.R_apart' (HO289.out) (Kd.S_typed HO_274001.out) (by decide)) (fun k_ hk => ⟨hk.1, hk.2⟩))).1 k_ hk_.symm) ?aF ?aO ?aB ?aS ?aL ?_
  (case aP => exact k113_mkM _ _ _ (⟨(rd_T113 l0_1 x10_2).f0, y287⟩ : S113) (Kd.R_mono (Kd.R_tight rfl (Kd.R_mono (ok' := fun k_ => ((fun k_ => some k_ ≠ (u274000 : Value).ownBlock)) k_ ∧ some k_ ≠ (u274001 : Value).ownBlock) (Kd.R_apart' (HO289.out) (Kd.S_typed HO_274001.out) (by decide)) (fun k_ hk => ⟨hk.1, hk.2⟩))) (fun _ h_ => h_)))
  (case aB => exact (pb3_ HB.out GE270.out GE271.out GE273.out))
  (case aF => exact (fun k_ hk => Kd.fresh' (Kd.R_lt (pr_ HO_274000.out)) k_ hk))
  (case aO => exact (by (with_reducible repeat (first | apply Kd.S_alloc | apply Kd.S_drewN | apply Kd.S_drew)); exact Kd.S_mono HO_274001.out (fun k_ hk => ⟨hk.1, fun e_ => hk.2 e_⟩)))
  (case aS => exact (below_size (pb3_ HB.out GE270.out GE271.out GE273.out)))
  (case aL => have := LMc45.out; omega)
  intro v291 w51 ho hb hg hat
  rw [← Ny290.out] at ho
  have _ := Q_ (Kd.R_over' (pr_ HO_274000.out) (Kd.S_typed (ps_ HO_274001.out)) (by decide) hg)
  have _ := Q_ (blk_grown (g := gb270) (o := .cells #[.slice A0_0 l0_0.length c0_0, .slice (some ad280) l0_1.length c0_1] 71 (0, 0)) (pk_ BK270.out) hg (Kd.S_ne HO_274001.out BK270.out (by decide)))
  have _ := Q_ (blk_grown (g := gb271) (o := .cells #[.slice none 0 0, .slice none 0 0] 71 (0, 0)) (pk_ BK271.out) hg (Kd.S_ne HO_274001.out BK271.out (by decide)))
  have _ := Q_ (blk_grown (g := gb273) (o := .cells #[u274000, u274001] 71 (0, 0)) (pk_ BK273.out) hg (Kd.S_ne HO_274001.out BK273.out (by decide)))
  have _ := Q_ (hb)
  have _ := Q_ (ho)
  clear HO_274000 BK270 BK271 BK273 HB HO_274001 HO289
  rename_i HO_274000 BK270 BK271 BK273 HB HO292
  clear ho hb hg hat
  obtain ⟨Ao52, co52, eo52⟩ := Kd.S_slice HO292.out
  (first | subst eo52 | (injection eo52 with f1_ f2_ f3_; have f4_ := f1_.symm; have f5_ := f3_.symm; clear f1_ f2_ f3_; subst f4_; subst f5_))
  refine hK.out _ _ ⟨(blk_cell BK273.out 0).trans rfl, (blk_cell BK273.out 1).trans rfl, (blk_cell BK270.out 0).trans rfl, (blk_cell BK270.out 1).trans rfl, (bt_ HB hw282_0), (bt_ HB hw282_1), (bt_ HB hw286_0), (bt_ HB hw286_1)⟩ (fun hHeld => ?_)
  clear hK K
  refine no_ (some 75) ?_
  refine pu_ 19 (some 76) (tf_ 20 21) HT_ ?_
  refine last_ (i := 20) (N := none) #[true, true, true, true, true, true, true, true, true, true, true, true, true, true, true, true, true, true, true, true, true] rfl rfl (one_of HT_.out (by kernel_rfl)) (by decide) (fun K hK => ?_)
  have hs53 : w51.cell? ⟨gb273, 1, none⟩ = some (u274001) := (blk_cell BK273.out 1).trans rfl
  have hfs53 := blk_frozen BK273.out 1
  have hns53_0 := NB270_273.out
  have hns53_1 := NB271_273.out
  have hms53_0 := NB273_270.out
  have hms53_1 := NB273_271.out
  refine skip_ (w1 := ?_) (by rfl) rfl ?_ ?_
  rotate_left
  ·go_simp
   rfl
  refine hK.out _ _ ?_
  clear hK K
  refine done_ (done_of HT_.out (by kernel_rfl)) ?_
  try go_wp2
  go_roundg k2
  case measure => have := HK1.out; have := HK2.out; omega
  case rel => exact ⟨(wrap64 (x10_2 + 1)), (y290), (.slice Ao52 y290.length co52), el_, H', ⟨by have := HK1.out; have := HK2.out; omega⟩, ⟨pr_ (Kd.R_mono (Kd.R_far (p := ⟨gb273, 1, none⟩) (Kd.R_types HO_274000.out BK273.out (by decide)) (fun _ hk => hk.2) (.slice Ao52 y290.length co52)) (fun _ hk => trivial))⟩, ⟨ps_ (Kd.S_mono (Kd.S_far (p := ⟨gb273, 1, none⟩) (Kd.S_types HO292.out BK273.out (by decide)) (fun _ hk => hk.2) (.slice Ao52 y290.length co52)) (fun _ hk => hk.1))⟩, ⟨pp_ BK270.out⟩, ⟨pp_ BK271.out⟩, ⟨pp_ BK273.out⟩, ⟨pb3_ HB.out GE270.out GE271.out GE273.out⟩⟩
 rw [if_pos c17] at H
 have c17b0 : decide (x9_1 < (l0_0.length : Int)) = true := decide_eq_true c17
 clear c17
 (first | rw [c17b0] | (simp only [i64_w, i32_w]; rw [c17b0]) | skip)
 by_cases c54 : 0 ≤ x9_1
 rotate_left
 ·rw [if_neg c54] at H
  exact absurd H (by simp)
 rw [if_pos c54] at H
 have c54b0 : decide (0 ≤ x9_1) = true := decide_eq_true c54
 clear c54
 replace H := Option.bind_eq_some_iff.mp H
 obtain ⟨t275, A550, H⟩ := H
 (try dsimp only at H)
 have A55 := Q_ A550
 clear A550
 have HS_ := Q_ H
 clear H
 have hnb56 := NB270_271.out
 have hnc56 := NB271_270.out
 have hnb57 := NB270_273.out
 have hnc57 := NB273_270.out
 have hcz58 := bc2_ BK270.out
 have p274 : 0 ≤ (x9_1 : Int) := dt_
 have q274 : x9_1 < (l0_0.length : Int) := dt_
 obtain ⟨ad274, e274, hx274_0⟩ := Kd.at_int HR0_0.out x9_1 p274 q274
 cases e274
 replace hx274_0 := bt_ HB hx274_0
 replace p274 := eq_true p274
 replace q274 := eq_true q274
 go_upto_if 30 with (first | ((with_reducible refine gate_callee (f := 74) rfl ?_); refine gl_ (some 29) Try.func74 #[.slice A1 l1.length c1, .int .i64 (rd l0_0 x9_1)] ?_; (with_reducible refine (spec_l9Has.calls k1 _ _ l1 (rd l0_0 x9_1) t275 _ ?side1 ?side2 A55.out).mono ?_); (case side1 => exact cb_ HR1 HB); (case side2 => exact HC1.out); rintro e w' ⟨rfl, ⟨nd, rfl⟩⟩; refine ⟨_, rfl, ?_⟩))
 (try simp only [Act.put, List.setIfInBounds_toArray, List.set_cons_zero, List.set_cons_succ])
 have H := HS_.out
 clear HS_
 by_cases c59 : t275 = true
 ·subst c59
  rw [if_pos rfl] at H
  have H' := Q_ H
  clear H
  go_wp2
  go_roundg k1
  case measure => have := HK1.out; omega
  case rel => exact ⟨(wrap64 (x9_1 + 1)), (x274000_1), (u274000), el_, H', ⟨by have := HK1.out; omega⟩, ⟨pr_ HO_274000.out⟩, ⟨pk_ BK270.out⟩, ⟨pk_ BK271.out⟩, ⟨pk_ BK273.out⟩, ⟨pb3_ HB.out GE270.out GE271.out GE273.out⟩⟩
 replace c59 := bf_ c59
 subst c59
 rw [if_neg ff_] at H
 by_cases c60 : x274000_1.length < 17592186044416
 rotate_left
 ·rw [if_neg c60] at H
  exact absurd H (by simp)
 rw [if_pos c60] at H
 have LMc60 := Q_ c60
 clear c60
 obtain ⟨y277, hy277⟩ : ∃ y_ : List Int, y_ = (x274000_1 ++ [rd l0_0 x9_1]) := ⟨_, rfl⟩
 replace H : (spec_PartHello.l0 k1 l1 l2 (wrap64 (x9_1 + 1)) l0_0 l0_1 y277) = some (r1, r2, r3) := hb_ hy277 H
 have Ny277 := Q_ hy277
 clear hy277
 have H' := Q_ H
 clear H
 try go_wp2
 (try (rw [drewN_self wr]; generalize hq_ : World.drewN wr _ = wr; have n0_ : Aside0 (Kd.R (Kd.int .i64) 3 wr w.heap.size (fun _ => True) u274000 x274000_1) := ⟨by rw [← hq_]; exact (pr_ HO_274000.out)⟩; have n1_ : Aside0 (wr.heap[gb270]? = some (.cells #[.slice (some ad274) l0_0.length c0_0, .slice A0_1 l0_1.length c0_1] 71 (0, 0))) := ⟨by rw [← hq_]; exact (pk_ BK270.out)⟩; have n2_ : Aside0 (wr.heap[gb271]? = some (.cells #[.slice none 0 0, .slice none 0 0] 71 (0, 0))) := ⟨by rw [← hq_]; exact (pk_ BK271.out)⟩; have n3_ : Aside0 (wr.heap[gb273]? = some (.cells #[u274000, .slice none 0 0] 71 (0, 0))) := ⟨by rw [← hq_]; exact (pk_ BK273.out)⟩; have n4_ : Aside0 (Below w.heap.size w wr) := ⟨by rw [← hq_]; exact (pb3_ HB.out GE270.out GE271.out GE273.out)⟩; clear HO_274000 BK270 BK271 BK273 HB hq_; have HO_274000 := n0_; have BK270 := n1_; have BK271 := n2_; have BK273 := n3_; have HB := n4_; clear n0_ n1_ n2_ n3_ n4_))
 have _ := Q_ (Kd.R_drew HO_274000.out)
 have _ := Q_ (blk_drew BK270.out)
 have _ := Q_ (blk_drew BK271.out)
 have _ := Q_ (blk_drew BK273.out)
 have _ := Q_ (below_drew1 HB.out)
 clear HO_274000 BK270 BK271 BK273 HB
 rename_i HO_274000 BK270 BK271 BK273 HB
 have p276 : 0 ≤ (x9_1 : Int) := dt_
 have q276 : x9_1 < (l0_0.length : Int) := dt_
 obtain ⟨ad276, e276, hx276_0⟩ := Kd.at_int HR0_0.out x9_1 p276 q276
 have hw276_0 := hx276_0
 obtain rfl : ad274 = ad276 := (by injection e276)
 replace hx276_0 := bt_ HB hx276_0
 replace p276 := eq_true p276
 replace q276 := eq_true q276
 refine start_ (n := 11) (S := fun w' => w'.cell? ⟨gb273, 0, none⟩ = some (u274000) ∧ w'.cell? ⟨gb273, 1, none⟩ = some (.slice none 0 0) ∧ w'.cell? ⟨gb270, 0, none⟩ = some (.slice (some ad274) l0_0.length c0_0) ∧ w'.cell? ⟨gb270, 1, none⟩ = some (.slice A0_1 l0_1.length c0_1) ∧ w'.cell? (ad274.add (x9_1).toNat) = some (.int .i64 (rd l0_0 x9_1))) (ds := [10]) #[false, false, false, false, false, false, false, false, false, false, false] (by kernel_rfl) rfl rfl ⟨(blk_cell BK273.out 0).trans rfl, (blk_cell BK273.out 1).trans rfl, (blk_cell BK270.out 0).trans rfl, (blk_cell BK270.out 1).trans rfl, (bt_ HB hw276_0)⟩ (fun hHeld => ?_); refine with_tabW spec_PartHello.tab8 spec_PartHello.bits8 (fun HT_ HW_ => ?_)
 generalize wr.drew = w61 at HO_274000 BK270 BK271 BK273 HB hx276_0 hHeld ⊢
 refine pu_ 0 (some 31) (tf_ 1 11) HT_ ?_
 refine pu_ 2 (some 33) (tm_ 11 5) HT_ ?_
 refine pu_ 4 (some 35) (tm_ 11 21) HT_ ?_
 refine ta_ 1 (some 32) (tm_ 11 23) HT_ HW_ hHeld ?_
 refine ta_ 3 (some 34) (tf_ 5 11) HT_ HW_ hHeld ?_
 refine pu_ 5 (some 36) (tf_ 6 11) HT_ ?_
 refine ta_ 6 (some 37) (tf_ 7 11) HT_ HW_ hHeld ?_
 refine on_ 7 (some 38) (tf_ 8 11) HT_ (fun K hK => ?_)
 refine value_ (w1 := ?_) (v := ?_) (by rfl) rfl ?_ ?_
 rotate_left 2
 ·go_simp
  constructor
  ·rfl
  ·rfl
 refine hK.out _ _ ⟨(blk_cell (blk_alloc BK273.out _) 0).trans rfl, (blk_cell (blk_alloc BK273.out _) 1).trans rfl, (blk_cell (blk_alloc BK270.out _) 0).trans rfl, (blk_cell (blk_alloc BK270.out _) 1).trans rfl, (World.cell?_alloc_lt _ _ _ (World.block_lt_of_cell? _ _ ((bt_ HB hw276_0)))).trans ((bt_ HB hw276_0))⟩ (fun hHeld => ?_)
 clear hK K
 refine no_ (some 38) ?_
 refine on_ 8 (some 39) (tf_ 9 11) HT_ (fun K hK => ?_)
 refine Kd.R_append_step (Kd.int .i64) (w0 := w) w.heap.size (by rfl) (.tmp 32) (.tmp 38) 25 3 (.int .i64 0) 8 rfl Try.underlying25 info3 rfl (by decide) (by omega) u274000 x274000_1 (rd l0_0 x9_1) [.int .i64 (rd l0_0 x9_1)] (fun _ => True) (fun _ => False) rfl rfl ?aP (fun _ hk => hk.elim) ?aF ?aO ?aB ?aS ?aL ?_
 (case aP => exact rfl)
 (case aB => exact (pb3_ HB.out GE270.out GE271.out GE273.out))
 (case aF => exact (fun _ _ => trivial))
 (case aO => exact (pr_ HO_274000.out))
 (case aS => exact (below_size (pb3_ HB.out GE270.out GE271.out GE273.out)))
 (case aL => have := LMc60.out; omega)
 intro v278 w62 ho hb hg hat
 rw [← Ny277.out] at ho
 have _ := Q_ (blk_grown (g := gb270) (o := .cells #[.slice (some ad274) l0_0.length c0_0, .slice A0_1 l0_1.length c0_1] 71 (0, 0)) (pk_ BK270.out) hg (Kd.R_ne HO_274000.out BK270.out (by decide)))
 have _ := Q_ (blk_grown (g := gb271) (o := .cells #[.slice none 0 0, .slice none 0 0] 71 (0, 0)) (pk_ BK271.out) hg (Kd.R_ne HO_274000.out BK271.out (by decide)))
 have _ := Q_ (blk_grown (g := gb273) (o := .cells #[u274000, .slice none 0 0] 71 (0, 0)) (pk_ BK273.out) hg (Kd.R_ne HO_274000.out BK273.out (by decide)))
 have _ := Q_ (hb)
 have _ := Q_ (ho)
 clear BK270 BK271 BK273 HB HO_274000
 rename_i BK270 BK271 BK273 HB HO279
 clear ho hb hg hat
 obtain ⟨Ao63, co63, eo63⟩ := Kd.R_slice HO279.out
 (first | subst eo63 | (injection eo63 with f1_ f2_ f3_; have f4_ := f1_.symm; have f5_ := f3_.symm; clear f1_ f2_ f3_; subst f4_; subst f5_))
 refine hK.out _ _ ⟨(blk_cell BK273.out 0).trans rfl, (blk_cell BK273.out 1).trans rfl, (blk_cell BK270.out 0).trans rfl, (blk_cell BK270.out 1).trans rfl, (bt_ HB hw276_0)⟩ (fun hHeld => ?_)
 clear hK K
 refine no_ (some 39) ?_
 refine pu_ 9 (some 40) (tf_ 10 11) HT_ ?_
 refine last_ (i := 10) (N := none) #[true, true, true, true, true, true, true, true, true, true, true] rfl rfl (one_of HT_.out (by kernel_rfl)) (by decide) (fun K hK => ?_)
 have hs64 : w62.cell? ⟨gb273, 0, none⟩ = some (u274000) := (blk_cell BK273.out 0).trans rfl
 have hfs64 := blk_frozen BK273.out 0
 have hns64_0 := NB270_273.out
 have hns64_1 := NB271_273.out
 have hms64_0 := NB273_270.out
 have hms64_1 := NB273_271.out
 refine skip_ (w1 := ?_) (by rfl) rfl ?_ ?_
 rotate_left
 ·go_simp
  rfl
 refine hK.out _ _ ?_
 clear hK K
 refine done_ (done_of HT_.out (by kernel_rfl)) ?_
 try go_wp2
 go_roundg k1
 case measure => have := HK1.out; omega
 case rel => exact ⟨(wrap64 (x9_1 + 1)), (y277), (.slice Ao63 y277.length co63), el_, H', ⟨by have := HK1.out; omega⟩, ⟨pr_ (Kd.R_mono (rf1_ HO279.out BK273.out) (fun _ hk => trivial))⟩, ⟨pp_ BK270.out⟩, ⟨pp_ BK271.out⟩, ⟨pp_ BK273.out⟩, ⟨pb3_ HB.out GE270.out GE271.out GE273.out⟩⟩

/-! ### spec_l23Copy: function 75 -/
def spec_l23Copy.f (a0_0 : Int) (l0_1 : List Int) (a0_2 : Int) : Option (Int × List Int × Int) := (some (([] : List Int) : List Int)).bind fun y295 => (if y295.length + l0_1.length < 17592186044416 then (some (a0_0, (y295 ++ l0_1), a0_2)) else (none))
def spec_l23Copy.T1 : Bool × List (List Nat × List Nat) := (true, [([], []), ([0], [0]), ([], []), ([], []), ([3], [3]), ([2, 4], [2, 4]), ([], []), ([6], [6]), ([1, 5, 7], [1, 5, 7]), ([8, 5, 0, 1, 2, 3, 4, 5, 6, 7, 8], [8])])
def spec_l23Copy.B1 : List Nat := [0, 1, 0, 0, 8, 28, 0, 64, 255, 511]
theorem spec_l23Copy.tab1 : rtab .any (opsOf Try.f75 1) = spec_l23Copy.T1 := by kernel_rfl
theorem spec_l23Copy.bits1 : waitsOk spec_l23Copy.T1.2 spec_l23Copy.B1 = true := by kernel_rfl
theorem spec_l23Copy.calls (a0_0 : Int) (A0_1 : Option Addr) (c0_1 : Nat) (l0_1 : List Int) (a0_2 : Int) (r1 : Int) (r2 : List Int) (r3 : Int) (w : World) (hr0_1 : Kd.C (Kd.int .i64) w A0_1 l0_1.length l0_1) (hc0_1 : l0_1.length ≤ c0_1) (h : spec_l23Copy.f a0_0 l0_1 a0_2 = some (r1, r2, r3)) :
  Calls Try.prog 75 #[.agg #[.int .i64 a0_0, .slice A0_1 l0_1.length c0_1, .int .i64 a0_2]] w fun e w' => ∃ v1_ : Value, e = .returned (.agg #[.int .i64 r1, v1_, .int .i64 r3]) ∧ Kd.R (Kd.int .i64) 3 w' w.heap.size (fun _ => True) v1_ r2 ∧ Below w.heap.size w w' := by
 have hu61 := Try.underlying61
 have HR0_1 := Q_ hr0_1
 have HC0_1 := Q_ hc0_1
 clear hr0_1 hc0_1
 have HB := Q_ (Below.refl w.heap.size w)
 have H : ((some (([] : List Int) : List Int)).bind fun y295 => (if y295.length + l0_1.length < 17592186044416 then (some (a0_0, (y295 ++ l0_1), a0_2)) else (none))) = some (r1, r2, r3) := h
 clear h
 obtain ⟨y295, hy295⟩ : ∃ y_ : List Int, y_ = (([] : List Int)) := ⟨_, rfl⟩
 replace H : (if y295.length + l0_1.length < 17592186044416 then (some (a0_0, (y295 ++ l0_1), a0_2)) else (none)) = some (r1, r2, r3) := hb_ hy295 H
 have Ny295 := Q_ hy295
 clear hy295
 by_cases c2 : y295.length + l0_1.length < 17592186044416
 rotate_left
 ·rw [if_neg c2] at H
  exact absurd H (by simp)
 rw [if_pos c2] at H
 have LMc2 := Q_ c2
 clear c2
 obtain ⟨y298, hy298⟩ : ∃ y_ : List Int, y_ = (y295 ++ l0_1) := ⟨_, rfl⟩
 replace H : (some (a0_0, y298, a0_2)) = some (r1, r2, r3) := hb_ hy298 H
 have Ny298 := Q_ hy298
 clear hy298
 simp only [Option.some.injEq, Prod.mk.injEq] at H
 obtain ⟨rfl, rfl, rfl⟩ := H
 go_enter Try.func75, Try.ntmps75
 try go_wp2_with (first | ((with_reducible refine gate_dst (N := 1) rfl ?_); refine box_event ?hg (N := 1) ?hd (cs := #[.int .i64 a0_0, .slice A0_1 l0_1.length c0_1, .int .i64 a0_2]) (t := 61) ?hr ?_; (case hd => rfl); (case hg => rfl); (case hr => first | (go_simp; done) | (go_simp; rfl)); intro gb293 hg w3 hbox hb; have _ := Q_ (below_step (pb_ HB.out) hb); have BK293 := Q_ (hbox); have GW293 := Q_ ((by rw [hg]; exact (below_size (pb_ HB.out)) : w.heap.size ≤ gb293)); have GE293 := GW293; clear HB; rename_i HB; clear hb hbox hg) | ((with_reducible refine gate_dst (N := 2) rfl ?_); refine box_event ?hg (N := 2) ?hd (cs := #[.int .i64 0, .slice none 0 0, .int .i64 0]) (t := 61) ?hr ?_; (case hd => rfl); (case hg => rfl); (case hr => first | (go_simp; done) | (go_simp; rfl)); intro gb294 hg w4 hbox hb; have _ := Q_ (bb_ BK293.out hb); have _ := Q_ (below_step (pb1_ HB.out GE293.out) hb); have BK294 := Q_ (hbox); have GW294 := Q_ ((by rw [hg]; exact (below_size (pb1_ HB.out GE293.out)) : w.heap.size ≤ gb294)); have GE294 := GW294; have NB293_294 := Q_ ((by rw [hg]; exact Nat.ne_of_lt (blk_lt (pk_ BK293.out)) : gb293 ≠ gb294)); have NB294_293 := Q_ NB293_294.out.symm; clear BK293 HB; rename_i BK293 HB; clear hb hbox hg))
 have _ := Q_ (blk_drew BK293.out)
 have _ := Q_ (blk_drew BK294.out)
 have _ := Q_ (below_drew1 HB.out)
 clear BK293 BK294 HB
 rename_i BK293 BK294 HB
 refine start_ (n := 10) (S := fun w' => w'.cell? ⟨gb293, 0, none⟩ = some (.int .i64 a0_0) ∧ w'.cell? ⟨gb293, 1, none⟩ = some (.slice A0_1 l0_1.length c0_1) ∧ w'.cell? ⟨gb293, 2, none⟩ = some (.int .i64 a0_2)) (ds := []) (tf_ 0 10) (by kernel_rfl) rfl rfl (sb_ BK293.out) (fun hHeld => ?_); refine with_tabW spec_l23Copy.tab1 spec_l23Copy.bits1 (fun HT_ HW_ => ?_)
 generalize w4.drew = w5 at BK293 BK294 HB hHeld ⊢
 refine pu_ 0 (some 3) (tf_ 1 10) HT_ ?_
 refine pu_ 3 (some 6) (tm_ 10 9) HT_ ?_
 refine pu_ 6 (some 9) (tm_ 10 73) HT_ ?_
 refine ta_ 1 (some 4) (tm_ 10 75) HT_ HW_ hHeld ?_
 refine ta_ 4 (some 7) (tm_ 10 91) HT_ HW_ hHeld ?_
 refine ta_ 7 (some 10) (tm_ 10 219) HT_ HW_ hHeld ?_
 refine on_ 2 (some 5) (tm_ 10 223) HT_ (fun K hK => ?_)
 refine Kd.R_lit_step (Kd.int .i64) _ 3 ?hg (N := 5) ?hd (xs := ([] : List Int)) (inner := []) (ok := fun _ => True) (okp := fun _ => True) ?hr ?hp (fun _ hk => hk) trivial (Below.refl _ _) (Nat.le_refl _) (by simp) ?_; (case hd => rfl); (case hg => rfl); (case hr => first | (go_simp; done) | (go_simp; rfl)); (case hp => exact (Reps.none _ _))
 intro v296 w6 ho7 hb hg_ hnew_
 clear hg_ hnew_
 (first | rw [← Ny295.out] at ho7 | (simp only [Int.reduceToNat] at ho7; rw [← Ny295.out] at ho7))
 have _ := Q_ (Kd.R_lower ho7 (below_size (pb2_ HB.out GE293.out GE294.out)))
 have _ := Q_ (bb_ BK293.out hb)
 have _ := Q_ (bb_ BK294.out hb)
 have _ := Q_ (below_step (pb2_ HB.out GE293.out GE294.out) hb)
 clear BK293 BK294 HB
 rename_i HO297 BK293 BK294 HB
 clear hb ho7
 refine hK.out _ _ (sb_ BK293.out) (fun hHeld => ?_)
 clear hK K
 refine no_ (some 5) ?_
 refine on_ 5 (some 8) (tf_ 8 10) HT_ (fun K hK => ?_)
 refine Kd.R_append_rows_step (Kd.int .i64) (w0 := w) w.heap.size (by rfl) (.tmp 5) (.tmp 7) 25 3 (.int .i64 0) 8 rfl Try.underlying25 info3 rfl (by decide) (by omega) v296 y295 l0_1 _ _ _ (fun _ => True) (fun _ => False) rfl rfl ?aO ?aR (fun _ _ h => h) (fun _ h => h.elim) ?aF ?aB ?aS ?aL ?_
 (case aR => exact cb_ HR0_1 HB)
 (case aB => exact (pb2_ HB.out GE293.out GE294.out))
 (case aF => exact (fun _ _ => trivial))
 (case aO => exact (pr_ HO297.out))
 (case aS => exact (below_size (pb2_ HB.out GE293.out GE294.out)))
 (case aL => have := LMc2.out; omega)
 intro v299 w8 ho hb hg hat
 rw [← Ny298.out] at ho
 have _ := Q_ (blk_grown (g := gb293) (o := .cells #[.int .i64 a0_0, .slice A0_1 l0_1.length c0_1, .int .i64 a0_2] 61 (0, 0)) (pk_ BK293.out) hg (Kd.R_ne HO297.out BK293.out (by decide)))
 have _ := Q_ (blk_grown (g := gb294) (o := .cells #[.int .i64 0, .slice none 0 0, .int .i64 0] 61 (0, 0)) (pk_ BK294.out) hg (Kd.R_ne HO297.out BK294.out (by decide)))
 have _ := Q_ (hb)
 have _ := Q_ (ho)
 clear BK293 BK294 HB HO297
 rename_i BK293 BK294 HB HO300
 clear ho hb hg hat
 obtain ⟨Ao9, co9, eo9⟩ := Kd.R_slice HO300.out
 (first | subst eo9 | (injection eo9 with f1_ f2_ f3_; have f4_ := f1_.symm; have f5_ := f3_.symm; clear f1_ f2_ f3_; subst f4_; subst f5_))
 refine hK.out _ _ (sb_ BK293.out) (fun hHeld => ?_)
 clear hK K
 refine no_ (some 8) ?_
 refine pu_ 8 (some 11) (tf_ 9 10) HT_ ?_
 refine on_ 9 (none) (tf_ 10 10) HT_ (fun K hK => ?_)
 have hs10 : w8.cell? ⟨gb294, 0, none⟩ = some (.int .i64 0) := (blk_cell BK294.out 0).trans rfl
 have hfs10 := blk_frozen BK294.out 0
 have hns10_0 := NB293_294.out
 have hms10_0 := NB294_293.out
 have hs11 : w8.cell? ⟨gb294, 1, none⟩ = some (.slice none 0 0) := (blk_cell BK294.out 1).trans rfl
 have hfs11 := blk_frozen BK294.out 1
 have hns11_0 := NB293_294.out
 have hms11_0 := NB294_293.out
 have hs12 : w8.cell? ⟨gb294, 2, none⟩ = some (.int .i64 0) := (blk_cell BK294.out 2).trans rfl
 have hfs12 := blk_frozen BK294.out 2
 have hns12_0 := NB293_294.out
 have hms12_0 := NB294_293.out
 refine skip_ (w1 := ?_) (by rfl) rfl ?_ ?_
 rotate_left
 ·go_simp
  rfl
 refine hK.out _ _ ⟨((cell_far (p := ⟨gb294, _, none⟩) NB293_294.out _).trans (((cell_far (p := ⟨gb294, _, none⟩) NB293_294.out _).trans (((cell_far (p := ⟨gb294, _, none⟩) NB293_294.out _).trans (hHeld.1)))))), ((cell_far (p := ⟨gb294, _, none⟩) NB293_294.out _).trans (((cell_far (p := ⟨gb294, _, none⟩) NB293_294.out _).trans (((cell_far (p := ⟨gb294, _, none⟩) NB293_294.out _).trans (hHeld.2.1)))))), ((cell_far (p := ⟨gb294, _, none⟩) NB293_294.out _).trans (((cell_far (p := ⟨gb294, _, none⟩) NB293_294.out _).trans (((cell_far (p := ⟨gb294, _, none⟩) NB293_294.out _).trans (hHeld.2.2))))))⟩ (fun hHeld => ?_)
 clear hK K
 refine done_ (done_of HT_.out (by kernel_rfl)) ?_
 try go_wp2
 refine bodyPost_ret (results_cell_row rfl _ _ gb294 61 #[.int .i64 a0_0, .slice Ao9 y298.length co9, .int .i64 a0_2] (0, 0) _ rfl (pp_ BK294.out) Try.underlying61 rfl (by kernel_rfl)) rfl ?_
 exact ⟨_, er_, pr_ (Kd.R_mono (rf3_ HO300.out BK294.out) (fun _ hk => trivial)), pb2_ HB.out GE293.out GE294.out⟩

end Go.Proofs.Ytlcpaebidnaolaa.Print
