-- Written by a program of this session (printx.py) out of the translation; Lean checks it.
import Derived.Test.YtpoandlbmaljhaaPrint0
import Derived.Test.YtpoandlbmaljhaaPrint2
import Derived.Test.YtpoandlbmaljhaaPrint4
import Derived.Test.YtpoandlbmaljhaaPrint5
import Derived.Test.YtpoandlbmaljhaaPrint6
namespace Go.Proofs.Ytpoandlbmaljhaa.Print
open Go.RowKit Go.Proofs.YtpoandlbmaljhaaW.PrintWords Go.Proofs.YtpoandlbmaljhaaW.PrintLast Go.Proofs.YtpoandlbmaljhaaW.PrintMore Go.Proofs.Ytpoandlbmaljhaa.Short
attribute [local go_sem] max2_int min2_int max_two min_two max_three min_three max_four min_four   -- for this text's walks alone
set_option linter.unusedVariables false
set_option linter.unusedSimpArgs false

/-! ### spec_PassPath: function 44 -/
mutual
def spec_PassPath.j0 : Nat → List (S50) → Bool → List Int → List (S69) → Option (List Int × (List (S69)) × Bool)
  | 0, _, _, _, _ => none
  | k + 1, x0, x17, x250000, x250001 => if x17 = true then (some (([] : List Int), ([] : List (S69)), false)) else ((spec_l18Hello.f k x250000 x250001).bind fun bt252 => (spec_PassPath.l0 k x0 0 bt252.1 bt252.2))
def spec_PassPath.l0 : Nat → List (S50) → Int → List Int → List (S69) → Option (List Int × (List (S69)) × Bool)
  | 0, _, _, _, _ => none
  | k + 1, x0, x7, x259000, x259001 => if x7 < (x0.length : Int) then (if 0 ≤ x7 then ((spec_PassBox.f k ((rd_T50 x0 x7).f0) ((rd_T50 x0 x7).f1) ((rd_T50 x0 x7).f2) ((rd_T50 x0 x7).f3) x259000 x259001).bind fun bt260 => (if bt260.2.2 = true then (spec_PassPath.l0 k x0 (wrap64 (x7 + 1)) bt260.1 bt260.2.1) else (some (([] : List Int), ([] : List (S69)), false)))) else (none)) else (some (x259000, x259001, true))
end
def spec_PassPath.f (k : Nat) (l0 : List (S50)) (l1_0 : List Int) (l1_1 : List (S69)) : Option (List Int × (List (S69)) × Bool) := if (l0.length : Int) > 4 then (spec_PassPath.j0 k l0 true l1_0 l1_1) else ((spec_IsHello.f k l1_0 l1_1).bind fun t251 => (spec_PassPath.j0 k l0 (!t251) l1_0 l1_1))
theorem spec_PassPath.mono_l : ∀ k, (∀ y0 y1 y2 y3, LeO (spec_PassPath.j0 k y0 y1 y2 y3) (spec_PassPath.j0 (k + 1) y0 y1 y2 y3)) ∧ (∀ y0 y1 y2 y3, LeO (spec_PassPath.l0 k y0 y1 y2 y3) (spec_PassPath.l0 (k + 1) y0 y1 y2 y3))
  | 0 => ⟨fun _ _ _ _ r h => by simp [spec_PassPath.j0] at h, fun _ _ _ _ r h => by simp [spec_PassPath.l0] at h⟩
  | k + 1 => by
    obtain ⟨ih0, ih1⟩ := spec_PassPath.mono_l k
    refine ⟨?_, ?_⟩
    · intro y0 y1 y2 y3
      unfold spec_PassPath.j0
      repeat' first
      | (with_reducible exact ih0 _ _ _ _)
      | (with_reducible exact ih1 _ _ _ _)
      | (with_reducible exact spec_IsHello.mono _ _ _)
      | (with_reducible exact spec_PassBox.mono _ _ _ _ _ _ _)
      | (with_reducible exact spec_l18Hello.mono _ _ _)
      | (with_reducible exact LeO.refl _)
      | (with_reducible exact LeO.none _)
      | (with_reducible refine LeO.ite ?_ ?_)
      | (with_reducible refine LeO.bind ?_ (fun _ => ?_))
      | exact ih0 _ _ _ _
      | exact ih1 _ _ _ _
      | exact spec_IsHello.mono _ _ _
      | exact spec_PassBox.mono _ _ _ _ _ _ _
      | exact spec_l18Hello.mono _ _ _
      | exact LeO.none _
      | refine LeO.ite ?_ ?_
      | refine LeO.bind ?_ (fun _ => ?_)
    · intro y0 y1 y2 y3
      unfold spec_PassPath.l0
      repeat' first
      | (with_reducible exact ih0 _ _ _ _)
      | (with_reducible exact ih1 _ _ _ _)
      | (with_reducible exact spec_IsHello.mono _ _ _)
      | (with_reducible exact spec_PassBox.mono _ _ _ _ _ _ _)
      | (with_reducible exact spec_l18Hello.mono _ _ _)
      | (with_reducible exact LeO.refl _)
      | (with_reducible exact LeO.none _)
      | (with_reducible refine LeO.ite ?_ ?_)
      | (with_reducible refine LeO.bind ?_ (fun _ => ?_))
      | exact ih0 _ _ _ _
      | exact ih1 _ _ _ _
      | exact spec_IsHello.mono _ _ _
      | exact spec_PassBox.mono _ _ _ _ _ _ _
      | exact spec_l18Hello.mono _ _ _
      | exact LeO.none _
      | refine LeO.ite ?_ ?_
      | refine LeO.bind ?_ (fun _ => ?_)
theorem spec_PassPath.mono : ∀ a0 a1 a2 k, LeO (spec_PassPath.f k a0 a1 a2) (spec_PassPath.f (k + 1) a0 a1 a2) := by
  intro a0 a1 a2 k
  obtain ⟨ih0, ih1⟩ := spec_PassPath.mono_l k
  unfold spec_PassPath.f
  repeat' first
      | (with_reducible exact ih0 _ _ _ _)
      | (with_reducible exact ih1 _ _ _ _)
      | (with_reducible exact spec_IsHello.mono _ _ _)
      | (with_reducible exact spec_PassBox.mono _ _ _ _ _ _ _)
      | (with_reducible exact spec_l18Hello.mono _ _ _)
      | (with_reducible exact LeO.refl _)
      | (with_reducible exact LeO.none _)
      | (with_reducible refine LeO.ite ?_ ?_)
      | (with_reducible refine LeO.bind ?_ (fun _ => ?_))
      | exact ih0 _ _ _ _
      | exact ih1 _ _ _ _
      | exact spec_IsHello.mono _ _ _
      | exact spec_PassBox.mono _ _ _ _ _ _ _
      | exact spec_l18Hello.mono _ _ _
      | exact LeO.none _
      | refine LeO.ite ?_ ?_
      | refine LeO.bind ?_ (fun _ => ?_)
def spec_PassPath.T7 : Bool × List (List Nat × List Nat) := (true, [([], []), ([], []), ([0, 1], [0, 1]), ([2], [2]), ([], []), ([3, 4], [3, 4]), ([5], [5]), ([6], [6]), ([6], [6]), ([], []), ([9, 7, 5, 0, 1, 2, 3, 4, 5, 6, 7, 9], [7, 9]), ([8, 10, 0, 1, 2, 3, 4, 5, 6, 7, 8, 9, 10], [8])])
def spec_PassPath.B7 : List Nat := [0, 0, 3, 7, 0, 31, 63, 127, 127, 0, 767, 2047]
theorem spec_PassPath.tab7 : rtab .any (opsOf Try.f44 7) = spec_PassPath.T7 := by kernel_rfl
theorem spec_PassPath.bits7 : waitsOk spec_PassPath.T7.2 spec_PassPath.B7 = true := by kernel_rfl
set_option maxHeartbeats 8000000 in
set_option maxRecDepth 100000 in
theorem spec_PassPath.calls (k : Nat) (A0 : Option Addr) (c0 : Nat) (l0 : List (S50)) (A1_0 : Option Addr) (c1_0 : Nat) (l1_0 : List Int) (A1_1 : Option Addr) (c1_1 : Nat) (l1_1 : List (S69)) (r1 : List Int) (r2 : List (S69)) (r3 : Bool) (w : World) (hr0 : Kd.C k50 w A0 l0.length l0) (hc0 : l0.length ≤ c0) (hr1_0 : Kd.C (Kd.int .i64) w A1_0 l1_0.length l1_0) (hc1_0 : l1_0.length ≤ c1_0) (hr1_1 : Kd.C k69 w A1_1 l1_1.length l1_1) (hc1_1 : l1_1.length ≤ c1_1) (h : spec_PassPath.f k l0 l1_0 l1_1 = some (r1, r2, r3)) :
    Calls Try.prog 44 #[.slice A0 l0.length c0, .agg #[.slice A1_0 l1_0.length c1_0, .slice A1_1 l1_1.length c1_1]] w fun e w' => ∃ v0_ v1_ : Value, e = .returned (.tuple #[.agg #[v0_, v1_], .bool r3]) ∧ Kd.R (Kd.int .i64) 3 w' w.heap.size (fun _ => True) v0_ r1 ∧ Kd.S k69 69 w' w.heap.size (fun k_ => some k_ ≠ (v0_ : Value).ownBlock) v1_ r2 ∧ Below w.heap.size w w' := by
  have hu63 := Try.underlying63
  have hu50 := Try.underlying50
  have HR0 := Aside0.mk hr0
  have HC0 := Aside0.mk hc0
  clear hr0 hc0
  have HR1_0 := Aside0.mk hr1_0
  have HC1_0 := Aside0.mk hc1_0
  clear hr1_0 hc1_0
  have HR1_1 := Aside0.mk hr1_1
  have HC1_1 := Aside0.mk hc1_1
  clear hr1_1 hc1_1
  have HB := Aside0.mk (Below.refl w.heap.size w)
  have H : (if (l0.length : Int) > 4 then (spec_PassPath.j0 k l0 true l1_0 l1_1) else ((spec_IsHello.f k l1_0 l1_1).bind fun t251 => (spec_PassPath.j0 k l0 (!t251) l1_0 l1_1))) = some (r1, r2, r3) := h
  clear h
  have HC3 := Aside0.mk H
  clear H
  go_enter Try.func44, Try.ntmps44
  go_upto_region 1 with (first | ((with_reducible refine gate_dst (N := 3) rfl ?_); refine box_event ?hg (N := 3) ?hd (cs := #[.slice A1_0 l1_0.length c1_0, .slice A1_1 l1_1.length c1_1]) (t := 63) ?hr ?_; (case hd => rfl); (case hg => rfl); (case hr => first | (go_simp; done) | (go_simp; rfl)); intro gb249 hg w4 hbox hb; have n0_ := Aside0.mk (below_step (pb_ HB.out) hb); have n1_ := Aside0.mk (hbox); have n2_ := Aside0.mk ((by rw [hg]; exact (below_size (pb_ HB.out)) : w.heap.size ≤ gb249)); have n3_ := Aside0.mk ((by rw [hg]; exact (below_size (pb_ HB.out)) : w.heap.size ≤ gb249)); clear HB; have HB := n0_; have BK249 := n1_; have GW249 := n2_; have GE249 := n3_; clear n0_ n1_ n2_ n3_; clear hb hbox hg) | ((with_reducible refine gate_dst (N := 4) rfl ?_); refine box_event ?hg (N := 4) ?hd (cs := #[.slice none 0 0, .slice none 0 0]) (t := 63) ?hr ?_; (case hd => rfl); (case hg => rfl); (case hr => first | (go_simp; done) | (go_simp; rfl)); intro gb250 hg w5 hbox hb; have n0_ := Aside0.mk (bb_ BK249.out hb); have n1_ := Aside0.mk (below_step (pb1_ HB.out GE249.out) hb); have n2_ := Aside0.mk (hbox); have n3_ := Aside0.mk ((by rw [hg]; exact (below_size (pb1_ HB.out GE249.out)) : w.heap.size ≤ gb250)); have n4_ := Aside0.mk ((by rw [hg]; exact (below_size (pb1_ HB.out GE249.out)) : w.heap.size ≤ gb250)); have n5_ := Aside0.mk ((by rw [hg]; exact Nat.ne_of_lt (blk_lt (pk_ BK249.out)) : gb249 ≠ gb250)); have n6_ := Aside0.mk ((by rw [hg]; exact Nat.ne_of_gt (blk_lt (pk_ BK249.out)) : gb250 ≠ gb249)); clear BK249; clear HB; have BK249 := n0_; have HB := n1_; have BK250 := n2_; have GW250 := n3_; have GE250 := n4_; have NB249_250 := n5_; have NB250_249 := n6_; clear n0_ n1_ n2_ n3_ n4_ n5_ n6_; clear hb hbox hg))
  (try simp only [Act.put, List.setIfInBounds_toArray, List.set_cons_zero, List.set_cons_succ])
  go_cut [17] (fun v17 wc => ∃ (kq : Nat) (x17_2 : Bool), v17 = .bool x17_2 ∧ Aside0 (spec_PassPath.j0 kq l0 x17_2 l1_0 l1_1 = some (r1, r2, r3)) ∧ Aside0 (kq ≤ k) ∧ Aside0 (wc.heap[gb249]? = some (.cells #[(.slice A1_0 l1_0.length c1_0), (.slice A1_1 l1_1.length c1_1)] 63 (0, 0))) ∧ Aside0 (wc.heap[gb250]? = some (.cells #[(.slice none 0 0), (.slice none 0 0)] 63 (0, 0))) ∧ Aside0 (Below w.heap.size w wc))
  case first =>
    have H := HC3.out
    clear HC3
    by_cases c6 : (l0.length : Int) > 4
    · rw [if_pos c6] at H
      have c6b0 : decide (4 < (l0.length : Int)) = true := decide_eq_true c6
      have c6b1 : decide (4 < l0.length) = true := decide_eq_true (by omega)
      clear c6
      (first | rw [c6b0] | (simp only [i64_w, i32_w]; rw [c6b0]) | rw [c6b1] | skip)
      have H' := Aside0.mk H
      clear H
      go_wp2
      go_meet
      case rel => exact ⟨_, (true), el_, H', ⟨by first | omega | exact Nat.le_refl _⟩, ⟨pk_ BK249.out⟩, ⟨pk_ BK250.out⟩, ⟨pb2_ HB.out GE249.out GE250.out⟩⟩
    rw [if_neg c6] at H
    have c6b0 : decide (4 < (l0.length : Int)) = false := decide_eq_false c6
    have c6b1 : decide (4 < l0.length) = false := decide_eq_false (by omega)
    clear c6
    (first | rw [c6b0] | (simp only [i64_w, i32_w]; rw [c6b0]) | rw [c6b1] | skip)
    replace H := Option.bind_eq_some_iff.mp H
    obtain ⟨t251, A70, H⟩ := H
    replace H : (spec_PassPath.j0 k l0 (!t251) l1_0 l1_1) = some (r1, r2, r3) := H
    have A7 := Aside0.mk A70
    clear A70
    have H' := Aside0.mk H
    clear H
    have hnb8 := NB249_250.out
    have hnc8 := NB250_249.out
    obtain ⟨hcz9_0, hcz9_1, hfz9_0, hfz9_1⟩ := bc2_ BK249.out
    go_wp2_with (first | (go_at_call 68; (with_reducible refine (spec_IsHello.calls k _ _ l1_0 _ _ l1_1 t251 _ ?side1 ?side2 ?side3 ?side4 A7.out).mono ?_); (case side1 => exact pc_ (Kd.C_below HR1_0.out HB.out)); (case side2 => exact HC1_0.out); (case side3 => exact pc_ (Kd.C_below HR1_1.out HB.out)); (case side4 => exact HC1_1.out); rintro e w10 ⟨rfl, hb⟩; have n0_ := Aside0.mk (bb_ BK249.out hb); have n1_ := Aside0.mk (bb_ BK250.out hb); have n2_ := Aside0.mk (below_step (pb2_ HB.out GE249.out GE250.out) hb); clear BK249; clear BK250; clear HB; have BK249 := n0_; have BK250 := n1_; have HB := n2_; clear n0_ n1_ n2_; (try clear hb); (try clear hb2); (try clear hk); (try clear hi)))
    go_meet
    case rel => exact ⟨_, (!t251), el_, H', ⟨by first | omega | exact Nat.le_refl _⟩, ⟨pk_ BK249.out⟩, ⟨pk_ BK250.out⟩, ⟨pb2_ HB.out GE249.out GE250.out⟩⟩
  clear HC3
  try clear c1
  try clear p2
  try clear c4
  try clear c6
  try clear c6b0
  try clear c6b1
  try clear c8
  try clear hcz9_0
  try clear hcz9_1
  try clear hfz9_0
  try clear hfz9_1
  obtain ⟨kq, x17_2, rfl, HA, HJ2, BK249, BK250, HB⟩ := hcut
  rcases kq with _ | kj2
  · exact absurd HA.out (by simp [spec_PassPath.j0])
  have H := HA.out
  clear HA
  simp only [spec_PassPath.j0] at H
  by_cases c11 : x17_2 = true
  · subst c11
    rw [if_pos rfl] at H
    simp only [Option.some.injEq, Prod.mk.injEq] at H
    obtain ⟨rfl, rfl, rfl⟩ := H
    have hnb12 := NB250_249.out
    have hnc12 := NB249_250.out
    obtain ⟨hcz13_0, hcz13_1, hfz13_0, hfz13_1⟩ := bc2_ BK250.out
    go_wp2
    refine bodyPost_ret (results_ct rfl _ _ gb250 63 #[.slice none 0 0, .slice none 0 0] (0, 0) _ rfl (pp_ BK250.out) Try.underlying63 rfl (by kernel_rfl)) rfl ?_
    exact ⟨_, _, er_, by first | exact Kd.R_nil _ _ _ _ _ | exact Kd.N_nil _ _ _ _ _ | exact Kd.V_nil _ _ _ _ _ | exact Kd.Q_nil _ _ _ _ _ | exact Kd.S_nil _ _ _ _ _, by first | exact Kd.S_nil _ _ _ _ _ | exact Kd.N_nil _ _ _ _ _ | exact Kd.V_nil _ _ _ _ _ | exact Kd.Q_nil _ _ _ _ _ | exact Kd.R_nil _ _ _ _ _, pb2_ HB.out GE249.out GE250.out⟩
  replace c11 := Bool.eq_false_iff.mpr c11
  subst c11
  rw [if_neg (show ¬ (false = true) by decide)] at H
  replace H := Option.bind_eq_some_iff.mp H
  obtain ⟨⟨t252, t255⟩, A140, H⟩ := H
  replace H : (spec_PassPath.l0 kj2 l0 0 t252 t255) = some (r1, r2, r3) := H
  have A14 := Aside0.mk A140
  clear A140
  have H' := Aside0.mk H
  clear H
  have hnb15 := NB249_250.out
  have hnc15 := NB250_249.out
  obtain ⟨hcz16_0, hcz16_1, hfz16_0, hfz16_1⟩ := bc2_ BK249.out
  go_wp2_with (first | ((with_reducible refine gate_callee (f := 69) rfl ?_); refine goesL_ (some 20) rfl rfl Try.func69 (by kernel_rfl) rfl #[.agg #[.slice A1_0 l1_0.length c1_0, .slice A1_1 l1_1.length c1_1]] rfl mp_ ?_; (with_reducible refine (spec_l18Hello.calls kj2 _ _ l1_0 _ _ l1_1 t252 t255 _ ?side1 ?side2 ?side3 ?side4 A14.out).mono ?_); (case side1 => exact pc_ (Kd.C_below HR1_0.out HB.out)); (case side2 => exact HC1_0.out); (case side3 => exact pc_ (Kd.C_below HR1_1.out HB.out)); (case side4 => exact HC1_1.out); rintro e w17 ⟨v253, v256, rfl, ho0, ho1, hb⟩; refine ⟨_, rfl, ?_⟩; have n0_ := Aside0.mk (Kd.R_lower ho0 (below_size (pb2_ HB.out GE249.out GE250.out))); have n1_ := Aside0.mk (Kd.S_lower ho1 (below_size (pb2_ HB.out GE249.out GE250.out))); have n2_ := Aside0.mk (bb_ BK249.out hb); have n3_ := Aside0.mk (bb_ BK250.out hb); have n4_ := Aside0.mk (below_step (pb2_ HB.out GE249.out GE250.out) hb); clear BK249; clear BK250; clear HB; have HO254 := n0_; have HO257 := n1_; have BK249 := n2_; have BK250 := n3_; have HB := n4_; clear n0_ n1_ n2_ n3_ n4_; (try clear hb); (try clear hb2); (try clear hk); (try clear hi); (try clear ho0); (try clear ho1)) | ((with_reducible refine gate_dst (N := 6) rfl ?_); refine box_event ?hg (N := 6) ?hd (cs := #[.slice none 0 0, .slice none 0 0]) (t := 63) ?hr ?_; (case hd => rfl); (case hg => rfl); (case hr => first | (go_simp; done) | (go_simp; rfl)); intro gb258 hg w18 hbox hb; have n0_ := Aside0.mk (Kd.R_below (pr_ HO254.out) hb); have n1_ := Aside0.mk (Kd.S_below (ps_ HO257.out) hb); have n2_ := Aside0.mk (bb_ BK249.out hb); have n3_ := Aside0.mk (bb_ BK250.out hb); have n4_ := Aside0.mk (below_step (pb2_ HB.out GE249.out GE250.out) hb); have n5_ := Aside0.mk (hbox); have n6_ := Aside0.mk ((by rw [hg]; exact (below_size (pb2_ HB.out GE249.out GE250.out)) : w.heap.size ≤ gb258)); have n7_ := Aside0.mk ((by rw [hg]; exact (below_size (pb2_ HB.out GE249.out GE250.out)) : w.heap.size ≤ gb258)); have n8_ := Aside0.mk ((by rw [hg]; exact Nat.ne_of_lt (blk_lt (pk_ BK249.out)) : gb249 ≠ gb258)); have n9_ := Aside0.mk ((by rw [hg]; exact Nat.ne_of_gt (blk_lt (pk_ BK249.out)) : gb258 ≠ gb249)); have n10_ := Aside0.mk ((by rw [hg]; exact Nat.ne_of_lt (blk_lt (pk_ BK250.out)) : gb250 ≠ gb258)); have n11_ := Aside0.mk ((by rw [hg]; exact Nat.ne_of_gt (blk_lt (pk_ BK250.out)) : gb258 ≠ gb250)); clear HO254; clear HO257; clear BK249; clear BK250; clear HB; have HO254 := n0_; have HO257 := n1_; have BK249 := n2_; have BK250 := n3_; have HB := n4_; have BK258 := n5_; have GW258 := n6_; have GE258 := n7_; have NB249_258 := n8_; have NB258_249 := n9_; have NB250_258 := n10_; have NB258_250 := n11_; clear n0_ n1_ n2_ n3_ n4_ n5_ n6_ n7_ n8_ n9_ n10_ n11_; clear hb hbox hg; obtain ⟨Ao19, co19, eo19⟩ := Kd.R_slice HO254.out; subst eo19; have hnb20 := NB258_249.out; have hnc20 := NB249_258.out; have hnb21 := NB258_250.out; have hnc21 := NB250_258.out; have hcz22_0 : w18.cell? ⟨gb258, 0, none⟩ = some (.slice none 0 0) := (blk_cell BK258.out 0).trans rfl; have hcz22_1 : w18.cell? ⟨gb258, 1, none⟩ = some (.slice none 0 0) := (blk_cell BK258.out 1).trans rfl; have hfz22_0 := blk_frozen BK258.out 0; have hfz22_1 := blk_frozen BK258.out 1; obtain ⟨Ao23, co23, eo23⟩ := Kd.S_slice HO257.out; subst eo23))
  (try simp only [Act.put, List.setIfInBounds_toArray, List.set_cons_zero, List.set_cons_succ])
  go_loopg [7] kj2 (fun kq v7 w' => ∃ (x7_2 : Int) (x259000_2 : List Int) (x259001_2 : List (S69)) (u259000 : Value) (u259001 : Value), v7 = .int .i64 x7_2 ∧ Aside0 (spec_PassPath.l0 kq l0 x7_2 x259000_2 x259001_2 = some (r1, r2, r3)) ∧ Aside0 (kq ≤ kj2) ∧ Aside0 (Kd.R (Kd.int .i64) 3 w' w.heap.size (fun _ => True) u259000 x259000_2) ∧ Aside0 (Kd.S k69 69 w' w.heap.size (fun k_ => some k_ ≠ (u259000 : Value).ownBlock) u259001 x259001_2) ∧ Aside0 (w'.heap[gb249]? = some (.cells #[(.slice A1_0 l1_0.length c1_0), (.slice A1_1 l1_1.length c1_1)] 63 (0, 0))) ∧ Aside0 (w'.heap[gb250]? = some (.cells #[(.slice none 0 0), (.slice none 0 0)] 63 (0, 0))) ∧ Aside0 (w'.heap[gb258]? = some (.cells #[u259000, u259001] 63 (0, 0))) ∧ Aside0 (Below w.heap.size w w'))
  case atStart => exact ⟨(0), (t252), (t255), (.slice Ao19 t252.length co19), (.slice Ao23 t255.length co23), el_, H', ⟨Nat.le_refl _⟩, ⟨pr_ (Kd.R_mono (rf2_ HO254.out BK258.out) (fun _ hk => trivial))⟩, ⟨ps_ (Kd.S_mono (Kd.S_far (p := ⟨gb258, 1, none⟩) (Kd.S_far (p := ⟨gb258, 0, none⟩) (Kd.S_types HO257.out BK258.out (by decide)) (fun _ hk => hk.2) (.slice Ao19 t252.length co19)) (fun _ hk => hk.2) (.slice Ao23 t255.length co23)) (fun _ hk => hk.1))⟩, ⟨pp_ BK249.out⟩, ⟨pp_ BK250.out⟩, ⟨pp_ BK258.out⟩, ⟨pb3_ HB.out GE249.out GE250.out GE258.out⟩⟩
  clear H'
  try clear c1
  try clear c2
  try clear p2
  try clear c4
  try clear c6
  try clear c6b0
  try clear c6b1
  try clear c8
  try clear c11
  try clear c12
  try clear c15
  try clear c20
  try clear c21
  try clear hcz13_0
  try clear hcz13_1
  try clear hcz16_0
  try clear hcz16_1
  try clear hcz22_0
  try clear hcz22_1
  try clear hcz9_0
  try clear hcz9_1
  try clear hfz13_0
  try clear hfz13_1
  try clear hfz16_0
  try clear hfz16_1
  try clear hfz22_0
  try clear hfz22_1
  try clear hfz9_0
  try clear hfz9_1
  try clear p2
  obtain ⟨x7_2, x259000_2, x259001_2, u259000, u259001, rfl, HA, HK2, HO_259000, HO_259001, BK249, BK250, BK258, HB⟩ := hrel
  rcases gk with _ | k2
  · exact absurd HA.out (by simp [spec_PassPath.l0])
  have H := HA.out
  clear HA
  simp only [spec_PassPath.l0] at H
  by_cases c24 : x7_2 < (l0.length : Int)
  rotate_left
  · rw [if_neg c24] at H
    have c24b0 : decide (x7_2 < (l0.length : Int)) = false := decide_eq_false c24
    clear c24
    simp only [Option.some.injEq, Prod.mk.injEq] at H
    obtain ⟨rfl, rfl, rfl⟩ := H
    have hnb25 := NB258_249.out
    have hnc25 := NB249_258.out
    have hnb26 := NB258_250.out
    have hnc26 := NB250_258.out
    obtain ⟨hcz27_0, hcz27_1, hfz27_0, hfz27_1⟩ := bc2_ BK258.out
    obtain ⟨Ao28, co28, eo28⟩ := Kd.R_slice HO_259000.out
    subst eo28
    have hnb29 := NB250_249.out
    have hnc29 := NB249_250.out
    obtain ⟨hcz30_0, hcz30_1, hfz30_0, hfz30_1⟩ := bc2_ BK250.out
    obtain ⟨Ao31, co31, eo31⟩ := Kd.S_slice HO_259001.out
    subst eo31
    go_wp2
    refine bodyPost_ret (results_ct rfl _ _ gb250 63 #[.slice Ao28 x259000_2.length co28, .slice Ao31 x259001_2.length co31] (0, 0) _ rfl (pp_ BK250.out) Try.underlying63 rfl (by kernel_rfl)) rfl ?_
    exact ⟨_, _, er_, pr_ (Kd.R_mono (rf2_ HO_259000.out BK250.out) (fun _ hk => trivial)), ps_ (Kd.S_mono (Kd.S_far (p := ⟨gb250, 1, none⟩) (Kd.S_far (p := ⟨gb250, 0, none⟩) (Kd.S_types HO_259001.out BK250.out (by decide)) (fun _ hk => hk.2) (.slice Ao28 x259000_2.length co28)) (fun _ hk => hk.2) (.slice Ao31 x259001_2.length co31)) (fun _ hk => hk.1)), pb3_ HB.out GE249.out GE250.out GE258.out⟩
  rw [if_pos c24] at H
  have c24b0 : decide (x7_2 < (l0.length : Int)) = true := decide_eq_true c24
  clear c24
  by_cases c32 : 0 ≤ x7_2
  rotate_left
  · rw [if_neg c32] at H
    exact absurd H (by simp)
  rw [if_pos c32] at H
  have c32b0 : decide (0 ≤ x7_2) = true := decide_eq_true c32
  clear c32
  replace H := Option.bind_eq_some_iff.mp H
  obtain ⟨⟨t260, t263, t266⟩, A330, H⟩ := H
  (try dsimp only at H)
  have A33 := Aside0.mk A330
  clear A330
  have HS_ := Aside0.mk H
  clear H
  obtain ⟨Ao34, co34, eo34⟩ := Kd.R_slice HO_259000.out
  subst eo34
  obtain ⟨Ao35, co35, eo35⟩ := Kd.S_slice HO_259001.out
  subst eo35
  try go_wp2
  have n0_ := Aside0.mk (Kd.R_drew HO_259000.out)
  have n1_ := Aside0.mk (Kd.S_drew HO_259001.out)
  have n2_ := Aside0.mk (blk_drew BK249.out)
  have n3_ := Aside0.mk (blk_drew BK250.out)
  have n4_ := Aside0.mk (blk_drew BK258.out)
  have n5_ := Aside0.mk (below_drew1 HB.out)
  clear HO_259000
  clear HO_259001
  clear BK249
  clear BK250
  clear BK258
  clear HB
  have HO_259000 := n0_
  have HO_259001 := n1_
  have BK249 := n2_
  have BK250 := n3_
  have BK258 := n4_
  have HB := n5_
  clear n0_ n1_ n2_ n3_ n4_ n5_
  have p259 : 0 ≤ (x7_2 : Int) := dt_
  have q259 : x7_2 < (l0.length : Int) := dt_
  obtain ⟨ad259, A259_1, c259_1, A259_2, c259_2, e259, hx259_0, hx259_1, hx259_2, hx259_3, hl259_1, hi259_1, hl259_2, hi259_2⟩ := at_T50 HR0.out x7_2 p259 q259
  have hw259_3 := hx259_3
  have hw259_2 := hx259_2
  have hw259_1 := hx259_1
  have hw259_0 := hx259_0
  cases e259
  replace hx259_0 := (HB.out.cell (World.block_lt_of_cell? w _ hx259_0)).trans hx259_0
  replace hx259_1 := (HB.out.cell (World.block_lt_of_cell? w _ hx259_1)).trans hx259_1
  replace hx259_2 := (HB.out.cell (World.block_lt_of_cell? w _ hx259_2)).trans hx259_2
  replace hx259_3 := (HB.out.cell (World.block_lt_of_cell? w _ hx259_3)).trans hx259_3
  have HR259_1 := Aside0.mk hi259_1
  have HC259_1 := Aside0.mk hl259_1
  clear hi259_1 hl259_1
  have HR259_2 := Aside0.mk hi259_2
  have HC259_2 := Aside0.mk hl259_2
  clear hi259_2 hl259_2
  replace p259 := eq_true p259
  replace q259 := eq_true q259
  refine start_ (n := 12) (S := fun w' => w'.cell? ⟨gb258, 0, none⟩ = some (.slice Ao34 x259000_2.length co34) ∧ w'.cell? ⟨gb258, 1, none⟩ = some (.slice Ao35 x259001_2.length co35) ∧ w'.cell? (ad259.add ((x7_2).toNat * 4)) = some (.int .i64 ((rd_T50 l0 x7_2).f0)) ∧ w'.cell? ⟨(ad259.add ((x7_2).toNat * 4)).block, (ad259.add ((x7_2).toNat * 4)).off + 1, none⟩ = some (.slice A259_1 ((rd_T50 l0 x7_2).f1).length c259_1) ∧ w'.cell? ⟨(ad259.add ((x7_2).toNat * 4)).block, (ad259.add ((x7_2).toNat * 4)).off + 2, none⟩ = some (.slice A259_2 ((rd_T50 l0 x7_2).f2).length c259_2) ∧ w'.cell? ⟨(ad259.add ((x7_2).toNat * 4)).block, (ad259.add ((x7_2).toNat * 4)).off + 3, none⟩ = some (.bool ((rd_T50 l0 x7_2).f3))) (ds := []) #[false, false, false, false, false, false, false, false, false, false, false, false] (by kernel_rfl) rfl rfl ⟨(blk_cell BK258.out 0).trans rfl, (blk_cell BK258.out 1).trans rfl, ((HB.out.cell (World.block_lt_of_cell? w _ hw259_0)).trans hw259_0), ((HB.out.cell (World.block_lt_of_cell? w _ hw259_1)).trans hw259_1), ((HB.out.cell (World.block_lt_of_cell? w _ hw259_2)).trans hw259_2), ((HB.out.cell (World.block_lt_of_cell? w _ hw259_3)).trans hw259_3)⟩ (fun hHeld => ?_); refine with_tabW spec_PassPath.tab7 spec_PassPath.bits7 (fun HT_ HW_ => ?_)
  generalize wr.drew = w36 at HO_259000 HO_259001 BK249 BK250 BK258 HB HR259_1 HR259_2 hx259_0 hx259_1 hx259_2 hx259_3 hHeld ⊢
  refine pu_ 0 (some 28) (tf_ 1 12) HT_ ?_
  refine pu_ 1 (some 29) (tf_ 2 12) HT_ ?_
  refine pu_ 2 (some 30) (tf_ 3 12) HT_ ?_
  refine ta_ 3 (some 31) (tf_ 4 12) HT_ HW_ hHeld ?_
  refine ta_ 4 (some 32) (tf_ 5 12) HT_ HW_ hHeld ?_
  refine join_ (σ := Value × Value × Nat) 2 #[true, true, true, true, true, true, true, true, true, true, false, false] (fun s_ => [(33, .tuple #[.agg #[s_.1, s_.2.1], .bool t266]), (8, .pointer (some ⟨s_.2.2, 0, none⟩)), (27, .tuple #[.agg #[s_.1, s_.2.1], .bool t266]), (34, .agg #[s_.1, s_.2.1]), (35, .bool t266)]) (fun s_ w' => (w'.cell? ⟨gb258, 0, none⟩ = some (.slice Ao34 x259000_2.length co34) ∧ w'.cell? ⟨gb258, 1, none⟩ = some (.slice Ao35 x259001_2.length co35) ∧ w'.cell? (ad259.add ((x7_2).toNat * 4)) = some (.int .i64 ((rd_T50 l0 x7_2).f0)) ∧ w'.cell? ⟨(ad259.add ((x7_2).toNat * 4)).block, (ad259.add ((x7_2).toNat * 4)).off + 1, none⟩ = some (.slice A259_1 ((rd_T50 l0 x7_2).f1).length c259_1) ∧ w'.cell? ⟨(ad259.add ((x7_2).toNat * 4)).block, (ad259.add ((x7_2).toNat * 4)).off + 2, none⟩ = some (.slice A259_2 ((rd_T50 l0 x7_2).f2).length c259_2) ∧ w'.cell? ⟨(ad259.add ((x7_2).toNat * 4)).block, (ad259.add ((x7_2).toNat * 4)).off + 3, none⟩ = some (.bool ((rd_T50 l0 x7_2).f3))) ∧ (Kd.R (Kd.int .i64) 3 w' w.heap.size (fun k_ => some k_ ≠ (.slice Ao34 x259000_2.length co34 : Value).ownBlock) s_.1 t260) ∧ (Kd.S k69 69 w' w.heap.size (fun k_ => some k_ ≠ (s_.1 : Value).ownBlock ∧ some k_ ≠ (.slice Ao34 x259000_2.length co34 : Value).ownBlock ∧ some k_ ≠ (.slice Ao35 x259001_2.length co35 : Value).ownBlock) s_.2.1 t263) ∧ (Kd.R (Kd.int .i64) 3 w' w.heap.size (fun k_ => some k_ ≠ (s_.1 : Value).ownBlock) (.slice Ao34 x259000_2.length co34) x259000_2) ∧ (Kd.S k69 69 w' w.heap.size (fun k_ => some k_ ≠ (s_.1 : Value).ownBlock ∧ some k_ ≠ (s_.2.1 : Value).ownBlock ∧ some k_ ≠ (.slice Ao34 x259000_2.length co34 : Value).ownBlock) (.slice Ao35 x259001_2.length co35) x259001_2) ∧ (w'.heap[gb249]? = some (.cells #[.slice A1_0 l1_0.length c1_0, .slice A1_1 l1_1.length c1_1] 63 (0, 0))) ∧ (w'.heap[gb250]? = some (.cells #[.slice none 0 0, .slice none 0 0] 63 (0, 0))) ∧ (w'.heap[gb258]? = some (.cells #[.slice Ao34 x259000_2.length co34, .slice Ao35 x259001_2.length co35] 63 (0, 0))) ∧ (w'.heap[s_.2.2]? = some (.cells #[.slice none 0 0, .slice none 0 0] 63 (0, 0))) ∧ (w.heap.size ≤ s_.2.2) ∧ (w.heap.size ≤ s_.2.2) ∧ (gb249 ≠ s_.2.2) ∧ (s_.2.2 ≠ gb249) ∧ (gb250 ≠ s_.2.2) ∧ (s_.2.2 ≠ gb250) ∧ (gb258 ≠ s_.2.2) ∧ (s_.2.2 ≠ gb258) ∧ (Below w.heap.size w w')) ?_ ?_
  rotate_left
  · intro hCont
    refine two_ (i := 5) (j := 9) (Ni := some 33) (Nj := some 8) #[true, true, true, true, true, true, false, false, false, false, false, false] #[true, true, true, true, true, false, false, false, false, true, false, false] rfl rfl rfl rfl (two_of HT_.out (by kernel_rfl)) (by decide) (by decide) (fun K hK => ?_) (fun K hK => ?_)
    · skip
      refine goes_ Try.func70 (by kernel_rfl) rfl #[.agg #[.int .i64 ((rd_T50 l0 x7_2).f0), .slice A259_1 ((rd_T50 l0 x7_2).f1).length c259_1, .slice A259_2 ((rd_T50 l0 x7_2).f2).length c259_2, .bool ((rd_T50 l0 x7_2).f3)], .agg #[.slice Ao34 x259000_2.length co34, .slice Ao35 x259001_2.length co35]] (by rfl) rfl rfl mp_ ?_
      with_reducible refine (spec_PassBox.calls k2 ((rd_T50 l0 x7_2).f0) _ _ ((rd_T50 l0 x7_2).f1) _ _ ((rd_T50 l0 x7_2).f2) ((rd_T50 l0 x7_2).f3) _ _ x259000_2 _ _ x259001_2 t260 t263 t266 _ ?side1 ?side2 ?side3 ?side4 ?side5 ?side6 ?side7 ?side8 A33.out).mono ?_
      (case side1 => exact pc_ (Kd.C_below HR259_1.out HB.out))
      (case side2 => exact HC259_1.out)
      (case side3 => exact pc_ (Kd.C_below HR259_2.out HB.out))
      (case side4 => exact HC259_2.out)
      (case side5 => exact pc_ ((Kd.R_reads' HO_259000.out).2.2))
      (case side6 => exact (Kd.R_reads' HO_259000.out).2.1)
      (case side7 => exact pc_ ((Kd.S_reads' HO_259001.out).2.2))
      (case side8 => exact (Kd.S_reads' HO_259001.out).2.1)
      rintro e w37 ⟨v261, v264, rfl, ho0, ho1, hb⟩
      refine ⟨_, rfl, ?_⟩
      have n0_ := Aside0.mk (Kd.R_elder' (pr_ HO_259000.out) (Kd.R_base ho0) hb)
      have n1_ := Aside0.mk (Kd.S_mono (Kd.S_told (Kd.S_told (Kd.S_old (ps_ HO_259001.out) hb) (Kd.R_base ho0)) (Kd.S_base ho1)) (fun _ h_ => h_.1))
      have n2_ := Aside0.mk (Kd.R_lower (Kd.R_new' ho0 (Kd.R_lt (pr_ HO_259000.out))) (below_size (pb3_ HB.out GE249.out GE250.out GE258.out)))
      have n3_ := Aside0.mk (Kd.S_lower (Kd.S_new' (Kd.S_new' ho1 (Kd.R_lt (pr_ HO_259000.out))) (Kd.S_lt (ps_ HO_259001.out))) (below_size (pb3_ HB.out GE249.out GE250.out GE258.out)))
      have n4_ := Aside0.mk (bb_ BK249.out hb)
      have n5_ := Aside0.mk (bb_ BK250.out hb)
      have n6_ := Aside0.mk (bb_ BK258.out hb)
      have n7_ := Aside0.mk (below_step (pb3_ HB.out GE249.out GE250.out GE258.out) hb)
      clear HO_259000
      clear HO_259001
      clear BK249
      clear BK250
      clear BK258
      clear HB
      have HO_259000 := n0_
      have HO_259001 := n1_
      have HO262 := n2_
      have HO265 := n3_
      have BK249 := n4_
      have BK250 := n5_
      have BK258 := n6_
      have HB := n7_
      clear n0_ n1_ n2_ n3_ n4_ n5_ n6_ n7_
      (try clear hb)
      (try clear hb2)
      (try clear hk)
      (try clear hi)
      (try clear ho0)
      (try clear ho1)
      refine hK.out _ _ ⟨(blk_cell BK258.out 0).trans rfl, (blk_cell BK258.out 1).trans rfl, ((HB.out.cell (World.block_lt_of_cell? w _ hw259_0)).trans hw259_0), ((HB.out.cell (World.block_lt_of_cell? w _ hw259_1)).trans hw259_1), ((HB.out.cell (World.block_lt_of_cell? w _ hw259_2)).trans hw259_2), ((HB.out.cell (World.block_lt_of_cell? w _ hw259_3)).trans hw259_3)⟩ (fun hHeld => ?_)
      clear hK K
      refine no_ (some 33) ?_
      refine pu_ 6 (some 27) (tf_ 7 12) HT_ ?_
      refine pu_ 7 (some 34) (tf_ 8 12) HT_ ?_
      refine pu_ 8 (some 35) (tf_ 9 12) HT_ ?_
      refine on_ 9 (some 8) (tf_ 10 12) HT_ (fun K hK => ?_)
      refine box_step ?hg (N := 8) ?hd (cs := #[.slice none 0 0, .slice none 0 0]) (t := 63) ?hr ?_; (case hd => rfl); (case hg => rfl); (case hr => first | (go_simp; done) | (go_simp; rfl))
      intro gb267 hg w38 hbox hb
      have n0_ := Aside0.mk (Kd.R_below (pr_ HO_259000.out) hb)
      have n1_ := Aside0.mk (Kd.S_below (ps_ HO_259001.out) hb)
      have n2_ := Aside0.mk (Kd.R_below (pr_ HO262.out) hb)
      have n3_ := Aside0.mk (Kd.S_below (ps_ HO265.out) hb)
      have n4_ := Aside0.mk (bb_ BK249.out hb)
      have n5_ := Aside0.mk (bb_ BK250.out hb)
      have n6_ := Aside0.mk (bb_ BK258.out hb)
      have n7_ := Aside0.mk (below_step (pb3_ HB.out GE249.out GE250.out GE258.out) hb)
      have n8_ := Aside0.mk (hbox)
      have n9_ := Aside0.mk ((by rw [hg]; exact (below_size (pb3_ HB.out GE249.out GE250.out GE258.out)) : w.heap.size ≤ gb267))
      have n10_ := Aside0.mk ((by rw [hg]; exact (below_size (pb3_ HB.out GE249.out GE250.out GE258.out)) : w.heap.size ≤ gb267))
      have n11_ := Aside0.mk ((by rw [hg]; exact Nat.ne_of_lt (blk_lt (pk_ BK249.out)) : gb249 ≠ gb267))
      have n12_ := Aside0.mk ((by rw [hg]; exact Nat.ne_of_gt (blk_lt (pk_ BK249.out)) : gb267 ≠ gb249))
      have n13_ := Aside0.mk ((by rw [hg]; exact Nat.ne_of_lt (blk_lt (pk_ BK250.out)) : gb250 ≠ gb267))
      have n14_ := Aside0.mk ((by rw [hg]; exact Nat.ne_of_gt (blk_lt (pk_ BK250.out)) : gb267 ≠ gb250))
      have n15_ := Aside0.mk ((by rw [hg]; exact Nat.ne_of_lt (blk_lt (pk_ BK258.out)) : gb258 ≠ gb267))
      have n16_ := Aside0.mk ((by rw [hg]; exact Nat.ne_of_gt (blk_lt (pk_ BK258.out)) : gb267 ≠ gb258))
      clear HO_259000
      clear HO_259001
      clear HO262
      clear HO265
      clear BK249
      clear BK250
      clear BK258
      clear HB
      have HO_259000 := n0_
      have HO_259001 := n1_
      have HO262 := n2_
      have HO265 := n3_
      have BK249 := n4_
      have BK250 := n5_
      have BK258 := n6_
      have HB := n7_
      have BK267 := n8_
      have GW267 := n9_
      have GE267 := n10_
      have NB249_267 := n11_
      have NB267_249 := n12_
      have NB250_267 := n13_
      have NB267_250 := n14_
      have NB258_267 := n15_
      have NB267_258 := n16_
      clear n0_ n1_ n2_ n3_ n4_ n5_ n6_ n7_ n8_ n9_ n10_ n11_ n12_ n13_ n14_ n15_ n16_
      clear hb hbox hg
      refine hK.out _ _ ⟨(blk_cell BK258.out 0).trans rfl, (blk_cell BK258.out 1).trans rfl, ((HB.out.cell (World.block_lt_of_cell? w _ hw259_0)).trans hw259_0), ((HB.out.cell (World.block_lt_of_cell? w _ hw259_1)).trans hw259_1), ((HB.out.cell (World.block_lt_of_cell? w _ hw259_2)).trans hw259_2), ((HB.out.cell (World.block_lt_of_cell? w _ hw259_3)).trans hw259_3)⟩ (fun hHeld => ?_)
      clear hK K
      refine no_ (some 8) ?_
      exact norm_ (by simp only [putAll, Act.put, List.setIfInBounds_toArray, List.set_cons_zero, List.set_cons_succ]) (hCont (v261, v264, gb267) _ ⟨hHeld, (pr_ (Kd.R_mono HO262.out (fun _ hk => hk.2))), (by (with_reducible repeat (first | apply Kd.S_alloc | apply Kd.S_drewN | apply Kd.S_drew)); exact Kd.S_mono HO265.out (fun _ hk => ⟨hk.1.1, ⟨hk.1.2, hk.2⟩⟩)), (pr_ (Kd.R_mono HO_259000.out (fun _ hk => hk.2))), (by (with_reducible repeat (first | apply Kd.S_alloc | apply Kd.S_drewN | apply Kd.S_drew)); exact Kd.S_mono HO_259001.out (fun _ hk => ⟨hk.1.2, ⟨hk.2, hk.1.1⟩⟩)), (pk_ BK249.out), (pk_ BK250.out), (pk_ BK258.out), (pk_ BK267.out), GW267.out, GE267.out, NB249_267.out, NB267_249.out, NB250_267.out, NB267_250.out, NB258_267.out, NB267_258.out, (pb4_ HB.out GE249.out GE250.out GE258.out GE267.out)⟩)
    · skip
      refine box_step ?hg (N := 8) ?hd (cs := #[.slice none 0 0, .slice none 0 0]) (t := 63) ?hr ?_; (case hd => rfl); (case hg => rfl); (case hr => first | (go_simp; done) | (go_simp; rfl))
      intro gb267 hg w37 hbox hb
      have n0_ := Aside0.mk (Kd.R_below (pr_ HO_259000.out) hb)
      have n1_ := Aside0.mk (Kd.S_below (ps_ HO_259001.out) hb)
      have n2_ := Aside0.mk (bb_ BK249.out hb)
      have n3_ := Aside0.mk (bb_ BK250.out hb)
      have n4_ := Aside0.mk (bb_ BK258.out hb)
      have n5_ := Aside0.mk (below_step (pb3_ HB.out GE249.out GE250.out GE258.out) hb)
      have n6_ := Aside0.mk (hbox)
      have n7_ := Aside0.mk ((by rw [hg]; exact (below_size (pb3_ HB.out GE249.out GE250.out GE258.out)) : w.heap.size ≤ gb267))
      have n8_ := Aside0.mk ((by rw [hg]; exact (below_size (pb3_ HB.out GE249.out GE250.out GE258.out)) : w.heap.size ≤ gb267))
      have n9_ := Aside0.mk ((by rw [hg]; exact Nat.ne_of_lt (blk_lt (pk_ BK249.out)) : gb249 ≠ gb267))
      have n10_ := Aside0.mk ((by rw [hg]; exact Nat.ne_of_gt (blk_lt (pk_ BK249.out)) : gb267 ≠ gb249))
      have n11_ := Aside0.mk ((by rw [hg]; exact Nat.ne_of_lt (blk_lt (pk_ BK250.out)) : gb250 ≠ gb267))
      have n12_ := Aside0.mk ((by rw [hg]; exact Nat.ne_of_gt (blk_lt (pk_ BK250.out)) : gb267 ≠ gb250))
      have n13_ := Aside0.mk ((by rw [hg]; exact Nat.ne_of_lt (blk_lt (pk_ BK258.out)) : gb258 ≠ gb267))
      have n14_ := Aside0.mk ((by rw [hg]; exact Nat.ne_of_gt (blk_lt (pk_ BK258.out)) : gb267 ≠ gb258))
      clear HO_259000
      clear HO_259001
      clear BK249
      clear BK250
      clear BK258
      clear HB
      have HO_259000 := n0_
      have HO_259001 := n1_
      have BK249 := n2_
      have BK250 := n3_
      have BK258 := n4_
      have HB := n5_
      have BK267 := n6_
      have GW267 := n7_
      have GE267 := n8_
      have NB249_267 := n9_
      have NB267_249 := n10_
      have NB250_267 := n11_
      have NB267_250 := n12_
      have NB258_267 := n13_
      have NB267_258 := n14_
      clear n0_ n1_ n2_ n3_ n4_ n5_ n6_ n7_ n8_ n9_ n10_ n11_ n12_ n13_ n14_
      clear hb hbox hg
      refine hK.out _ _ ⟨(blk_cell BK258.out 0).trans rfl, (blk_cell BK258.out 1).trans rfl, ((HB.out.cell (World.block_lt_of_cell? w _ hw259_0)).trans hw259_0), ((HB.out.cell (World.block_lt_of_cell? w _ hw259_1)).trans hw259_1), ((HB.out.cell (World.block_lt_of_cell? w _ hw259_2)).trans hw259_2), ((HB.out.cell (World.block_lt_of_cell? w _ hw259_3)).trans hw259_3)⟩ (fun hHeld => ?_)
      clear hK K
      refine no_ (some 8) ?_
      refine on_ 5 (some 33) #[true, true, true, true, true, true, false, false, false, true, false, false] HT_ (fun K hK => ?_)
      refine goes_ Try.func70 (by kernel_rfl) rfl #[.agg #[.int .i64 ((rd_T50 l0 x7_2).f0), .slice A259_1 ((rd_T50 l0 x7_2).f1).length c259_1, .slice A259_2 ((rd_T50 l0 x7_2).f2).length c259_2, .bool ((rd_T50 l0 x7_2).f3)], .agg #[.slice Ao34 x259000_2.length co34, .slice Ao35 x259001_2.length co35]] (by rfl) rfl rfl mp_ ?_
      with_reducible refine (spec_PassBox.calls k2 ((rd_T50 l0 x7_2).f0) _ _ ((rd_T50 l0 x7_2).f1) _ _ ((rd_T50 l0 x7_2).f2) ((rd_T50 l0 x7_2).f3) _ _ x259000_2 _ _ x259001_2 t260 t263 t266 _ ?side1 ?side2 ?side3 ?side4 ?side5 ?side6 ?side7 ?side8 A33.out).mono ?_
      (case side1 => exact pc_ (Kd.C_below HR259_1.out HB.out))
      (case side2 => exact HC259_1.out)
      (case side3 => exact pc_ (Kd.C_below HR259_2.out HB.out))
      (case side4 => exact HC259_2.out)
      (case side5 => exact pc_ ((Kd.R_reads' HO_259000.out).2.2))
      (case side6 => exact (Kd.R_reads' HO_259000.out).2.1)
      (case side7 => exact pc_ ((Kd.S_reads' HO_259001.out).2.2))
      (case side8 => exact (Kd.S_reads' HO_259001.out).2.1)
      rintro e w38 ⟨v261, v264, rfl, ho0, ho1, hb⟩
      refine ⟨_, rfl, ?_⟩
      have n0_ := Aside0.mk (Kd.R_elder' (pr_ HO_259000.out) (Kd.R_base ho0) hb)
      have n1_ := Aside0.mk (Kd.S_mono (Kd.S_told (Kd.S_told (Kd.S_old (ps_ HO_259001.out) hb) (Kd.R_base ho0)) (Kd.S_base ho1)) (fun _ h_ => h_.1))
      have n2_ := Aside0.mk (Kd.R_lower (Kd.R_new' ho0 (Kd.R_lt (pr_ HO_259000.out))) (below_size (pb4_ HB.out GE249.out GE250.out GE258.out GE267.out)))
      have n3_ := Aside0.mk (Kd.S_lower (Kd.S_new' (Kd.S_new' ho1 (Kd.R_lt (pr_ HO_259000.out))) (Kd.S_lt (ps_ HO_259001.out))) (below_size (pb4_ HB.out GE249.out GE250.out GE258.out GE267.out)))
      have n4_ := Aside0.mk (bb_ BK249.out hb)
      have n5_ := Aside0.mk (bb_ BK250.out hb)
      have n6_ := Aside0.mk (bb_ BK258.out hb)
      have n7_ := Aside0.mk (bb_ BK267.out hb)
      have n8_ := Aside0.mk (below_step (pb4_ HB.out GE249.out GE250.out GE258.out GE267.out) hb)
      clear HO_259000
      clear HO_259001
      clear BK249
      clear BK250
      clear BK258
      clear BK267
      clear HB
      have HO_259000 := n0_
      have HO_259001 := n1_
      have HO262 := n2_
      have HO265 := n3_
      have BK249 := n4_
      have BK250 := n5_
      have BK258 := n6_
      have BK267 := n7_
      have HB := n8_
      clear n0_ n1_ n2_ n3_ n4_ n5_ n6_ n7_ n8_
      (try clear hb)
      (try clear hb2)
      (try clear hk)
      (try clear hi)
      (try clear ho0)
      (try clear ho1)
      refine hK.out _ _ ⟨(blk_cell BK258.out 0).trans rfl, (blk_cell BK258.out 1).trans rfl, ((HB.out.cell (World.block_lt_of_cell? w _ hw259_0)).trans hw259_0), ((HB.out.cell (World.block_lt_of_cell? w _ hw259_1)).trans hw259_1), ((HB.out.cell (World.block_lt_of_cell? w _ hw259_2)).trans hw259_2), ((HB.out.cell (World.block_lt_of_cell? w _ hw259_3)).trans hw259_3)⟩ (fun hHeld => ?_)
      clear hK K
      refine no_ (some 33) ?_
      refine pu_ 6 (some 27) #[true, true, true, true, true, true, true, false, false, true, false, false] HT_ ?_
      refine pu_ 7 (some 34) #[true, true, true, true, true, true, true, true, false, true, false, false] HT_ ?_
      refine pu_ 8 (some 35) (tf_ 10 12) HT_ ?_
      exact norm_ (by simp only [putAll, Act.put, List.setIfInBounds_toArray, List.set_cons_zero, List.set_cons_succ]) (hCont (v261, v264, gb267) _ ⟨hHeld, (pr_ (Kd.R_mono HO262.out (fun _ hk => hk.2))), (by (with_reducible repeat (first | apply Kd.S_alloc | apply Kd.S_drewN | apply Kd.S_drew)); exact Kd.S_mono HO265.out (fun _ hk => ⟨hk.1.1, ⟨hk.1.2, hk.2⟩⟩)), (pr_ (Kd.R_mono HO_259000.out (fun _ hk => hk.2))), (by (with_reducible repeat (first | apply Kd.S_alloc | apply Kd.S_drewN | apply Kd.S_drew)); exact Kd.S_mono HO_259001.out (fun _ hk => ⟨hk.1.2, ⟨hk.2, hk.1.1⟩⟩)), (pk_ BK249.out), (pk_ BK250.out), (pk_ BK258.out), (pk_ BK267.out), GW267.out, GE267.out, NB249_267.out, NB267_249.out, NB250_267.out, NB267_250.out, NB258_267.out, NB267_258.out, (pb4_ HB.out GE249.out GE250.out GE258.out GE267.out)⟩)
  rintro ⟨v261, v264, gb267⟩ w39 ⟨hS_, h0_, h1_, h2_, h3_, h4_, h5_, h6_, h7_, h8_, h9_, h10_, h11_, h12_, h13_, h14_, h15_, h16_⟩
  have n0_ : Aside0 (Kd.R (Kd.int .i64) 3 w39 w.heap.size (fun k_ => some k_ ≠ (.slice Ao34 x259000_2.length co34 : Value).ownBlock) v261 t260) := ⟨h0_⟩
  have n1_ : Aside0 (Kd.S k69 69 w39 w.heap.size (fun k_ => some k_ ≠ (v261 : Value).ownBlock ∧ some k_ ≠ (.slice Ao34 x259000_2.length co34 : Value).ownBlock ∧ some k_ ≠ (.slice Ao35 x259001_2.length co35 : Value).ownBlock) v264 t263) := ⟨h1_⟩
  have n2_ : Aside0 (Kd.R (Kd.int .i64) 3 w39 w.heap.size (fun k_ => some k_ ≠ (v261 : Value).ownBlock) (.slice Ao34 x259000_2.length co34) x259000_2) := ⟨h2_⟩
  have n3_ : Aside0 (Kd.S k69 69 w39 w.heap.size (fun k_ => some k_ ≠ (v261 : Value).ownBlock ∧ some k_ ≠ (v264 : Value).ownBlock ∧ some k_ ≠ (.slice Ao34 x259000_2.length co34 : Value).ownBlock) (.slice Ao35 x259001_2.length co35) x259001_2) := ⟨h3_⟩
  have n4_ : Aside0 (w39.heap[gb249]? = some (.cells #[.slice A1_0 l1_0.length c1_0, .slice A1_1 l1_1.length c1_1] 63 (0, 0))) := ⟨h4_⟩
  have n5_ : Aside0 (w39.heap[gb250]? = some (.cells #[.slice none 0 0, .slice none 0 0] 63 (0, 0))) := ⟨h5_⟩
  have n6_ : Aside0 (w39.heap[gb258]? = some (.cells #[.slice Ao34 x259000_2.length co34, .slice Ao35 x259001_2.length co35] 63 (0, 0))) := ⟨h6_⟩
  have n7_ : Aside0 (w39.heap[gb267]? = some (.cells #[.slice none 0 0, .slice none 0 0] 63 (0, 0))) := ⟨h7_⟩
  have n8_ : Aside0 (w.heap.size ≤ gb267) := ⟨h8_⟩
  have n9_ : Aside0 (w.heap.size ≤ gb267) := ⟨h9_⟩
  have n10_ : Aside0 (gb249 ≠ gb267) := ⟨h10_⟩
  have n11_ : Aside0 (gb267 ≠ gb249) := ⟨h11_⟩
  have n12_ : Aside0 (gb250 ≠ gb267) := ⟨h12_⟩
  have n13_ : Aside0 (gb267 ≠ gb250) := ⟨h13_⟩
  have n14_ : Aside0 (gb258 ≠ gb267) := ⟨h14_⟩
  have n15_ : Aside0 (gb267 ≠ gb258) := ⟨h15_⟩
  have n16_ : Aside0 (Below w.heap.size w w39) := ⟨h16_⟩
  clear HO_259000
  clear HO_259001
  clear BK249
  clear BK250
  clear BK258
  clear HB
  clear h0_ h1_ h2_ h3_ h4_ h5_ h6_ h7_ h8_ h9_ h10_ h11_ h12_ h13_ h14_ h15_ h16_
  have HO262 := n0_
  have HO265 := n1_
  have HO_259000 := n2_
  have HO_259001 := n3_
  have BK249 := n4_
  have BK250 := n5_
  have BK258 := n6_
  have BK267 := n7_
  have GW267 := n8_
  have GE267 := n9_
  have NB249_267 := n10_
  have NB267_249 := n11_
  have NB250_267 := n12_
  have NB267_250 := n13_
  have NB258_267 := n14_
  have NB267_258 := n15_
  have HB := n16_
  clear n0_ n1_ n2_ n3_ n4_ n5_ n6_ n7_ n8_ n9_ n10_ n11_ n12_ n13_ n14_ n15_ n16_
  have hHeld : w39.cell? ⟨gb258, 0, none⟩ = some (.slice Ao34 x259000_2.length co34) ∧ w39.cell? ⟨gb258, 1, none⟩ = some (.slice Ao35 x259001_2.length co35) ∧ w39.cell? (ad259.add ((x7_2).toNat * 4)) = some (.int .i64 ((rd_T50 l0 x7_2).f0)) ∧ w39.cell? ⟨(ad259.add ((x7_2).toNat * 4)).block, (ad259.add ((x7_2).toNat * 4)).off + 1, none⟩ = some (.slice A259_1 ((rd_T50 l0 x7_2).f1).length c259_1) ∧ w39.cell? ⟨(ad259.add ((x7_2).toNat * 4)).block, (ad259.add ((x7_2).toNat * 4)).off + 2, none⟩ = some (.slice A259_2 ((rd_T50 l0 x7_2).f2).length c259_2) ∧ w39.cell? ⟨(ad259.add ((x7_2).toNat * 4)).block, (ad259.add ((x7_2).toNat * 4)).off + 3, none⟩ = some (.bool ((rd_T50 l0 x7_2).f3)) := hS_
  obtain ⟨Ao40, co40, eo40⟩ := Kd.R_slice HO262.out
  (first | subst eo40 | (injection eo40 with f1_ f2_ f3_; have f4_ := f1_.symm; have f5_ := f3_.symm; clear f1_ f2_ f3_; subst f4_; subst f5_))
  obtain ⟨Ao42, co42, eo42⟩ := Kd.S_slice HO265.out
  (first | subst eo42 | (injection eo42 with f1_ f2_ f3_; have f4_ := f1_.symm; have f5_ := f3_.symm; clear f1_ f2_ f3_; subst f4_; subst f5_))
  refine norm_ (a' := ?_) ?_ ?_
  rotate_left
  · simp only [putAll, Act.put, List.setIfInBounds_toArray, List.set_cons_zero, List.set_cons_succ]
    rfl
  refine on_ 10 (none) (tf_ 11 12) HT_ (fun K hK => ?_)
  have hs41 : w39.cell? ⟨gb267, 0, none⟩ = some (.slice none 0 0) := (blk_cell BK267.out 0).trans rfl
  have hfs41 := blk_frozen BK267.out 0
  have hns41_0 := NB249_267.out
  have hns41_1 := NB250_267.out
  have hns41_2 := NB258_267.out
  have hms41_0 := NB267_249.out
  have hms41_1 := NB267_250.out
  have hms41_2 := NB267_258.out
  have hs43 : w39.cell? ⟨gb267, 1, none⟩ = some (.slice none 0 0) := (blk_cell BK267.out 1).trans rfl
  have hfs43 := blk_frozen BK267.out 1
  have hns43_0 := NB249_267.out
  have hns43_1 := NB250_267.out
  have hns43_2 := NB258_267.out
  have hms43_0 := NB267_249.out
  have hms43_1 := NB267_250.out
  have hms43_2 := NB267_258.out
  refine skip_ (w1 := ?_) (by rfl) rfl ?_ ?_
  rotate_left
  · go_simp
    rfl
  refine hK.out _ _ ⟨((cell_far (p := ⟨gb267, _, none⟩) NB258_267.out _).trans (((cell_far (p := ⟨gb267, _, none⟩) NB258_267.out _).trans (hHeld.1)))), ((cell_far (p := ⟨gb267, _, none⟩) NB258_267.out _).trans (((cell_far (p := ⟨gb267, _, none⟩) NB258_267.out _).trans (hHeld.2.1)))), ((cell_far (p := ⟨gb267, _, none⟩) (by first | exact Nat.ne_of_lt (Nat.lt_of_lt_of_le (by have := World.block_lt_of_cell? _ _ hw259_0; first | rwa [add_block] at this | exact this) GW267.out) | (rw [add_block]; exact Nat.ne_of_lt (Nat.lt_of_lt_of_le (by have := World.block_lt_of_cell? _ _ hw259_0; first | rwa [add_block] at this | exact this) GW267.out)) | (show (Addr.add _ _).block ≠ _; rw [add_block]; exact Nat.ne_of_lt (Nat.lt_of_lt_of_le (by have := World.block_lt_of_cell? _ _ hw259_0; first | rwa [add_block] at this | exact this) GW267.out)) | (dsimp only; exact Nat.ne_of_lt (Nat.lt_of_lt_of_le (by have := World.block_lt_of_cell? _ _ hw259_0; first | rwa [add_block] at this | exact this) GW267.out))) _).trans (((cell_far (p := ⟨gb267, _, none⟩) (by first | exact Nat.ne_of_lt (Nat.lt_of_lt_of_le (by have := World.block_lt_of_cell? _ _ hw259_0; first | rwa [add_block] at this | exact this) GW267.out) | (rw [add_block]; exact Nat.ne_of_lt (Nat.lt_of_lt_of_le (by have := World.block_lt_of_cell? _ _ hw259_0; first | rwa [add_block] at this | exact this) GW267.out)) | (show (Addr.add _ _).block ≠ _; rw [add_block]; exact Nat.ne_of_lt (Nat.lt_of_lt_of_le (by have := World.block_lt_of_cell? _ _ hw259_0; first | rwa [add_block] at this | exact this) GW267.out)) | (dsimp only; exact Nat.ne_of_lt (Nat.lt_of_lt_of_le (by have := World.block_lt_of_cell? _ _ hw259_0; first | rwa [add_block] at this | exact this) GW267.out))) _).trans (hHeld.2.2.1)))), ((cell_far (p := ⟨gb267, _, none⟩) (by first | exact Nat.ne_of_lt (Nat.lt_of_lt_of_le (by have := World.block_lt_of_cell? _ _ hw259_1; first | rwa [add_block] at this | exact this) GW267.out) | (rw [add_block]; exact Nat.ne_of_lt (Nat.lt_of_lt_of_le (by have := World.block_lt_of_cell? _ _ hw259_1; first | rwa [add_block] at this | exact this) GW267.out)) | (show (Addr.add _ _).block ≠ _; rw [add_block]; exact Nat.ne_of_lt (Nat.lt_of_lt_of_le (by have := World.block_lt_of_cell? _ _ hw259_1; first | rwa [add_block] at this | exact this) GW267.out)) | (dsimp only; exact Nat.ne_of_lt (Nat.lt_of_lt_of_le (by have := World.block_lt_of_cell? _ _ hw259_1; first | rwa [add_block] at this | exact this) GW267.out))) _).trans (((cell_far (p := ⟨gb267, _, none⟩) (by first | exact Nat.ne_of_lt (Nat.lt_of_lt_of_le (by have := World.block_lt_of_cell? _ _ hw259_1; first | rwa [add_block] at this | exact this) GW267.out) | (rw [add_block]; exact Nat.ne_of_lt (Nat.lt_of_lt_of_le (by have := World.block_lt_of_cell? _ _ hw259_1; first | rwa [add_block] at this | exact this) GW267.out)) | (show (Addr.add _ _).block ≠ _; rw [add_block]; exact Nat.ne_of_lt (Nat.lt_of_lt_of_le (by have := World.block_lt_of_cell? _ _ hw259_1; first | rwa [add_block] at this | exact this) GW267.out)) | (dsimp only; exact Nat.ne_of_lt (Nat.lt_of_lt_of_le (by have := World.block_lt_of_cell? _ _ hw259_1; first | rwa [add_block] at this | exact this) GW267.out))) _).trans (hHeld.2.2.2.1)))), ((cell_far (p := ⟨gb267, _, none⟩) (by first | exact Nat.ne_of_lt (Nat.lt_of_lt_of_le (by have := World.block_lt_of_cell? _ _ hw259_2; first | rwa [add_block] at this | exact this) GW267.out) | (rw [add_block]; exact Nat.ne_of_lt (Nat.lt_of_lt_of_le (by have := World.block_lt_of_cell? _ _ hw259_2; first | rwa [add_block] at this | exact this) GW267.out)) | (show (Addr.add _ _).block ≠ _; rw [add_block]; exact Nat.ne_of_lt (Nat.lt_of_lt_of_le (by have := World.block_lt_of_cell? _ _ hw259_2; first | rwa [add_block] at this | exact this) GW267.out)) | (dsimp only; exact Nat.ne_of_lt (Nat.lt_of_lt_of_le (by have := World.block_lt_of_cell? _ _ hw259_2; first | rwa [add_block] at this | exact this) GW267.out))) _).trans (((cell_far (p := ⟨gb267, _, none⟩) (by first | exact Nat.ne_of_lt (Nat.lt_of_lt_of_le (by have := World.block_lt_of_cell? _ _ hw259_2; first | rwa [add_block] at this | exact this) GW267.out) | (rw [add_block]; exact Nat.ne_of_lt (Nat.lt_of_lt_of_le (by have := World.block_lt_of_cell? _ _ hw259_2; first | rwa [add_block] at this | exact this) GW267.out)) | (show (Addr.add _ _).block ≠ _; rw [add_block]; exact Nat.ne_of_lt (Nat.lt_of_lt_of_le (by have := World.block_lt_of_cell? _ _ hw259_2; first | rwa [add_block] at this | exact this) GW267.out)) | (dsimp only; exact Nat.ne_of_lt (Nat.lt_of_lt_of_le (by have := World.block_lt_of_cell? _ _ hw259_2; first | rwa [add_block] at this | exact this) GW267.out))) _).trans (hHeld.2.2.2.2.1)))), ((cell_far (p := ⟨gb267, _, none⟩) (by first | exact Nat.ne_of_lt (Nat.lt_of_lt_of_le (by have := World.block_lt_of_cell? _ _ hw259_3; first | rwa [add_block] at this | exact this) GW267.out) | (rw [add_block]; exact Nat.ne_of_lt (Nat.lt_of_lt_of_le (by have := World.block_lt_of_cell? _ _ hw259_3; first | rwa [add_block] at this | exact this) GW267.out)) | (show (Addr.add _ _).block ≠ _; rw [add_block]; exact Nat.ne_of_lt (Nat.lt_of_lt_of_le (by have := World.block_lt_of_cell? _ _ hw259_3; first | rwa [add_block] at this | exact this) GW267.out)) | (dsimp only; exact Nat.ne_of_lt (Nat.lt_of_lt_of_le (by have := World.block_lt_of_cell? _ _ hw259_3; first | rwa [add_block] at this | exact this) GW267.out))) _).trans (((cell_far (p := ⟨gb267, _, none⟩) (by first | exact Nat.ne_of_lt (Nat.lt_of_lt_of_le (by have := World.block_lt_of_cell? _ _ hw259_3; first | rwa [add_block] at this | exact this) GW267.out) | (rw [add_block]; exact Nat.ne_of_lt (Nat.lt_of_lt_of_le (by have := World.block_lt_of_cell? _ _ hw259_3; first | rwa [add_block] at this | exact this) GW267.out)) | (show (Addr.add _ _).block ≠ _; rw [add_block]; exact Nat.ne_of_lt (Nat.lt_of_lt_of_le (by have := World.block_lt_of_cell? _ _ hw259_3; first | rwa [add_block] at this | exact this) GW267.out)) | (dsimp only; exact Nat.ne_of_lt (Nat.lt_of_lt_of_le (by have := World.block_lt_of_cell? _ _ hw259_3; first | rwa [add_block] at this | exact this) GW267.out))) _).trans (hHeld.2.2.2.2.2))))⟩ (fun hHeld => ?_)
  clear hK K
  refine pu_ 11 (some 9) (tf_ 12 12) HT_ ?_
  refine done_ (done_of HT_.out (by kernel_rfl)) ?_
  go_upto_if 37 with (fail)
  have H := HS_.out
  clear HS_
  by_cases c44 : t266 = true
  rotate_left
  · replace c44 := Bool.eq_false_iff.mpr c44
    subst c44
    rw [if_neg (show ¬ (false = true) by decide)] at H
    simp only [Option.some.injEq, Prod.mk.injEq] at H
    obtain ⟨rfl, rfl, rfl⟩ := H
    have hnb45 := NB250_249.out
    have hnc45 := NB249_250.out
    have hnb46 := NB250_258.out
    have hnc46 := NB258_250.out
    have hnb47 := NB250_267.out
    have hnc47 := NB267_250.out
    obtain ⟨hcz48_0, hcz48_1, hfz48_0, hfz48_1⟩ := bc2_ BK250.out
    go_wp2
    refine bodyPost_ret (results_ct rfl _ _ gb250 63 #[.slice none 0 0, .slice none 0 0] (0, 0) _ rfl (pp_ BK250.out) Try.underlying63 rfl (by kernel_rfl)) rfl ?_
    exact ⟨_, _, er_, by first | exact Kd.R_nil _ _ _ _ _ | exact Kd.N_nil _ _ _ _ _ | exact Kd.V_nil _ _ _ _ _ | exact Kd.Q_nil _ _ _ _ _ | exact Kd.S_nil _ _ _ _ _, by first | exact Kd.S_nil _ _ _ _ _ | exact Kd.N_nil _ _ _ _ _ | exact Kd.V_nil _ _ _ _ _ | exact Kd.Q_nil _ _ _ _ _ | exact Kd.R_nil _ _ _ _ _, pb4_ HB.out GE249.out GE250.out GE258.out GE267.out⟩
  subst c44
  rw [if_pos rfl] at H
  have H' := Aside0.mk H
  clear H
  have hnb49 := NB267_249.out
  have hnc49 := NB249_267.out
  have hnb50 := NB267_250.out
  have hnc50 := NB250_267.out
  have hnb51 := NB267_258.out
  have hnc51 := NB258_267.out
  obtain ⟨hcz52_0, hcz52_1, hfz52_0, hfz52_1⟩ := bc2_ BK267.out
  have hnb53 := NB258_249.out
  have hnc53 := NB249_258.out
  have hnb54 := NB258_250.out
  have hnc54 := NB250_258.out
  obtain ⟨hcz55_0, hcz55_1, hfz55_0, hfz55_1⟩ := bc2_ BK258.out
  go_wp2
  go_roundg k2
  case measure => have := HJ2.out; have := HK2.out; omega
  case rel => exact ⟨(wrap64 (x7_2 + 1)), (t260), (t263), (.slice Ao40 t260.length co40), (.slice Ao42 t263.length co42), el_, H', ⟨by have := HJ2.out; have := HK2.out; omega⟩, ⟨pr_ (Kd.R_mono (Kd.R_far (p := ⟨gb258, 1, none⟩) (Kd.R_far (p := ⟨gb258, 0, none⟩) (Kd.R_far (p := ⟨gb267, 1, none⟩) (Kd.R_far (p := ⟨gb267, 0, none⟩) (Kd.R_types (Kd.R_types HO262.out BK267.out (by decide)) BK258.out (by decide)) (fun _ hk => hk.1.2) (.slice Ao40 t260.length co40)) (fun _ hk => hk.1.2) (.slice Ao42 t263.length co42)) (fun _ hk => hk.2) (.slice Ao40 t260.length co40)) (fun _ hk => hk.2) (.slice Ao42 t263.length co42)) (fun _ hk => trivial))⟩, ⟨ps_ (Kd.S_mono (Kd.S_far (p := ⟨gb258, 1, none⟩) (Kd.S_far (p := ⟨gb258, 0, none⟩) (Kd.S_far (p := ⟨gb267, 1, none⟩) (Kd.S_far (p := ⟨gb267, 0, none⟩) (Kd.S_types (Kd.S_types HO265.out BK267.out (by decide)) BK258.out (by decide)) (fun _ hk => hk.1.2) (.slice Ao40 t260.length co40)) (fun _ hk => hk.1.2) (.slice Ao42 t263.length co42)) (fun _ hk => hk.2) (.slice Ao40 t260.length co40)) (fun _ hk => hk.2) (.slice Ao42 t263.length co42)) (fun _ hk => hk.1.1.1))⟩, ⟨pp_ BK249.out⟩, ⟨pp_ BK250.out⟩, ⟨pp_ BK258.out⟩, ⟨pb4_ HB.out GE249.out GE250.out GE258.out GE267.out⟩⟩

/-! ### spec_IsOpenPath: function 42 -/
def spec_IsOpenPath.f (k : Nat) (l0 : List (S50)) (l1 : List Int) : Option (Bool) := (spec_AreVersions.f k l1).bind fun t268 => (if t268 = true then (if 1 ≤ (l1.length : Int) then ((spec_PlainHello.f (l1.take 1)).bind fun bt270 => ((spec_PassPath.f k l0 bt270.1 bt270.2).bind fun bt276 => (some bt276.2.2))) else (none)) else (some false))
theorem spec_IsOpenPath.mono : ∀ a0 a1 k, LeO (spec_IsOpenPath.f k a0 a1) (spec_IsOpenPath.f (k + 1) a0 a1) := by
  intro a0 a1 k
  unfold spec_IsOpenPath.f
  repeat' first
      | (with_reducible exact spec_AreVersions.mono _ _)
      | (with_reducible exact spec_PassPath.mono _ _ _ _)
      | (with_reducible exact LeO.refl _)
      | (with_reducible exact LeO.none _)
      | (with_reducible refine LeO.ite ?_ ?_)
      | (with_reducible refine LeO.bind ?_ (fun _ => ?_))
      | exact spec_AreVersions.mono _ _
      | exact spec_PassPath.mono _ _ _ _
      | exact LeO.none _
      | refine LeO.ite ?_ ?_
      | refine LeO.bind ?_ (fun _ => ?_)
set_option maxHeartbeats 8000000 in
set_option maxRecDepth 100000 in
theorem spec_IsOpenPath.calls (k : Nat) (A0 : Option Addr) (c0 : Nat) (l0 : List (S50)) (A1 : Option Addr) (c1 : Nat) (l1 : List Int) (r : Bool) (w : World) (hr0 : Kd.C k50 w A0 l0.length l0) (hc0 : l0.length ≤ c0) (hr1 : Kd.C (Kd.int .i64) w A1 l1.length l1) (hc1 : l1.length ≤ c1) (h : spec_IsOpenPath.f k l0 l1 = some r) :
    Calls Try.prog 42 #[.slice A0 l0.length c0, .slice A1 l1.length c1] w fun e w' => e = .returned (.bool r) ∧ Below w.heap.size w w' := by
  have hu63 := Try.underlying63
  have HR0 := Aside0.mk hr0
  have HC0 := Aside0.mk hc0
  clear hr0 hc0
  have HR1 := Aside0.mk hr1
  have HC1 := Aside0.mk hc1
  clear hr1 hc1
  have HB := Aside0.mk (Below.refl w.heap.size w)
  have H : ((spec_AreVersions.f k l1).bind fun t268 => (if t268 = true then (if 1 ≤ (l1.length : Int) then ((spec_PlainHello.f (l1.take 1)).bind fun bt270 => ((spec_PassPath.f k l0 bt270.1 bt270.2).bind fun bt276 => (some bt276.2.2))) else (none)) else (some false))) = some r := h
  clear h
  replace H := Option.bind_eq_some_iff.mp H
  obtain ⟨t268, A30, H⟩ := H
  (try dsimp only at H)
  have A3 := Aside0.mk A30
  clear A30
  have HS_ := Aside0.mk H
  clear H
  go_enter Try.func42, Try.ntmps42
  go_upto_if 9 with (first | ((with_reducible refine gate_callee (f := 52) rfl ?_); refine goesL_ (some 8) rfl rfl Try.func52 (by kernel_rfl) rfl #[.slice A1 l1.length c1] rfl mp_ ?_; (with_reducible refine (spec_AreVersions.calls k _ _ l1 t268 _ ?side1 ?side2 A3.out).mono ?_); (case side1 => exact pc_ HR1.out); (case side2 => exact HC1.out); rintro e w' ⟨rfl, ⟨nd, rfl⟩⟩; refine ⟨_, rfl, ?_⟩))
  (try simp only [Act.put, List.setIfInBounds_toArray, List.set_cons_zero, List.set_cons_succ])
  have H := HS_.out
  clear HS_
  by_cases c4 : t268 = true
  rotate_left
  · replace c4 := Bool.eq_false_iff.mpr c4
    subst c4
    rw [if_neg (show ¬ (false = true) by decide)] at H
    obtain rfl := Option.some.inj H
    go_wp2
    go_ret
    exact ⟨er_, pb_ HB.out⟩
  subst c4
  rw [if_pos rfl] at H
  by_cases c5 : 1 ≤ (l1.length : Int)
  rotate_left
  · rw [if_neg c5] at H
    exact absurd H (by simp)
  rw [if_pos c5] at H
  have c5b0 := eq_true c5
  have c5b1 : decide (1 ≤ (l1.length : Int)) = true := decide_eq_true c5
  clear c5
  replace H := Option.bind_eq_some_iff.mp H
  obtain ⟨⟨t270, t273⟩, A60, H⟩ := H
  (try dsimp only at H)
  have A6 := Aside0.mk A60
  clear A60
  replace H := Option.bind_eq_some_iff.mp H
  obtain ⟨⟨t276, t279, t282⟩, A70, H⟩ := H
  replace H : (some t282) = some r := H
  have A7 := Aside0.mk A70
  clear A70
  obtain rfl := Option.some.inj H
  obtain ⟨i08, hi08, _, hsz8, _⟩ := info_parts info3
  obtain ⟨hcut8, hA8, hC8⟩ := print_take_of (P := Try.prog) (Value.int .i64) 0 23 3 .i64 Try.underlying23 hi08 hsz8 A1 c1 l1 1 (by omega) dt_ HC1.out
  have HR269 := Aside0.mk (Kd.C_of_reads (h1 := fun _ => rfl) (hA8 _ (Kd.reads_of_C HR1.out)))
  have HC269 := Aside0.mk hC8
  clear hA8 hC8 hi08 hsz8
  go_wp2_with (first | ((with_reducible refine gate_callee (f := 43) rfl ?_); refine goesL_ (some 14) rfl rfl Try.func43 (by kernel_rfl) rfl #[.slice A1 (l1.take 1).length c1] rfl (by (try simp only [List.map_toArray, List.map_cons, List.map_nil]); first | done | (rw [show (l1.take 1).length = 1 from (by rw [List.length_take]; have h_ : (1 : Int) ≤ (l1.length : Int) := dt_; omega)] <;> rfl) | rfl | (simp only [List.length_drop, List.length_take]; rfl)) ?_; (with_reducible refine (spec_PlainHello.calls _ _ (l1.take 1) t270 t273 _ ?side1 ?side2 A6.out).mono ?_); (case side1 => exact pc_ (Kd.C_below HR269.out (pb_ HB.out))); (case side2 => exact HC269.out); rintro e w9 ⟨v271, v274, rfl, ho0, ho1, hb⟩; refine ⟨_, rfl, ?_⟩; have n0_ := Aside0.mk (Kd.R_lower ho0 (below_size (pb_ HB.out))); have n1_ := Aside0.mk (Kd.S_lower ho1 (below_size (pb_ HB.out))); have n2_ := Aside0.mk (below_step (pb_ HB.out) hb); clear HB; have HO272 := n0_; have HO275 := n1_; have HB := n2_; clear n0_ n1_ n2_; (try clear hb); (try clear hb2); (try clear hk); (try clear hi); (try clear ho0); (try clear ho1); obtain ⟨Ao10, co10, eo10⟩ := Kd.R_slice HO272.out; subst eo10; obtain ⟨Ao11, co11, eo11⟩ := Kd.S_slice HO275.out; subst eo11) | ((with_reducible refine gate_callee (f := 44) rfl ?_); refine goesL_ (some 15) rfl rfl Try.func44 (by kernel_rfl) rfl #[.slice A0 l0.length c0, .agg #[.slice Ao10 t270.length co10, .slice Ao11 t273.length co11]] rfl mp_ ?_; (with_reducible refine (spec_PassPath.calls k _ _ l0 _ _ t270 _ _ t273 t276 t279 t282 _ ?side1 ?side2 ?side3 ?side4 ?side5 ?side6 A7.out).mono ?_); (case side1 => exact pc_ (Kd.C_below HR0.out HB.out)); (case side2 => exact HC0.out); (case side3 => exact pc_ ((Kd.R_reads' HO272.out).2.2)); (case side4 => exact (Kd.R_reads' HO272.out).2.1); (case side5 => exact pc_ ((Kd.S_reads' HO275.out).2.2)); (case side6 => exact (Kd.S_reads' HO275.out).2.1); rintro e w12 ⟨v277, v280, rfl, ho0, ho1, hb⟩; refine ⟨_, rfl, ?_⟩; have n0_ := Aside0.mk (Kd.R_elder' (pr_ HO272.out) (Kd.R_base ho0) hb); have n1_ := Aside0.mk (Kd.S_mono (Kd.S_told (Kd.S_told (Kd.S_old (ps_ HO275.out) hb) (Kd.R_base ho0)) (Kd.S_base ho1)) (fun _ h_ => h_.1)); have n2_ := Aside0.mk (Kd.R_lower (Kd.R_new' ho0 (Kd.R_lt (pr_ HO272.out))) (below_size (pb_ HB.out))); have n3_ := Aside0.mk (Kd.S_lower (Kd.S_new' (Kd.S_new' ho1 (Kd.R_lt (pr_ HO272.out))) (Kd.S_lt (ps_ HO275.out))) (below_size (pb_ HB.out))); have n4_ := Aside0.mk (below_step (pb_ HB.out) hb); clear HO272; clear HO275; clear HB; have HO272 := n0_; have HO275 := n1_; have HO278 := n2_; have HO281 := n3_; have HB := n4_; clear n0_ n1_ n2_ n3_ n4_; (try clear hb); (try clear hb2); (try clear hk); (try clear hi); (try clear ho0); (try clear ho1)) | ((with_reducible refine gate_dst (N := 5) rfl ?_); refine box_event ?hg (N := 5) ?hd (cs := #[.slice none 0 0, .slice none 0 0]) (t := 63) ?hr ?_; (case hd => rfl); (case hg => rfl); (case hr => first | (go_simp; done) | (go_simp; rfl)); intro gb283 hg w13 hbox hb; have n0_ := Aside0.mk (Kd.R_below (pr_ HO272.out) hb); have n1_ := Aside0.mk (Kd.S_below (ps_ HO275.out) hb); have n2_ := Aside0.mk (Kd.R_below (pr_ HO278.out) hb); have n3_ := Aside0.mk (Kd.S_below (ps_ HO281.out) hb); have n4_ := Aside0.mk (below_step (pb_ HB.out) hb); have n5_ := Aside0.mk (hbox); have n6_ := Aside0.mk ((by rw [hg]; exact (below_size (pb_ HB.out)) : w.heap.size ≤ gb283)); have n7_ := Aside0.mk ((by rw [hg]; exact (below_size (pb_ HB.out)) : w.heap.size ≤ gb283)); clear HO272; clear HO275; clear HO278; clear HO281; clear HB; have HO272 := n0_; have HO275 := n1_; have HO278 := n2_; have HO281 := n3_; have HB := n4_; have BK283 := n5_; have GW283 := n6_; have GE283 := n7_; clear n0_ n1_ n2_ n3_ n4_ n5_ n6_ n7_; clear hb hbox hg; obtain ⟨Ao14, co14, eo14⟩ := Kd.R_slice HO278.out; subst eo14; have hcz15_0 : w13.cell? ⟨gb283, 0, none⟩ = some (.slice none 0 0) := (blk_cell BK283.out 0).trans rfl; have hcz15_1 : w13.cell? ⟨gb283, 1, none⟩ = some (.slice none 0 0) := (blk_cell BK283.out 1).trans rfl; have hfz15_0 := blk_frozen BK283.out 0; have hfz15_1 := blk_frozen BK283.out 1; obtain ⟨Ao16, co16, eo16⟩ := Kd.S_slice HO281.out; subst eo16))
  go_ret
  exact ⟨er_, pb1_ HB.out GE283.out⟩

end Go.Proofs.Ytpoandlbmaljhaa.Print
