-- Written by a program of this session (printx.py) out of the translation; Lean checks it.
import Derived.Test.YtpoandlbmaljhaaPrint0
import Derived.Test.YtpoandlbmaljhaaPrint1
import Derived.Test.YtpoandlbmaljhaaPrint2
import Derived.Test.YtpoandlbmaljhaaPrint3
import Derived.Test.YtpoandlbmaljhaaPrint4
namespace Go.Proofs.Ytpoandlbmaljhaa.Print
open Go.RowKit Go.Proofs.YtpoandlbmaljhaaW.PrintWords Go.Proofs.YtpoandlbmaljhaaW.PrintLast Go.Proofs.YtpoandlbmaljhaaW.PrintMore Go.Proofs.Ytpoandlbmaljhaa.Short
attribute [local go_sem] max2_int min2_int max_two min_two max_three min_three max_four min_four   -- for this text's walks alone
set_option linter.unusedVariables false
set_option linter.unusedSimpArgs false

/-! ### spec_PassPath: function 44 -/
mutual
def spec_PassPath.j0 : Nat → List (S50) → Bool → List Int → List (S69) → Option (List Int × (List (S69)) × Bool)
  | 0, _, _, _, _ => none
  | k + 1, x0, x17, x203000, x203001 => if x17 = true then (some (([] : List Int), ([] : List (S69)), false)) else ((spec_l18Hello.f k x203000 x203001).bind fun bt205 => (spec_PassPath.l0 k x0 0 bt205.1 bt205.2))
def spec_PassPath.l0 : Nat → List (S50) → Int → List Int → List (S69) → Option (List Int × (List (S69)) × Bool)
  | 0, _, _, _, _ => none
  | k + 1, x0, x7, x212000, x212001 => if x7 < (x0.length : Int) then (if 0 ≤ x7 then ((spec_PassBox.f k ((rd_T50 x0 x7).f0) ((rd_T50 x0 x7).f1) ((rd_T50 x0 x7).f2) ((rd_T50 x0 x7).f3) x212000 x212001).bind fun bt213 => (if bt213.2.2 = true then (spec_PassPath.l0 k x0 (wrap64 (x7 + 1)) bt213.1 bt213.2.1) else (some (([] : List Int), ([] : List (S69)), false)))) else (none)) else (some (x212000, x212001, true))
end
def spec_PassPath.f (k : Nat) (l0 : List (S50)) (l1_0 : List Int) (l1_1 : List (S69)) : Option (List Int × (List (S69)) × Bool) := if (l0.length : Int) > 4 then (spec_PassPath.j0 k l0 true l1_0 l1_1) else ((spec_IsHello.f k l1_0 l1_1).bind fun t204 => (spec_PassPath.j0 k l0 (!t204) l1_0 l1_1))
theorem spec_PassPath.mono_l : ∀ k, (∀ y0 y1 y2 y3, LeO (spec_PassPath.j0 k y0 y1 y2 y3) (spec_PassPath.j0 (k + 1) y0 y1 y2 y3)) ∧ (∀ y0 y1 y2 y3, LeO (spec_PassPath.l0 k y0 y1 y2 y3) (spec_PassPath.l0 (k + 1) y0 y1 y2 y3))
  | 0 => ⟨fun _ _ _ _ r h => by simp [spec_PassPath.j0] at h, fun _ _ _ _ r h => by simp [spec_PassPath.l0] at h⟩
  | k + 1 => by
    obtain ⟨ih0, ih1⟩ := spec_PassPath.mono_l k
    refine ⟨?_, ?_⟩
    · intro y0 y1 y2 y3
      unfold spec_PassPath.j0
      repeat' first
      | (with_reducible exact ih0 _ _ _ _)
      | (with_reducible exact ih1 _ _ _ _)
      | (with_reducible exact spec_IsHello.mono _ _ _)
      | (with_reducible exact spec_PassBox.mono _ _ _ _ _ _ _)
      | (with_reducible exact spec_l18Hello.mono _ _ _)
      | (with_reducible exact LeO.refl _)
      | (with_reducible exact LeO.none _)
      | (with_reducible refine LeO.ite ?_ ?_)
      | (with_reducible refine LeO.bind ?_ (fun _ => ?_))
      | exact ih0 _ _ _ _
      | exact ih1 _ _ _ _
      | exact spec_IsHello.mono _ _ _
      | exact spec_PassBox.mono _ _ _ _ _ _ _
      | exact spec_l18Hello.mono _ _ _
      | exact LeO.none _
      | refine LeO.ite ?_ ?_
      | refine LeO.bind ?_ (fun _ => ?_)
    · intro y0 y1 y2 y3
      unfold spec_PassPath.l0
      repeat' first
      | (with_reducible exact ih0 _ _ _ _)
      | (with_reducible exact ih1 _ _ _ _)
      | (with_reducible exact spec_IsHello.mono _ _ _)
      | (with_reducible exact spec_PassBox.mono _ _ _ _ _ _ _)
      | (with_reducible exact spec_l18Hello.mono _ _ _)
      | (with_reducible exact LeO.refl _)
      | (with_reducible exact LeO.none _)
      | (with_reducible refine LeO.ite ?_ ?_)
      | (with_reducible refine LeO.bind ?_ (fun _ => ?_))
      | exact ih0 _ _ _ _
      | exact ih1 _ _ _ _
      | exact spec_IsHello.mono _ _ _
      | exact spec_PassBox.mono _ _ _ _ _ _ _
      | exact spec_l18Hello.mono _ _ _
      | exact LeO.none _
      | refine LeO.ite ?_ ?_
      | refine LeO.bind ?_ (fun _ => ?_)
theorem spec_PassPath.mono : ∀ a0 a1 a2 k, LeO (spec_PassPath.f k a0 a1 a2) (spec_PassPath.f (k + 1) a0 a1 a2) := by
  intro a0 a1 a2 k
  obtain ⟨ih0, ih1⟩ := spec_PassPath.mono_l k
  unfold spec_PassPath.f
  repeat' first
      | (with_reducible exact ih0 _ _ _ _)
      | (with_reducible exact ih1 _ _ _ _)
      | (with_reducible exact spec_IsHello.mono _ _ _)
      | (with_reducible exact spec_PassBox.mono _ _ _ _ _ _ _)
      | (with_reducible exact spec_l18Hello.mono _ _ _)
      | (with_reducible exact LeO.refl _)
      | (with_reducible exact LeO.none _)
      | (with_reducible refine LeO.ite ?_ ?_)
      | (with_reducible refine LeO.bind ?_ (fun _ => ?_))
      | exact ih0 _ _ _ _
      | exact ih1 _ _ _ _
      | exact spec_IsHello.mono _ _ _
      | exact spec_PassBox.mono _ _ _ _ _ _ _
      | exact spec_l18Hello.mono _ _ _
      | exact LeO.none _
      | refine LeO.ite ?_ ?_
      | refine LeO.bind ?_ (fun _ => ?_)
def spec_PassPath.T7 : Bool × List (List Nat × List Nat) := (true, [([], []), ([], []), ([0, 1], [0, 1]), ([2], [2]), ([], []), ([3, 4], [3, 4]), ([5], [5]), ([6], [6]), ([6], [6]), ([], []), ([9, 7, 5, 0, 1, 2, 3, 4, 5, 6, 7, 9], [7, 9]), ([8, 10, 0, 1, 2, 3, 4, 5, 6, 7, 8, 9, 10], [8])])
def spec_PassPath.B7 : List Nat := [0, 0, 3, 7, 0, 31, 63, 127, 127, 0, 767, 2047]
theorem spec_PassPath.tab7 : rtab .any (opsOf Try.f44 7) = spec_PassPath.T7 := by kernel_rfl
theorem spec_PassPath.bits7 : waitsOk spec_PassPath.T7.2 spec_PassPath.B7 = true := by kernel_rfl
set_option maxHeartbeats 8000000 in
set_option maxRecDepth 100000 in
theorem spec_PassPath.calls (k : Nat) (A0 : Option Addr) (c0 : Nat) (l0 : List (S50)) (A1_0 : Option Addr) (c1_0 : Nat) (l1_0 : List Int) (A1_1 : Option Addr) (c1_1 : Nat) (l1_1 : List (S69)) (r1 : List Int) (r2 : List (S69)) (r3 : Bool) (w : World) (hr0 : Kd.C k50 w A0 l0.length l0) (hc0 : l0.length ≤ c0) (hr1_0 : Kd.C (Kd.int .i64) w A1_0 l1_0.length l1_0) (hc1_0 : l1_0.length ≤ c1_0) (hr1_1 : Kd.C k69 w A1_1 l1_1.length l1_1) (hc1_1 : l1_1.length ≤ c1_1) (h : spec_PassPath.f k l0 l1_0 l1_1 = some (r1, r2, r3)) :
    Calls Try.prog 44 #[.slice A0 l0.length c0, .agg #[.slice A1_0 l1_0.length c1_0, .slice A1_1 l1_1.length c1_1]] w fun e w' => ∃ v0_ v1_ : Value, e = .returned (.tuple #[.agg #[v0_, v1_], .bool r3]) ∧ Kd.R (Kd.int .i64) 3 w' w.heap.size (fun _ => True) v0_ r1 ∧ Kd.S k69 69 w' w.heap.size (fun k_ => some k_ ≠ (v0_ : Value).ownBlock) v1_ r2 ∧ Below w.heap.size w w' := by
  have hu63 := Try.underlying63
  have hu50 := Try.underlying50
  have HR0 := Aside0.mk hr0
  have HC0 := Aside0.mk hc0
  clear hr0 hc0
  have HR1_0 := Aside0.mk hr1_0
  have HC1_0 := Aside0.mk hc1_0
  clear hr1_0 hc1_0
  have HR1_1 := Aside0.mk hr1_1
  have HC1_1 := Aside0.mk hc1_1
  clear hr1_1 hc1_1
  have HB := Aside0.mk (Below.refl w.heap.size w)
  have H : (if (l0.length : Int) > 4 then (spec_PassPath.j0 k l0 true l1_0 l1_1) else ((spec_IsHello.f k l1_0 l1_1).bind fun t204 => (spec_PassPath.j0 k l0 (!t204) l1_0 l1_1))) = some (r1, r2, r3) := h
  clear h
  have HC3 := Aside0.mk H
  clear H
  go_enter Try.func44, Try.ntmps44
  go_upto_region 1 with (first | ((with_reducible refine gate_dst (N := 3) rfl ?_); refine box_event ?hg (N := 3) ?hd (cs := #[.slice A1_0 l1_0.length c1_0, .slice A1_1 l1_1.length c1_1]) (t := 63) ?hr ?_; (case hd => rfl); (case hg => rfl); (case hr => first | (go_simp; done) | (go_simp; rfl)); intro gb202 hg w4 hbox hb; have n0_ := Aside0.mk (below_step (pb_ HB.out) hb); have n1_ := Aside0.mk (hbox); have n2_ := Aside0.mk ((by rw [hg]; exact (below_size (pb_ HB.out)) : w.heap.size ≤ gb202)); have n3_ := Aside0.mk ((by rw [hg]; exact (below_size (pb_ HB.out)) : w.heap.size ≤ gb202)); clear HB; have HB := n0_; have BK202 := n1_; have GW202 := n2_; have GE202 := n3_; clear n0_ n1_ n2_ n3_; clear hb hbox hg) | ((with_reducible refine gate_dst (N := 4) rfl ?_); refine box_event ?hg (N := 4) ?hd (cs := #[.slice none 0 0, .slice none 0 0]) (t := 63) ?hr ?_; (case hd => rfl); (case hg => rfl); (case hr => first | (go_simp; done) | (go_simp; rfl)); intro gb203 hg w5 hbox hb; have n0_ := Aside0.mk (bb_ BK202.out hb); have n1_ := Aside0.mk (below_step (pb1_ HB.out GE202.out) hb); have n2_ := Aside0.mk (hbox); have n3_ := Aside0.mk ((by rw [hg]; exact (below_size (pb1_ HB.out GE202.out)) : w.heap.size ≤ gb203)); have n4_ := Aside0.mk ((by rw [hg]; exact (below_size (pb1_ HB.out GE202.out)) : w.heap.size ≤ gb203)); have n5_ := Aside0.mk ((by rw [hg]; exact Nat.ne_of_lt (blk_lt (pk_ BK202.out)) : gb202 ≠ gb203)); have n6_ := Aside0.mk ((by rw [hg]; exact Nat.ne_of_gt (blk_lt (pk_ BK202.out)) : gb203 ≠ gb202)); clear BK202; clear HB; have BK202 := n0_; have HB := n1_; have BK203 := n2_; have GW203 := n3_; have GE203 := n4_; have NB202_203 := n5_; have NB203_202 := n6_; clear n0_ n1_ n2_ n3_ n4_ n5_ n6_; clear hb hbox hg))
  (try simp only [Act.put, List.setIfInBounds_toArray, List.set_cons_zero, List.set_cons_succ])
  go_cut [17] (fun v17 wc => ∃ (kq : Nat) (x17_2 : Bool), v17 = .bool x17_2 ∧ Aside0 (spec_PassPath.j0 kq l0 x17_2 l1_0 l1_1 = some (r1, r2, r3)) ∧ Aside0 (kq ≤ k) ∧ Aside0 (wc.heap[gb202]? = some (.cells #[(.slice A1_0 l1_0.length c1_0), (.slice A1_1 l1_1.length c1_1)] 63 (0, 0))) ∧ Aside0 (wc.heap[gb203]? = some (.cells #[(.slice none 0 0), (.slice none 0 0)] 63 (0, 0))) ∧ Aside0 (Below w.heap.size w wc))
  case first =>
    have H := HC3.out
    clear HC3
    by_cases c6 : (l0.length : Int) > 4
    · rw [if_pos c6] at H
      have c6b0 : decide (4 < (l0.length : Int)) = true := decide_eq_true c6
      have c6b1 : decide (4 < l0.length) = true := decide_eq_true (by omega)
      clear c6
      (first | rw [c6b0] | (simp only [i64_w, i32_w]; rw [c6b0]) | rw [c6b1] | skip)
      have H' := Aside0.mk H
      clear H
      go_wp2
      go_meet
      case rel => exact ⟨_, (true), el_, H', ⟨by first | omega | exact Nat.le_refl _⟩, ⟨pk_ BK202.out⟩, ⟨pk_ BK203.out⟩, ⟨pb2_ HB.out GE202.out GE203.out⟩⟩
    rw [if_neg c6] at H
    have c6b0 : decide (4 < (l0.length : Int)) = false := decide_eq_false c6
    have c6b1 : decide (4 < l0.length) = false := decide_eq_false (by omega)
    clear c6
    (first | rw [c6b0] | (simp only [i64_w, i32_w]; rw [c6b0]) | rw [c6b1] | skip)
    replace H := Option.bind_eq_some_iff.mp H
    obtain ⟨t204, A70, H⟩ := H
    replace H : (spec_PassPath.j0 k l0 (!t204) l1_0 l1_1) = some (r1, r2, r3) := H
    have A7 := Aside0.mk A70
    clear A70
    have H' := Aside0.mk H
    clear H
    have hnb8 := NB202_203.out
    have hnc8 := NB203_202.out
    obtain ⟨hcz9_0, hcz9_1, hfz9_0, hfz9_1⟩ := bc2_ BK202.out
    go_wp2_with (first | (go_at_call 68; (with_reducible refine (spec_IsHello.calls k _ _ l1_0 _ _ l1_1 t204 _ ?side1 ?side2 ?side3 ?side4 A7.out).mono ?_); (case side1 => exact pc_ (Kd.C_below HR1_0.out HB.out)); (case side2 => exact HC1_0.out); (case side3 => exact pc_ (Kd.C_below HR1_1.out HB.out)); (case side4 => exact HC1_1.out); rintro e w10 ⟨rfl, hb⟩; have n0_ := Aside0.mk (bb_ BK202.out hb); have n1_ := Aside0.mk (bb_ BK203.out hb); have n2_ := Aside0.mk (below_step (pb2_ HB.out GE202.out GE203.out) hb); clear BK202; clear BK203; clear HB; have BK202 := n0_; have BK203 := n1_; have HB := n2_; clear n0_ n1_ n2_; (try clear hb); (try clear hb2); (try clear hk); (try clear hi)))
    go_meet
    case rel => exact ⟨_, (!t204), el_, H', ⟨by first | omega | exact Nat.le_refl _⟩, ⟨pk_ BK202.out⟩, ⟨pk_ BK203.out⟩, ⟨pb2_ HB.out GE202.out GE203.out⟩⟩
  clear HC3
  try clear c1
  try clear p2
  try clear c4
  try clear c6
  try clear c6b0
  try clear c6b1
  try clear c8
  try clear hcz9_0
  try clear hcz9_1
  try clear hfz9_0
  try clear hfz9_1
  obtain ⟨kq, x17_2, rfl, HA, HJ2, BK202, BK203, HB⟩ := hcut
  rcases kq with _ | kj2
  · exact absurd HA.out (by simp [spec_PassPath.j0])
  have H := HA.out
  clear HA
  simp only [spec_PassPath.j0] at H
  by_cases c11 : x17_2 = true
  · subst c11
    rw [if_pos rfl] at H
    simp only [Option.some.injEq, Prod.mk.injEq] at H
    obtain ⟨rfl, rfl, rfl⟩ := H
    have hnb12 := NB203_202.out
    have hnc12 := NB202_203.out
    obtain ⟨hcz13_0, hcz13_1, hfz13_0, hfz13_1⟩ := bc2_ BK203.out
    go_wp2
    refine bodyPost_ret (results_ct rfl _ _ gb203 63 #[.slice none 0 0, .slice none 0 0] (0, 0) _ rfl (pp_ BK203.out) Try.underlying63 rfl (by kernel_rfl)) rfl ?_
    exact ⟨_, _, er_, by first | exact Kd.R_nil _ _ _ _ _ | exact Kd.N_nil _ _ _ _ _ | exact Kd.V_nil _ _ _ _ _ | exact Kd.Q_nil _ _ _ _ _ | exact Kd.S_nil _ _ _ _ _, by first | exact Kd.S_nil _ _ _ _ _ | exact Kd.N_nil _ _ _ _ _ | exact Kd.V_nil _ _ _ _ _ | exact Kd.Q_nil _ _ _ _ _ | exact Kd.R_nil _ _ _ _ _, pb2_ HB.out GE202.out GE203.out⟩
  replace c11 := Bool.eq_false_iff.mpr c11
  subst c11
  rw [if_neg (show ¬ (false = true) by decide)] at H
  replace H := Option.bind_eq_some_iff.mp H
  obtain ⟨⟨t205, t208⟩, A140, H⟩ := H
  replace H : (spec_PassPath.l0 kj2 l0 0 t205 t208) = some (r1, r2, r3) := H
  have A14 := Aside0.mk A140
  clear A140
  have H' := Aside0.mk H
  clear H
  have hnb15 := NB202_203.out
  have hnc15 := NB203_202.out
  obtain ⟨hcz16_0, hcz16_1, hfz16_0, hfz16_1⟩ := bc2_ BK202.out
  go_wp2_with (first | ((with_reducible refine gate_callee (f := 69) rfl ?_); refine goesL_ (some 20) rfl rfl Try.func69 (by kernel_rfl) rfl #[.agg #[.slice A1_0 l1_0.length c1_0, .slice A1_1 l1_1.length c1_1]] rfl mp_ ?_; (with_reducible refine (spec_l18Hello.calls kj2 _ _ l1_0 _ _ l1_1 t205 t208 _ ?side1 ?side2 ?side3 ?side4 A14.out).mono ?_); (case side1 => exact pc_ (Kd.C_below HR1_0.out HB.out)); (case side2 => exact HC1_0.out); (case side3 => exact pc_ (Kd.C_below HR1_1.out HB.out)); (case side4 => exact HC1_1.out); rintro e w17 ⟨v206, v209, rfl, ho0, ho1, hb⟩; refine ⟨_, rfl, ?_⟩; have n0_ := Aside0.mk (Kd.R_lower ho0 (below_size (pb2_ HB.out GE202.out GE203.out))); have n1_ := Aside0.mk (Kd.S_lower ho1 (below_size (pb2_ HB.out GE202.out GE203.out))); have n2_ := Aside0.mk (bb_ BK202.out hb); have n3_ := Aside0.mk (bb_ BK203.out hb); have n4_ := Aside0.mk (below_step (pb2_ HB.out GE202.out GE203.out) hb); clear BK202; clear BK203; clear HB; have HO207 := n0_; have HO210 := n1_; have BK202 := n2_; have BK203 := n3_; have HB := n4_; clear n0_ n1_ n2_ n3_ n4_; (try clear hb); (try clear hb2); (try clear hk); (try clear hi); (try clear ho0); (try clear ho1)) | ((with_reducible refine gate_dst (N := 6) rfl ?_); refine box_event ?hg (N := 6) ?hd (cs := #[.slice none 0 0, .slice none 0 0]) (t := 63) ?hr ?_; (case hd => rfl); (case hg => rfl); (case hr => first | (go_simp; done) | (go_simp; rfl)); intro gb211 hg w18 hbox hb; have n0_ := Aside0.mk (Kd.R_below (pr_ HO207.out) hb); have n1_ := Aside0.mk (Kd.S_below (ps_ HO210.out) hb); have n2_ := Aside0.mk (bb_ BK202.out hb); have n3_ := Aside0.mk (bb_ BK203.out hb); have n4_ := Aside0.mk (below_step (pb2_ HB.out GE202.out GE203.out) hb); have n5_ := Aside0.mk (hbox); have n6_ := Aside0.mk ((by rw [hg]; exact (below_size (pb2_ HB.out GE202.out GE203.out)) : w.heap.size ≤ gb211)); have n7_ := Aside0.mk ((by rw [hg]; exact (below_size (pb2_ HB.out GE202.out GE203.out)) : w.heap.size ≤ gb211)); have n8_ := Aside0.mk ((by rw [hg]; exact Nat.ne_of_lt (blk_lt (pk_ BK202.out)) : gb202 ≠ gb211)); have n9_ := Aside0.mk ((by rw [hg]; exact Nat.ne_of_gt (blk_lt (pk_ BK202.out)) : gb211 ≠ gb202)); have n10_ := Aside0.mk ((by rw [hg]; exact Nat.ne_of_lt (blk_lt (pk_ BK203.out)) : gb203 ≠ gb211)); have n11_ := Aside0.mk ((by rw [hg]; exact Nat.ne_of_gt (blk_lt (pk_ BK203.out)) : gb211 ≠ gb203)); clear HO207; clear HO210; clear BK202; clear BK203; clear HB; have HO207 := n0_; have HO210 := n1_; have BK202 := n2_; have BK203 := n3_; have HB := n4_; have BK211 := n5_; have GW211 := n6_; have GE211 := n7_; have NB202_211 := n8_; have NB211_202 := n9_; have NB203_211 := n10_; have NB211_203 := n11_; clear n0_ n1_ n2_ n3_ n4_ n5_ n6_ n7_ n8_ n9_ n10_ n11_; clear hb hbox hg; obtain ⟨Ao19, co19, eo19⟩ := Kd.R_slice HO207.out; subst eo19; have hnb20 := NB211_202.out; have hnc20 := NB202_211.out; have hnb21 := NB211_203.out; have hnc21 := NB203_211.out; have hcz22_0 : w18.cell? ⟨gb211, 0, none⟩ = some (.slice none 0 0) := (blk_cell BK211.out 0).trans rfl; have hcz22_1 : w18.cell? ⟨gb211, 1, none⟩ = some (.slice none 0 0) := (blk_cell BK211.out 1).trans rfl; have hfz22_0 := blk_frozen BK211.out 0; have hfz22_1 := blk_frozen BK211.out 1; obtain ⟨Ao23, co23, eo23⟩ := Kd.S_slice HO210.out; subst eo23))
  (try simp only [Act.put, List.setIfInBounds_toArray, List.set_cons_zero, List.set_cons_succ])
  go_loopg [7] kj2 (fun kq v7 w' => ∃ (x7_2 : Int) (x212000_2 : List Int) (x212001_2 : List (S69)) (u212000 : Value) (u212001 : Value), v7 = .int .i64 x7_2 ∧ Aside0 (spec_PassPath.l0 kq l0 x7_2 x212000_2 x212001_2 = some (r1, r2, r3)) ∧ Aside0 (kq ≤ kj2) ∧ Aside0 (Kd.R (Kd.int .i64) 3 w' w.heap.size (fun _ => True) u212000 x212000_2) ∧ Aside0 (Kd.S k69 69 w' w.heap.size (fun k_ => some k_ ≠ (u212000 : Value).ownBlock) u212001 x212001_2) ∧ Aside0 (w'.heap[gb202]? = some (.cells #[(.slice A1_0 l1_0.length c1_0), (.slice A1_1 l1_1.length c1_1)] 63 (0, 0))) ∧ Aside0 (w'.heap[gb203]? = some (.cells #[(.slice none 0 0), (.slice none 0 0)] 63 (0, 0))) ∧ Aside0 (w'.heap[gb211]? = some (.cells #[u212000, u212001] 63 (0, 0))) ∧ Aside0 (Below w.heap.size w w'))
  case atStart => exact ⟨(0), (t205), (t208), (.slice Ao19 t205.length co19), (.slice Ao23 t208.length co23), el_, H', ⟨Nat.le_refl _⟩, ⟨pr_ (Kd.R_mono (rf2_ HO207.out BK211.out) (fun _ hk => trivial))⟩, ⟨ps_ (Kd.S_mono (Kd.S_far (p := ⟨gb211, 1, none⟩) (Kd.S_far (p := ⟨gb211, 0, none⟩) (Kd.S_types HO210.out BK211.out (by decide)) (fun _ hk => hk.2) (.slice Ao19 t205.length co19)) (fun _ hk => hk.2) (.slice Ao23 t208.length co23)) (fun _ hk => hk.1))⟩, ⟨pp_ BK202.out⟩, ⟨pp_ BK203.out⟩, ⟨pp_ BK211.out⟩, ⟨pb3_ HB.out GE202.out GE203.out GE211.out⟩⟩
  clear H'
  try clear c1
  try clear c2
  try clear p2
  try clear c4
  try clear c6
  try clear c6b0
  try clear c6b1
  try clear c8
  try clear c11
  try clear c12
  try clear c15
  try clear c20
  try clear c21
  try clear hcz13_0
  try clear hcz13_1
  try clear hcz16_0
  try clear hcz16_1
  try clear hcz22_0
  try clear hcz22_1
  try clear hcz9_0
  try clear hcz9_1
  try clear hfz13_0
  try clear hfz13_1
  try clear hfz16_0
  try clear hfz16_1
  try clear hfz22_0
  try clear hfz22_1
  try clear hfz9_0
  try clear hfz9_1
  try clear p2
  obtain ⟨x7_2, x212000_2, x212001_2, u212000, u212001, rfl, HA, HK2, HO_212000, HO_212001, BK202, BK203, BK211, HB⟩ := hrel
  rcases gk with _ | k2
  · exact absurd HA.out (by simp [spec_PassPath.l0])
  have H := HA.out
  clear HA
  simp only [spec_PassPath.l0] at H
  by_cases c24 : x7_2 < (l0.length : Int)
  rotate_left
  · rw [if_neg c24] at H
    have c24b0 : decide (x7_2 < (l0.length : Int)) = false := decide_eq_false c24
    clear c24
    simp only [Option.some.injEq, Prod.mk.injEq] at H
    obtain ⟨rfl, rfl, rfl⟩ := H
    have hnb25 := NB211_202.out
    have hnc25 := NB202_211.out
    have hnb26 := NB211_203.out
    have hnc26 := NB203_211.out
    obtain ⟨hcz27_0, hcz27_1, hfz27_0, hfz27_1⟩ := bc2_ BK211.out
    obtain ⟨Ao28, co28, eo28⟩ := Kd.R_slice HO_212000.out
    subst eo28
    have hnb29 := NB203_202.out
    have hnc29 := NB202_203.out
    obtain ⟨hcz30_0, hcz30_1, hfz30_0, hfz30_1⟩ := bc2_ BK203.out
    obtain ⟨Ao31, co31, eo31⟩ := Kd.S_slice HO_212001.out
    subst eo31
    go_wp2
    refine bodyPost_ret (results_ct rfl _ _ gb203 63 #[.slice Ao28 x212000_2.length co28, .slice Ao31 x212001_2.length co31] (0, 0) _ rfl (pp_ BK203.out) Try.underlying63 rfl (by kernel_rfl)) rfl ?_
    exact ⟨_, _, er_, pr_ (Kd.R_mono (rf2_ HO_212000.out BK203.out) (fun _ hk => trivial)), ps_ (Kd.S_mono (Kd.S_far (p := ⟨gb203, 1, none⟩) (Kd.S_far (p := ⟨gb203, 0, none⟩) (Kd.S_types HO_212001.out BK203.out (by decide)) (fun _ hk => hk.2) (.slice Ao28 x212000_2.length co28)) (fun _ hk => hk.2) (.slice Ao31 x212001_2.length co31)) (fun _ hk => hk.1)), pb3_ HB.out GE202.out GE203.out GE211.out⟩
  rw [if_pos c24] at H
  have c24b0 : decide (x7_2 < (l0.length : Int)) = true := decide_eq_true c24
  clear c24
  by_cases c32 : 0 ≤ x7_2
  rotate_left
  · rw [if_neg c32] at H
    exact absurd H (by simp)
  rw [if_pos c32] at H
  have c32b0 : decide (0 ≤ x7_2) = true := decide_eq_true c32
  clear c32
  replace H := Option.bind_eq_some_iff.mp H
  obtain ⟨⟨t213, t216, t219⟩, A330, H⟩ := H
  (try dsimp only at H)
  have A33 := Aside0.mk A330
  clear A330
  have HS_ := Aside0.mk H
  clear H
  obtain ⟨Ao34, co34, eo34⟩ := Kd.R_slice HO_212000.out
  subst eo34
  obtain ⟨Ao35, co35, eo35⟩ := Kd.S_slice HO_212001.out
  subst eo35
  try go_wp2
  have n0_ := Aside0.mk (Kd.R_drew HO_212000.out)
  have n1_ := Aside0.mk (Kd.S_drew HO_212001.out)
  have n2_ := Aside0.mk (blk_drew BK202.out)
  have n3_ := Aside0.mk (blk_drew BK203.out)
  have n4_ := Aside0.mk (blk_drew BK211.out)
  have n5_ := Aside0.mk (below_drew1 HB.out)
  clear HO_212000
  clear HO_212001
  clear BK202
  clear BK203
  clear BK211
  clear HB
  have HO_212000 := n0_
  have HO_212001 := n1_
  have BK202 := n2_
  have BK203 := n3_
  have BK211 := n4_
  have HB := n5_
  clear n0_ n1_ n2_ n3_ n4_ n5_
  have p212 : 0 ≤ (x7_2 : Int) := dt_
  have q212 : x7_2 < (l0.length : Int) := dt_
  obtain ⟨ad212, A212_1, c212_1, A212_2, c212_2, e212, hx212_0, hx212_1, hx212_2, hx212_3, hl212_1, hi212_1, hl212_2, hi212_2⟩ := at_T50 HR0.out x7_2 p212 q212
  have hw212_3 := hx212_3
  have hw212_2 := hx212_2
  have hw212_1 := hx212_1
  have hw212_0 := hx212_0
  cases e212
  replace hx212_0 := (HB.out.cell (World.block_lt_of_cell? w _ hx212_0)).trans hx212_0
  replace hx212_1 := (HB.out.cell (World.block_lt_of_cell? w _ hx212_1)).trans hx212_1
  replace hx212_2 := (HB.out.cell (World.block_lt_of_cell? w _ hx212_2)).trans hx212_2
  replace hx212_3 := (HB.out.cell (World.block_lt_of_cell? w _ hx212_3)).trans hx212_3
  have HR212_1 := Aside0.mk hi212_1
  have HC212_1 := Aside0.mk hl212_1
  clear hi212_1 hl212_1
  have HR212_2 := Aside0.mk hi212_2
  have HC212_2 := Aside0.mk hl212_2
  clear hi212_2 hl212_2
  replace p212 := eq_true p212
  replace q212 := eq_true q212
  refine start_ (n := 12) (S := fun w' => w'.cell? ⟨gb211, 0, none⟩ = some (.slice Ao34 x212000_2.length co34) ∧ w'.cell? ⟨gb211, 1, none⟩ = some (.slice Ao35 x212001_2.length co35) ∧ w'.cell? (ad212.add ((x7_2).toNat * 4)) = some (.int .i64 ((rd_T50 l0 x7_2).f0)) ∧ w'.cell? ⟨(ad212.add ((x7_2).toNat * 4)).block, (ad212.add ((x7_2).toNat * 4)).off + 1, none⟩ = some (.slice A212_1 ((rd_T50 l0 x7_2).f1).length c212_1) ∧ w'.cell? ⟨(ad212.add ((x7_2).toNat * 4)).block, (ad212.add ((x7_2).toNat * 4)).off + 2, none⟩ = some (.slice A212_2 ((rd_T50 l0 x7_2).f2).length c212_2) ∧ w'.cell? ⟨(ad212.add ((x7_2).toNat * 4)).block, (ad212.add ((x7_2).toNat * 4)).off + 3, none⟩ = some (.bool ((rd_T50 l0 x7_2).f3))) (ds := []) #[false, false, false, false, false, false, false, false, false, false, false, false] (by kernel_rfl) rfl rfl ⟨(blk_cell BK211.out 0).trans rfl, (blk_cell BK211.out 1).trans rfl, ((HB.out.cell (World.block_lt_of_cell? w _ hw212_0)).trans hw212_0), ((HB.out.cell (World.block_lt_of_cell? w _ hw212_1)).trans hw212_1), ((HB.out.cell (World.block_lt_of_cell? w _ hw212_2)).trans hw212_2), ((HB.out.cell (World.block_lt_of_cell? w _ hw212_3)).trans hw212_3)⟩ (fun hHeld => ?_); refine with_tabW spec_PassPath.tab7 spec_PassPath.bits7 (fun HT_ HW_ => ?_)
  generalize wr.drew = w36 at HO_212000 HO_212001 BK202 BK203 BK211 HB HR212_1 HR212_2 hx212_0 hx212_1 hx212_2 hx212_3 hHeld ⊢
  refine pu_ 0 (some 28) (tf_ 1 12) HT_ ?_
  refine pu_ 1 (some 29) (tf_ 2 12) HT_ ?_
  refine pu_ 2 (some 30) (tf_ 3 12) HT_ ?_
  refine ta_ 3 (some 31) (tf_ 4 12) HT_ HW_ hHeld ?_
  refine ta_ 4 (some 32) (tf_ 5 12) HT_ HW_ hHeld ?_
  refine join_ (σ := Value × Value × Nat) 2 #[true, true, true, true, true, true, true, true, true, true, false, false] (fun s_ => [(33, .tuple #[.agg #[s_.1, s_.2.1], .bool t219]), (8, .pointer (some ⟨s_.2.2, 0, none⟩)), (27, .tuple #[.agg #[s_.1, s_.2.1], .bool t219]), (34, .agg #[s_.1, s_.2.1]), (35, .bool t219)]) (fun s_ w' => (w'.cell? ⟨gb211, 0, none⟩ = some (.slice Ao34 x212000_2.length co34) ∧ w'.cell? ⟨gb211, 1, none⟩ = some (.slice Ao35 x212001_2.length co35) ∧ w'.cell? (ad212.add ((x7_2).toNat * 4)) = some (.int .i64 ((rd_T50 l0 x7_2).f0)) ∧ w'.cell? ⟨(ad212.add ((x7_2).toNat * 4)).block, (ad212.add ((x7_2).toNat * 4)).off + 1, none⟩ = some (.slice A212_1 ((rd_T50 l0 x7_2).f1).length c212_1) ∧ w'.cell? ⟨(ad212.add ((x7_2).toNat * 4)).block, (ad212.add ((x7_2).toNat * 4)).off + 2, none⟩ = some (.slice A212_2 ((rd_T50 l0 x7_2).f2).length c212_2) ∧ w'.cell? ⟨(ad212.add ((x7_2).toNat * 4)).block, (ad212.add ((x7_2).toNat * 4)).off + 3, none⟩ = some (.bool ((rd_T50 l0 x7_2).f3))) ∧ (Kd.R (Kd.int .i64) 3 w' w.heap.size (fun k_ => some k_ ≠ (.slice Ao34 x212000_2.length co34 : Value).ownBlock) s_.1 t213) ∧ (Kd.S k69 69 w' w.heap.size (fun k_ => some k_ ≠ (s_.1 : Value).ownBlock ∧ some k_ ≠ (.slice Ao34 x212000_2.length co34 : Value).ownBlock ∧ some k_ ≠ (.slice Ao35 x212001_2.length co35 : Value).ownBlock) s_.2.1 t216) ∧ (Kd.R (Kd.int .i64) 3 w' w.heap.size (fun k_ => some k_ ≠ (s_.1 : Value).ownBlock) (.slice Ao34 x212000_2.length co34) x212000_2) ∧ (Kd.S k69 69 w' w.heap.size (fun k_ => some k_ ≠ (s_.1 : Value).ownBlock ∧ some k_ ≠ (s_.2.1 : Value).ownBlock ∧ some k_ ≠ (.slice Ao34 x212000_2.length co34 : Value).ownBlock) (.slice Ao35 x212001_2.length co35) x212001_2) ∧ (w'.heap[gb202]? = some (.cells #[.slice A1_0 l1_0.length c1_0, .slice A1_1 l1_1.length c1_1] 63 (0, 0))) ∧ (w'.heap[gb203]? = some (.cells #[.slice none 0 0, .slice none 0 0] 63 (0, 0))) ∧ (w'.heap[gb211]? = some (.cells #[.slice Ao34 x212000_2.length co34, .slice Ao35 x212001_2.length co35] 63 (0, 0))) ∧ (w'.heap[s_.2.2]? = some (.cells #[.slice none 0 0, .slice none 0 0] 63 (0, 0))) ∧ (w.heap.size ≤ s_.2.2) ∧ (w.heap.size ≤ s_.2.2) ∧ (gb202 ≠ s_.2.2) ∧ (s_.2.2 ≠ gb202) ∧ (gb203 ≠ s_.2.2) ∧ (s_.2.2 ≠ gb203) ∧ (gb211 ≠ s_.2.2) ∧ (s_.2.2 ≠ gb211) ∧ (Below w.heap.size w w')) ?_ ?_
  rotate_left
  · intro hCont
    refine two_ (i := 5) (j := 9) (Ni := some 33) (Nj := some 8) #[true, true, true, true, true, true, false, false, false, false, false, false] #[true, true, true, true, true, false, false, false, false, true, false, false] rfl rfl rfl rfl (two_of HT_.out (by kernel_rfl)) (by decide) (by decide) (fun K hK => ?_) (fun K hK => ?_)
    · skip
      refine goes_ Try.func70 (by kernel_rfl) rfl #[.agg #[.int .i64 ((rd_T50 l0 x7_2).f0), .slice A212_1 ((rd_T50 l0 x7_2).f1).length c212_1, .slice A212_2 ((rd_T50 l0 x7_2).f2).length c212_2, .bool ((rd_T50 l0 x7_2).f3)], .agg #[.slice Ao34 x212000_2.length co34, .slice Ao35 x212001_2.length co35]] (by rfl) rfl rfl mp_ ?_
      with_reducible refine (spec_PassBox.calls k2 ((rd_T50 l0 x7_2).f0) _ _ ((rd_T50 l0 x7_2).f1) _ _ ((rd_T50 l0 x7_2).f2) ((rd_T50 l0 x7_2).f3) _ _ x212000_2 _ _ x212001_2 t213 t216 t219 _ ?side1 ?side2 ?side3 ?side4 ?side5 ?side6 ?side7 ?side8 A33.out).mono ?_
      (case side1 => exact pc_ (Kd.C_below HR212_1.out HB.out))
      (case side2 => exact HC212_1.out)
      (case side3 => exact pc_ (Kd.C_below HR212_2.out HB.out))
      (case side4 => exact HC212_2.out)
      (case side5 => exact pc_ ((Kd.R_reads' HO_212000.out).2.2))
      (case side6 => exact (Kd.R_reads' HO_212000.out).2.1)
      (case side7 => exact pc_ ((Kd.S_reads' HO_212001.out).2.2))
      (case side8 => exact (Kd.S_reads' HO_212001.out).2.1)
      rintro e w37 ⟨v214, v217, rfl, ho0, ho1, hb⟩
      refine ⟨_, rfl, ?_⟩
      have n0_ := Aside0.mk (Kd.R_elder' (pr_ HO_212000.out) (Kd.R_base ho0) hb)
      have n1_ := Aside0.mk (Kd.S_mono (Kd.S_told (Kd.S_told (Kd.S_old (ps_ HO_212001.out) hb) (Kd.R_base ho0)) (Kd.S_base ho1)) (fun _ h_ => h_.1))
      have n2_ := Aside0.mk (Kd.R_lower (Kd.R_new' ho0 (Kd.R_lt (pr_ HO_212000.out))) (below_size (pb3_ HB.out GE202.out GE203.out GE211.out)))
      have n3_ := Aside0.mk (Kd.S_lower (Kd.S_new' (Kd.S_new' ho1 (Kd.R_lt (pr_ HO_212000.out))) (Kd.S_lt (ps_ HO_212001.out))) (below_size (pb3_ HB.out GE202.out GE203.out GE211.out)))
      have n4_ := Aside0.mk (bb_ BK202.out hb)
      have n5_ := Aside0.mk (bb_ BK203.out hb)
      have n6_ := Aside0.mk (bb_ BK211.out hb)
      have n7_ := Aside0.mk (below_step (pb3_ HB.out GE202.out GE203.out GE211.out) hb)
      clear HO_212000
      clear HO_212001
      clear BK202
      clear BK203
      clear BK211
      clear HB
      have HO_212000 := n0_
      have HO_212001 := n1_
      have HO215 := n2_
      have HO218 := n3_
      have BK202 := n4_
      have BK203 := n5_
      have BK211 := n6_
      have HB := n7_
      clear n0_ n1_ n2_ n3_ n4_ n5_ n6_ n7_
      (try clear hb)
      (try clear hb2)
      (try clear hk)
      (try clear hi)
      (try clear ho0)
      (try clear ho1)
      refine hK.out _ _ ⟨(blk_cell BK211.out 0).trans rfl, (blk_cell BK211.out 1).trans rfl, ((HB.out.cell (World.block_lt_of_cell? w _ hw212_0)).trans hw212_0), ((HB.out.cell (World.block_lt_of_cell? w _ hw212_1)).trans hw212_1), ((HB.out.cell (World.block_lt_of_cell? w _ hw212_2)).trans hw212_2), ((HB.out.cell (World.block_lt_of_cell? w _ hw212_3)).trans hw212_3)⟩ (fun hHeld => ?_)
      clear hK K
      refine no_ (some 33) ?_
      refine pu_ 6 (some 27) (tf_ 7 12) HT_ ?_
      refine pu_ 7 (some 34) (tf_ 8 12) HT_ ?_
      refine pu_ 8 (some 35) (tf_ 9 12) HT_ ?_
      refine on_ 9 (some 8) (tf_ 10 12) HT_ (fun K hK => ?_)
      refine box_step ?hg (N := 8) ?hd (cs := #[.slice none 0 0, .slice none 0 0]) (t := 63) ?hr ?_; (case hd => rfl); (case hg => rfl); (case hr => first | (go_simp; done) | (go_simp; rfl))
      intro gb220 hg w38 hbox hb
      have n0_ := Aside0.mk (Kd.R_below (pr_ HO_212000.out) hb)
      have n1_ := Aside0.mk (Kd.S_below (ps_ HO_212001.out) hb)
      have n2_ := Aside0.mk (Kd.R_below (pr_ HO215.out) hb)
      have n3_ := Aside0.mk (Kd.S_below (ps_ HO218.out) hb)
      have n4_ := Aside0.mk (bb_ BK202.out hb)
      have n5_ := Aside0.mk (bb_ BK203.out hb)
      have n6_ := Aside0.mk (bb_ BK211.out hb)
      have n7_ := Aside0.mk (below_step (pb3_ HB.out GE202.out GE203.out GE211.out) hb)
      have n8_ := Aside0.mk (hbox)
      have n9_ := Aside0.mk ((by rw [hg]; exact (below_size (pb3_ HB.out GE202.out GE203.out GE211.out)) : w.heap.size ≤ gb220))
      have n10_ := Aside0.mk ((by rw [hg]; exact (below_size (pb3_ HB.out GE202.out GE203.out GE211.out)) : w.heap.size ≤ gb220))
      have n11_ := Aside0.mk ((by rw [hg]; exact Nat.ne_of_lt (blk_lt (pk_ BK202.out)) : gb202 ≠ gb220))
      have n12_ := Aside0.mk ((by rw [hg]; exact Nat.ne_of_gt (blk_lt (pk_ BK202.out)) : gb220 ≠ gb202))
      have n13_ := Aside0.mk ((by rw [hg]; exact Nat.ne_of_lt (blk_lt (pk_ BK203.out)) : gb203 ≠ gb220))
      have n14_ := Aside0.mk ((by rw [hg]; exact Nat.ne_of_gt (blk_lt (pk_ BK203.out)) : gb220 ≠ gb203))
      have n15_ := Aside0.mk ((by rw [hg]; exact Nat.ne_of_lt (blk_lt (pk_ BK211.out)) : gb211 ≠ gb220))
      have n16_ := Aside0.mk ((by rw [hg]; exact Nat.ne_of_gt (blk_lt (pk_ BK211.out)) : gb220 ≠ gb211))
      clear HO_212000
      clear HO_212001
      clear HO215
      clear HO218
      clear BK202
      clear BK203
      clear BK211
      clear HB
      have HO_212000 := n0_
      have HO_212001 := n1_
      have HO215 := n2_
      have HO218 := n3_
      have BK202 := n4_
      have BK203 := n5_
      have BK211 := n6_
      have HB := n7_
      have BK220 := n8_
      have GW220 := n9_
      have GE220 := n10_
      have NB202_220 := n11_
      have NB220_202 := n12_
      have NB203_220 := n13_
      have NB220_203 := n14_
      have NB211_220 := n15_
      have NB220_211 := n16_
      clear n0_ n1_ n2_ n3_ n4_ n5_ n6_ n7_ n8_ n9_ n10_ n11_ n12_ n13_ n14_ n15_ n16_
      clear hb hbox hg
      refine hK.out _ _ ⟨(blk_cell BK211.out 0).trans rfl, (blk_cell BK211.out 1).trans rfl, ((HB.out.cell (World.block_lt_of_cell? w _ hw212_0)).trans hw212_0), ((HB.out.cell (World.block_lt_of_cell? w _ hw212_1)).trans hw212_1), ((HB.out.cell (World.block_lt_of_cell? w _ hw212_2)).trans hw212_2), ((HB.out.cell (World.block_lt_of_cell? w _ hw212_3)).trans hw212_3)⟩ (fun hHeld => ?_)
      clear hK K
      refine no_ (some 8) ?_
      exact norm_ (by simp only [putAll, Act.put, List.setIfInBounds_toArray, List.set_cons_zero, List.set_cons_succ]) (hCont (v214, v217, gb220) _ ⟨hHeld, (pr_ (Kd.R_mono HO215.out (fun _ hk => hk.2))), (by (with_reducible repeat (first | apply Kd.S_alloc | apply Kd.S_drewN | apply Kd.S_drew)); exact Kd.S_mono HO218.out (fun _ hk => ⟨hk.1.1, ⟨hk.1.2, hk.2⟩⟩)), (pr_ (Kd.R_mono HO_212000.out (fun _ hk => hk.2))), (by (with_reducible repeat (first | apply Kd.S_alloc | apply Kd.S_drewN | apply Kd.S_drew)); exact Kd.S_mono HO_212001.out (fun _ hk => ⟨hk.1.2, ⟨hk.2, hk.1.1⟩⟩)), (pk_ BK202.out), (pk_ BK203.out), (pk_ BK211.out), (pk_ BK220.out), GW220.out, GE220.out, NB202_220.out, NB220_202.out, NB203_220.out, NB220_203.out, NB211_220.out, NB220_211.out, (pb4_ HB.out GE202.out GE203.out GE211.out GE220.out)⟩)
    · skip
      refine box_step ?hg (N := 8) ?hd (cs := #[.slice none 0 0, .slice none 0 0]) (t := 63) ?hr ?_; (case hd => rfl); (case hg => rfl); (case hr => first | (go_simp; done) | (go_simp; rfl))
      intro gb220 hg w37 hbox hb
      have n0_ := Aside0.mk (Kd.R_below (pr_ HO_212000.out) hb)
      have n1_ := Aside0.mk (Kd.S_below (ps_ HO_212001.out) hb)
      have n2_ := Aside0.mk (bb_ BK202.out hb)
      have n3_ := Aside0.mk (bb_ BK203.out hb)
      have n4_ := Aside0.mk (bb_ BK211.out hb)
      have n5_ := Aside0.mk (below_step (pb3_ HB.out GE202.out GE203.out GE211.out) hb)
      have n6_ := Aside0.mk (hbox)
      have n7_ := Aside0.mk ((by rw [hg]; exact (below_size (pb3_ HB.out GE202.out GE203.out GE211.out)) : w.heap.size ≤ gb220))
      have n8_ := Aside0.mk ((by rw [hg]; exact (below_size (pb3_ HB.out GE202.out GE203.out GE211.out)) : w.heap.size ≤ gb220))
      have n9_ := Aside0.mk ((by rw [hg]; exact Nat.ne_of_lt (blk_lt (pk_ BK202.out)) : gb202 ≠ gb220))
      have n10_ := Aside0.mk ((by rw [hg]; exact Nat.ne_of_gt (blk_lt (pk_ BK202.out)) : gb220 ≠ gb202))
      have n11_ := Aside0.mk ((by rw [hg]; exact Nat.ne_of_lt (blk_lt (pk_ BK203.out)) : gb203 ≠ gb220))
      have n12_ := Aside0.mk ((by rw [hg]; exact Nat.ne_of_gt (blk_lt (pk_ BK203.out)) : gb220 ≠ gb203))
      have n13_ := Aside0.mk ((by rw [hg]; exact Nat.ne_of_lt (blk_lt (pk_ BK211.out)) : gb211 ≠ gb220))
      have n14_ := Aside0.mk ((by rw [hg]; exact Nat.ne_of_gt (blk_lt (pk_ BK211.out)) : gb220 ≠ gb211))
      clear HO_212000
      clear HO_212001
      clear BK202
      clear BK203
      clear BK211
      clear HB
      have HO_212000 := n0_
      have HO_212001 := n1_
      have BK202 := n2_
      have BK203 := n3_
      have BK211 := n4_
      have HB := n5_
      have BK220 := n6_
      have GW220 := n7_
      have GE220 := n8_
      have NB202_220 := n9_
      have NB220_202 := n10_
      have NB203_220 := n11_
      have NB220_203 := n12_
      have NB211_220 := n13_
      have NB220_211 := n14_
      clear n0_ n1_ n2_ n3_ n4_ n5_ n6_ n7_ n8_ n9_ n10_ n11_ n12_ n13_ n14_
      clear hb hbox hg
      refine hK.out _ _ ⟨(blk_cell BK211.out 0).trans rfl, (blk_cell BK211.out 1).trans rfl, ((HB.out.cell (World.block_lt_of_cell? w _ hw212_0)).trans hw212_0), ((HB.out.cell (World.block_lt_of_cell? w _ hw212_1)).trans hw212_1), ((HB.out.cell (World.block_lt_of_cell? w _ hw212_2)).trans hw212_2), ((HB.out.cell (World.block_lt_of_cell? w _ hw212_3)).trans hw212_3)⟩ (fun hHeld => ?_)
      clear hK K
      refine no_ (some 8) ?_
      refine on_ 5 (some 33) #[true, true, true, true, true, true, false, false, false, true, false, false] HT_ (fun K hK => ?_)
      refine goes_ Try.func70 (by kernel_rfl) rfl #[.agg #[.int .i64 ((rd_T50 l0 x7_2).f0), .slice A212_1 ((rd_T50 l0 x7_2).f1).length c212_1, .slice A212_2 ((rd_T50 l0 x7_2).f2).length c212_2, .bool ((rd_T50 l0 x7_2).f3)], .agg #[.slice Ao34 x212000_2.length co34, .slice Ao35 x212001_2.length co35]] (by rfl) rfl rfl mp_ ?_
      with_reducible refine (spec_PassBox.calls k2 ((rd_T50 l0 x7_2).f0) _ _ ((rd_T50 l0 x7_2).f1) _ _ ((rd_T50 l0 x7_2).f2) ((rd_T50 l0 x7_2).f3) _ _ x212000_2 _ _ x212001_2 t213 t216 t219 _ ?side1 ?side2 ?side3 ?side4 ?side5 ?side6 ?side7 ?side8 A33.out).mono ?_
      (case side1 => exact pc_ (Kd.C_below HR212_1.out HB.out))
      (case side2 => exact HC212_1.out)
      (case side3 => exact pc_ (Kd.C_below HR212_2.out HB.out))
      (case side4 => exact HC212_2.out)
      (case side5 => exact pc_ ((Kd.R_reads' HO_212000.out).2.2))
      (case side6 => exact (Kd.R_reads' HO_212000.out).2.1)
      (case side7 => exact pc_ ((Kd.S_reads' HO_212001.out).2.2))
      (case side8 => exact (Kd.S_reads' HO_212001.out).2.1)
      rintro e w38 ⟨v214, v217, rfl, ho0, ho1, hb⟩
      refine ⟨_, rfl, ?_⟩
      have n0_ := Aside0.mk (Kd.R_elder' (pr_ HO_212000.out) (Kd.R_base ho0) hb)
      have n1_ := Aside0.mk (Kd.S_mono (Kd.S_told (Kd.S_told (Kd.S_old (ps_ HO_212001.out) hb) (Kd.R_base ho0)) (Kd.S_base ho1)) (fun _ h_ => h_.1))
      have n2_ := Aside0.mk (Kd.R_lower (Kd.R_new' ho0 (Kd.R_lt (pr_ HO_212000.out))) (below_size (pb4_ HB.out GE202.out GE203.out GE211.out GE220.out)))
      have n3_ := Aside0.mk (Kd.S_lower (Kd.S_new' (Kd.S_new' ho1 (Kd.R_lt (pr_ HO_212000.out))) (Kd.S_lt (ps_ HO_212001.out))) (below_size (pb4_ HB.out GE202.out GE203.out GE211.out GE220.out)))
      have n4_ := Aside0.mk (bb_ BK202.out hb)
      have n5_ := Aside0.mk (bb_ BK203.out hb)
      have n6_ := Aside0.mk (bb_ BK211.out hb)
      have n7_ := Aside0.mk (bb_ BK220.out hb)
      have n8_ := Aside0.mk (below_step (pb4_ HB.out GE202.out GE203.out GE211.out GE220.out) hb)
      clear HO_212000
      clear HO_212001
      clear BK202
      clear BK203
      clear BK211
      clear BK220
      clear HB
      have HO_212000 := n0_
      have HO_212001 := n1_
      have HO215 := n2_
      have HO218 := n3_
      have BK202 := n4_
      have BK203 := n5_
      have BK211 := n6_
      have BK220 := n7_
      have HB := n8_
      clear n0_ n1_ n2_ n3_ n4_ n5_ n6_ n7_ n8_
      (try clear hb)
      (try clear hb2)
      (try clear hk)
      (try clear hi)
      (try clear ho0)
      (try clear ho1)
      refine hK.out _ _ ⟨(blk_cell BK211.out 0).trans rfl, (blk_cell BK211.out 1).trans rfl, ((HB.out.cell (World.block_lt_of_cell? w _ hw212_0)).trans hw212_0), ((HB.out.cell (World.block_lt_of_cell? w _ hw212_1)).trans hw212_1), ((HB.out.cell (World.block_lt_of_cell? w _ hw212_2)).trans hw212_2), ((HB.out.cell (World.block_lt_of_cell? w _ hw212_3)).trans hw212_3)⟩ (fun hHeld => ?_)
      clear hK K
      refine no_ (some 33) ?_
      refine pu_ 6 (some 27) #[true, true, true, true, true, true, true, false, false, true, false, false] HT_ ?_
      refine pu_ 7 (some 34) #[true, true, true, true, true, true, true, true, false, true, false, false] HT_ ?_
      refine pu_ 8 (some 35) (tf_ 10 12) HT_ ?_
      exact norm_ (by simp only [putAll, Act.put, List.setIfInBounds_toArray, List.set_cons_zero, List.set_cons_succ]) (hCont (v214, v217, gb220) _ ⟨hHeld, (pr_ (Kd.R_mono HO215.out (fun _ hk => hk.2))), (by (with_reducible repeat (first | apply Kd.S_alloc | apply Kd.S_drewN | apply Kd.S_drew)); exact Kd.S_mono HO218.out (fun _ hk => ⟨hk.1.1, ⟨hk.1.2, hk.2⟩⟩)), (pr_ (Kd.R_mono HO_212000.out (fun _ hk => hk.2))), (by (with_reducible repeat (first | apply Kd.S_alloc | apply Kd.S_drewN | apply Kd.S_drew)); exact Kd.S_mono HO_212001.out (fun _ hk => ⟨hk.1.2, ⟨hk.2, hk.1.1⟩⟩)), (pk_ BK202.out), (pk_ BK203.out), (pk_ BK211.out), (pk_ BK220.out), GW220.out, GE220.out, NB202_220.out, NB220_202.out, NB203_220.out, NB220_203.out, NB211_220.out, NB220_211.out, (pb4_ HB.out GE202.out GE203.out GE211.out GE220.out)⟩)
  rintro ⟨v214, v217, gb220⟩ w39 ⟨hS_, h0_, h1_, h2_, h3_, h4_, h5_, h6_, h7_, h8_, h9_, h10_, h11_, h12_, h13_, h14_, h15_, h16_⟩
  have n0_ : Aside0 (Kd.R (Kd.int .i64) 3 w39 w.heap.size (fun k_ => some k_ ≠ (.slice Ao34 x212000_2.length co34 : Value).ownBlock) v214 t213) := ⟨h0_⟩
  have n1_ : Aside0 (Kd.S k69 69 w39 w.heap.size (fun k_ => some k_ ≠ (v214 : Value).ownBlock ∧ some k_ ≠ (.slice Ao34 x212000_2.length co34 : Value).ownBlock ∧ some k_ ≠ (.slice Ao35 x212001_2.length co35 : Value).ownBlock) v217 t216) := ⟨h1_⟩
  have n2_ : Aside0 (Kd.R (Kd.int .i64) 3 w39 w.heap.size (fun k_ => some k_ ≠ (v214 : Value).ownBlock) (.slice Ao34 x212000_2.length co34) x212000_2) := ⟨h2_⟩
  have n3_ : Aside0 (Kd.S k69 69 w39 w.heap.size (fun k_ => some k_ ≠ (v214 : Value).ownBlock ∧ some k_ ≠ (v217 : Value).ownBlock ∧ some k_ ≠ (.slice Ao34 x212000_2.length co34 : Value).ownBlock) (.slice Ao35 x212001_2.length co35) x212001_2) := ⟨h3_⟩
  have n4_ : Aside0 (w39.heap[gb202]? = some (.cells #[.slice A1_0 l1_0.length c1_0, .slice A1_1 l1_1.length c1_1] 63 (0, 0))) := ⟨h4_⟩
  have n5_ : Aside0 (w39.heap[gb203]? = some (.cells #[.slice none 0 0, .slice none 0 0] 63 (0, 0))) := ⟨h5_⟩
  have n6_ : Aside0 (w39.heap[gb211]? = some (.cells #[.slice Ao34 x212000_2.length co34, .slice Ao35 x212001_2.length co35] 63 (0, 0))) := ⟨h6_⟩
  have n7_ : Aside0 (w39.heap[gb220]? = some (.cells #[.slice none 0 0, .slice none 0 0] 63 (0, 0))) := ⟨h7_⟩
  have n8_ : Aside0 (w.heap.size ≤ gb220) := ⟨h8_⟩
  have n9_ : Aside0 (w.heap.size ≤ gb220) := ⟨h9_⟩
  have n10_ : Aside0 (gb202 ≠ gb220) := ⟨h10_⟩
  have n11_ : Aside0 (gb220 ≠ gb202) := ⟨h11_⟩
  have n12_ : Aside0 (gb203 ≠ gb220) := ⟨h12_⟩
  have n13_ : Aside0 (gb220 ≠ gb203) := ⟨h13_⟩
  have n14_ : Aside0 (gb211 ≠ gb220) := ⟨h14_⟩
  have n15_ : Aside0 (gb220 ≠ gb211) := ⟨h15_⟩
  have n16_ : Aside0 (Below w.heap.size w w39) := ⟨h16_⟩
  clear HO_212000
  clear HO_212001
  clear BK202
  clear BK203
  clear BK211
  clear HB
  clear h0_ h1_ h2_ h3_ h4_ h5_ h6_ h7_ h8_ h9_ h10_ h11_ h12_ h13_ h14_ h15_ h16_
  have HO215 := n0_
  have HO218 := n1_
  have HO_212000 := n2_
  have HO_212001 := n3_
  have BK202 := n4_
  have BK203 := n5_
  have BK211 := n6_
  have BK220 := n7_
  have GW220 := n8_
  have GE220 := n9_
  have NB202_220 := n10_
  have NB220_202 := n11_
  have NB203_220 := n12_
  have NB220_203 := n13_
  have NB211_220 := n14_
  have NB220_211 := n15_
  have HB := n16_
  clear n0_ n1_ n2_ n3_ n4_ n5_ n6_ n7_ n8_ n9_ n10_ n11_ n12_ n13_ n14_ n15_ n16_
  have hHeld : w39.cell? ⟨gb211, 0, none⟩ = some (.slice Ao34 x212000_2.length co34) ∧ w39.cell? ⟨gb211, 1, none⟩ = some (.slice Ao35 x212001_2.length co35) ∧ w39.cell? (ad212.add ((x7_2).toNat * 4)) = some (.int .i64 ((rd_T50 l0 x7_2).f0)) ∧ w39.cell? ⟨(ad212.add ((x7_2).toNat * 4)).block, (ad212.add ((x7_2).toNat * 4)).off + 1, none⟩ = some (.slice A212_1 ((rd_T50 l0 x7_2).f1).length c212_1) ∧ w39.cell? ⟨(ad212.add ((x7_2).toNat * 4)).block, (ad212.add ((x7_2).toNat * 4)).off + 2, none⟩ = some (.slice A212_2 ((rd_T50 l0 x7_2).f2).length c212_2) ∧ w39.cell? ⟨(ad212.add ((x7_2).toNat * 4)).block, (ad212.add ((x7_2).toNat * 4)).off + 3, none⟩ = some (.bool ((rd_T50 l0 x7_2).f3)) := hS_
  obtain ⟨Ao40, co40, eo40⟩ := Kd.R_slice HO215.out
  (first | subst eo40 | (injection eo40 with f1_ f2_ f3_; have f4_ := f1_.symm; have f5_ := f3_.symm; clear f1_ f2_ f3_; subst f4_; subst f5_))
  obtain ⟨Ao42, co42, eo42⟩ := Kd.S_slice HO218.out
  (first | subst eo42 | (injection eo42 with f1_ f2_ f3_; have f4_ := f1_.symm; have f5_ := f3_.symm; clear f1_ f2_ f3_; subst f4_; subst f5_))
  refine norm_ (a' := ?_) ?_ ?_
  rotate_left
  · simp only [putAll, Act.put, List.setIfInBounds_toArray, List.set_cons_zero, List.set_cons_succ]
    rfl
  refine on_ 10 (none) (tf_ 11 12) HT_ (fun K hK => ?_)
  have hs41 : w39.cell? ⟨gb220, 0, none⟩ = some (.slice none 0 0) := (blk_cell BK220.out 0).trans rfl
  have hfs41 := blk_frozen BK220.out 0
  have hns41_0 := NB202_220.out
  have hns41_1 := NB203_220.out
  have hns41_2 := NB211_220.out
  have hms41_0 := NB220_202.out
  have hms41_1 := NB220_203.out
  have hms41_2 := NB220_211.out
  have hs43 : w39.cell? ⟨gb220, 1, none⟩ = some (.slice none 0 0) := (blk_cell BK220.out 1).trans rfl
  have hfs43 := blk_frozen BK220.out 1
  have hns43_0 := NB202_220.out
  have hns43_1 := NB203_220.out
  have hns43_2 := NB211_220.out
  have hms43_0 := NB220_202.out
  have hms43_1 := NB220_203.out
  have hms43_2 := NB220_211.out
  refine skip_ (w1 := ?_) (by rfl) rfl ?_ ?_
  rotate_left
  · go_simp
    rfl
  refine hK.out _ _ ⟨((cell_far (p := ⟨gb220, _, none⟩) NB211_220.out _).trans (((cell_far (p := ⟨gb220, _, none⟩) NB211_220.out _).trans (hHeld.1)))), ((cell_far (p := ⟨gb220, _, none⟩) NB211_220.out _).trans (((cell_far (p := ⟨gb220, _, none⟩) NB211_220.out _).trans (hHeld.2.1)))), ((cell_far (p := ⟨gb220, _, none⟩) (by first | exact Nat.ne_of_lt (Nat.lt_of_lt_of_le (by have := World.block_lt_of_cell? _ _ hw212_0; first | rwa [add_block] at this | exact this) GW220.out) | (rw [add_block]; exact Nat.ne_of_lt (Nat.lt_of_lt_of_le (by have := World.block_lt_of_cell? _ _ hw212_0; first | rwa [add_block] at this | exact this) GW220.out)) | (show (Addr.add _ _).block ≠ _; rw [add_block]; exact Nat.ne_of_lt (Nat.lt_of_lt_of_le (by have := World.block_lt_of_cell? _ _ hw212_0; first | rwa [add_block] at this | exact this) GW220.out)) | (dsimp only; exact Nat.ne_of_lt (Nat.lt_of_lt_of_le (by have := World.block_lt_of_cell? _ _ hw212_0; first | rwa [add_block] at this | exact this) GW220.out))) _).trans (((cell_far (p := ⟨gb220, _, none⟩) (by first | exact Nat.ne_of_lt (Nat.lt_of_lt_of_le (by have := World.block_lt_of_cell? _ _ hw212_0; first | rwa [add_block] at this | exact this) GW220.out) | (rw [add_block]; exact Nat.ne_of_lt (Nat.lt_of_lt_of_le (by have := World.block_lt_of_cell? _ _ hw212_0; first | rwa [add_block] at this | exact this) GW220.out)) | (show (Addr.add _ _).block ≠ _; rw [add_block]; exact Nat.ne_of_lt (Nat.lt_of_lt_of_le (by have := World.block_lt_of_cell? _ _ hw212_0; first | rwa [add_block] at this | exact this) GW220.out)) | (dsimp only; exact Nat.ne_of_lt (Nat.lt_of_lt_of_le (by have := World.block_lt_of_cell? _ _ hw212_0; first | rwa [add_block] at this | exact this) GW220.out))) _).trans (hHeld.2.2.1)))), ((cell_far (p := ⟨gb220, _, none⟩) (by first | exact Nat.ne_of_lt (Nat.lt_of_lt_of_le (by have := World.block_lt_of_cell? _ _ hw212_1; first | rwa [add_block] at this | exact this) GW220.out) | (rw [add_block]; exact Nat.ne_of_lt (Nat.lt_of_lt_of_le (by have := World.block_lt_of_cell? _ _ hw212_1; first | rwa [add_block] at this | exact this) GW220.out)) | (show (Addr.add _ _).block ≠ _; rw [add_block]; exact Nat.ne_of_lt (Nat.lt_of_lt_of_le (by have := World.block_lt_of_cell? _ _ hw212_1; first | rwa [add_block] at this | exact this) GW220.out)) | (dsimp only; exact Nat.ne_of_lt (Nat.lt_of_lt_of_le (by have := World.block_lt_of_cell? _ _ hw212_1; first | rwa [add_block] at this | exact this) GW220.out))) _).trans (((cell_far (p := ⟨gb220, _, none⟩) (by first | exact Nat.ne_of_lt (Nat.lt_of_lt_of_le (by have := World.block_lt_of_cell? _ _ hw212_1; first | rwa [add_block] at this | exact this) GW220.out) | (rw [add_block]; exact Nat.ne_of_lt (Nat.lt_of_lt_of_le (by have := World.block_lt_of_cell? _ _ hw212_1; first | rwa [add_block] at this | exact this) GW220.out)) | (show (Addr.add _ _).block ≠ _; rw [add_block]; exact Nat.ne_of_lt (Nat.lt_of_lt_of_le (by have := World.block_lt_of_cell? _ _ hw212_1; first | rwa [add_block] at this | exact this) GW220.out)) | (dsimp only; exact Nat.ne_of_lt (Nat.lt_of_lt_of_le (by have := World.block_lt_of_cell? _ _ hw212_1; first | rwa [add_block] at this | exact this) GW220.out))) _).trans (hHeld.2.2.2.1)))), ((cell_far (p := ⟨gb220, _, none⟩) (by first | exact Nat.ne_of_lt (Nat.lt_of_lt_of_le (by have := World.block_lt_of_cell? _ _ hw212_2; first | rwa [add_block] at this | exact this) GW220.out) | (rw [add_block]; exact Nat.ne_of_lt (Nat.lt_of_lt_of_le (by have := World.block_lt_of_cell? _ _ hw212_2; first | rwa [add_block] at this | exact this) GW220.out)) | (show (Addr.add _ _).block ≠ _; rw [add_block]; exact Nat.ne_of_lt (Nat.lt_of_lt_of_le (by have := World.block_lt_of_cell? _ _ hw212_2; first | rwa [add_block] at this | exact this) GW220.out)) | (dsimp only; exact Nat.ne_of_lt (Nat.lt_of_lt_of_le (by have := World.block_lt_of_cell? _ _ hw212_2; first | rwa [add_block] at this | exact this) GW220.out))) _).trans (((cell_far (p := ⟨gb220, _, none⟩) (by first | exact Nat.ne_of_lt (Nat.lt_of_lt_of_le (by have := World.block_lt_of_cell? _ _ hw212_2; first | rwa [add_block] at this | exact this) GW220.out) | (rw [add_block]; exact Nat.ne_of_lt (Nat.lt_of_lt_of_le (by have := World.block_lt_of_cell? _ _ hw212_2; first | rwa [add_block] at this | exact this) GW220.out)) | (show (Addr.add _ _).block ≠ _; rw [add_block]; exact Nat.ne_of_lt (Nat.lt_of_lt_of_le (by have := World.block_lt_of_cell? _ _ hw212_2; first | rwa [add_block] at this | exact this) GW220.out)) | (dsimp only; exact Nat.ne_of_lt (Nat.lt_of_lt_of_le (by have := World.block_lt_of_cell? _ _ hw212_2; first | rwa [add_block] at this | exact this) GW220.out))) _).trans (hHeld.2.2.2.2.1)))), ((cell_far (p := ⟨gb220, _, none⟩) (by first | exact Nat.ne_of_lt (Nat.lt_of_lt_of_le (by have := World.block_lt_of_cell? _ _ hw212_3; first | rwa [add_block] at this | exact this) GW220.out) | (rw [add_block]; exact Nat.ne_of_lt (Nat.lt_of_lt_of_le (by have := World.block_lt_of_cell? _ _ hw212_3; first | rwa [add_block] at this | exact this) GW220.out)) | (show (Addr.add _ _).block ≠ _; rw [add_block]; exact Nat.ne_of_lt (Nat.lt_of_lt_of_le (by have := World.block_lt_of_cell? _ _ hw212_3; first | rwa [add_block] at this | exact this) GW220.out)) | (dsimp only; exact Nat.ne_of_lt (Nat.lt_of_lt_of_le (by have := World.block_lt_of_cell? _ _ hw212_3; first | rwa [add_block] at this | exact this) GW220.out))) _).trans (((cell_far (p := ⟨gb220, _, none⟩) (by first | exact Nat.ne_of_lt (Nat.lt_of_lt_of_le (by have := World.block_lt_of_cell? _ _ hw212_3; first | rwa [add_block] at this | exact this) GW220.out) | (rw [add_block]; exact Nat.ne_of_lt (Nat.lt_of_lt_of_le (by have := World.block_lt_of_cell? _ _ hw212_3; first | rwa [add_block] at this | exact this) GW220.out)) | (show (Addr.add _ _).block ≠ _; rw [add_block]; exact Nat.ne_of_lt (Nat.lt_of_lt_of_le (by have := World.block_lt_of_cell? _ _ hw212_3; first | rwa [add_block] at this | exact this) GW220.out)) | (dsimp only; exact Nat.ne_of_lt (Nat.lt_of_lt_of_le (by have := World.block_lt_of_cell? _ _ hw212_3; first | rwa [add_block] at this | exact this) GW220.out))) _).trans (hHeld.2.2.2.2.2))))⟩ (fun hHeld => ?_)
  clear hK K
  refine pu_ 11 (some 9) (tf_ 12 12) HT_ ?_
  refine done_ (done_of HT_.out (by kernel_rfl)) ?_
  go_upto_if 37 with (fail)
  have H := HS_.out
  clear HS_
  by_cases c44 : t219 = true
  rotate_left
  · replace c44 := Bool.eq_false_iff.mpr c44
    subst c44
    rw [if_neg (show ¬ (false = true) by decide)] at H
    simp only [Option.some.injEq, Prod.mk.injEq] at H
    obtain ⟨rfl, rfl, rfl⟩ := H
    have hnb45 := NB203_202.out
    have hnc45 := NB202_203.out
    have hnb46 := NB203_211.out
    have hnc46 := NB211_203.out
    have hnb47 := NB203_220.out
    have hnc47 := NB220_203.out
    obtain ⟨hcz48_0, hcz48_1, hfz48_0, hfz48_1⟩ := bc2_ BK203.out
    go_wp2
    refine bodyPost_ret (results_ct rfl _ _ gb203 63 #[.slice none 0 0, .slice none 0 0] (0, 0) _ rfl (pp_ BK203.out) Try.underlying63 rfl (by kernel_rfl)) rfl ?_
    exact ⟨_, _, er_, by first | exact Kd.R_nil _ _ _ _ _ | exact Kd.N_nil _ _ _ _ _ | exact Kd.V_nil _ _ _ _ _ | exact Kd.Q_nil _ _ _ _ _ | exact Kd.S_nil _ _ _ _ _, by first | exact Kd.S_nil _ _ _ _ _ | exact Kd.N_nil _ _ _ _ _ | exact Kd.V_nil _ _ _ _ _ | exact Kd.Q_nil _ _ _ _ _ | exact Kd.R_nil _ _ _ _ _, pb4_ HB.out GE202.out GE203.out GE211.out GE220.out⟩
  subst c44
  rw [if_pos rfl] at H
  have H' := Aside0.mk H
  clear H
  have hnb49 := NB220_202.out
  have hnc49 := NB202_220.out
  have hnb50 := NB220_203.out
  have hnc50 := NB203_220.out
  have hnb51 := NB220_211.out
  have hnc51 := NB211_220.out
  obtain ⟨hcz52_0, hcz52_1, hfz52_0, hfz52_1⟩ := bc2_ BK220.out
  have hnb53 := NB211_202.out
  have hnc53 := NB202_211.out
  have hnb54 := NB211_203.out
  have hnc54 := NB203_211.out
  obtain ⟨hcz55_0, hcz55_1, hfz55_0, hfz55_1⟩ := bc2_ BK211.out
  go_wp2
  go_roundg k2
  case measure => have := HJ2.out; have := HK2.out; omega
  case rel => exact ⟨(wrap64 (x7_2 + 1)), (t213), (t216), (.slice Ao40 t213.length co40), (.slice Ao42 t216.length co42), el_, H', ⟨by have := HJ2.out; have := HK2.out; omega⟩, ⟨pr_ (Kd.R_mono (Kd.R_far (p := ⟨gb211, 1, none⟩) (Kd.R_far (p := ⟨gb211, 0, none⟩) (Kd.R_far (p := ⟨gb220, 1, none⟩) (Kd.R_far (p := ⟨gb220, 0, none⟩) (Kd.R_types (Kd.R_types HO215.out BK220.out (by decide)) BK211.out (by decide)) (fun _ hk => hk.1.2) (.slice Ao40 t213.length co40)) (fun _ hk => hk.1.2) (.slice Ao42 t216.length co42)) (fun _ hk => hk.2) (.slice Ao40 t213.length co40)) (fun _ hk => hk.2) (.slice Ao42 t216.length co42)) (fun _ hk => trivial))⟩, ⟨ps_ (Kd.S_mono (Kd.S_far (p := ⟨gb211, 1, none⟩) (Kd.S_far (p := ⟨gb211, 0, none⟩) (Kd.S_far (p := ⟨gb220, 1, none⟩) (Kd.S_far (p := ⟨gb220, 0, none⟩) (Kd.S_types (Kd.S_types HO218.out BK220.out (by decide)) BK211.out (by decide)) (fun _ hk => hk.1.2) (.slice Ao40 t213.length co40)) (fun _ hk => hk.1.2) (.slice Ao42 t216.length co42)) (fun _ hk => hk.2) (.slice Ao40 t213.length co40)) (fun _ hk => hk.2) (.slice Ao42 t216.length co42)) (fun _ hk => hk.1.1.1))⟩, ⟨pp_ BK202.out⟩, ⟨pp_ BK203.out⟩, ⟨pp_ BK211.out⟩, ⟨pb4_ HB.out GE202.out GE203.out GE211.out GE220.out⟩⟩

/-! ### spec_IsOpenPath: function 42 -/
def spec_IsOpenPath.f (k : Nat) (l0 : List (S50)) (l1 : List Int) : Option (Bool) := (spec_AreVersions.f k l1).bind fun t221 => (if t221 = true then (if 1 ≤ (l1.length : Int) then ((spec_PlainHello.f (l1.take 1)).bind fun bt223 => ((spec_PassPath.f k l0 bt223.1 bt223.2).bind fun bt229 => (some bt229.2.2))) else (none)) else (some false))
theorem spec_IsOpenPath.mono : ∀ a0 a1 k, LeO (spec_IsOpenPath.f k a0 a1) (spec_IsOpenPath.f (k + 1) a0 a1) := by
  intro a0 a1 k
  unfold spec_IsOpenPath.f
  repeat' first
      | (with_reducible exact spec_AreVersions.mono _ _)
      | (with_reducible exact spec_PassPath.mono _ _ _ _)
      | (with_reducible exact LeO.refl _)
      | (with_reducible exact LeO.none _)
      | (with_reducible refine LeO.ite ?_ ?_)
      | (with_reducible refine LeO.bind ?_ (fun _ => ?_))
      | exact spec_AreVersions.mono _ _
      | exact spec_PassPath.mono _ _ _ _
      | exact LeO.none _
      | refine LeO.ite ?_ ?_
      | refine LeO.bind ?_ (fun _ => ?_)
set_option maxHeartbeats 8000000 in
set_option maxRecDepth 100000 in
theorem spec_IsOpenPath.calls (k : Nat) (A0 : Option Addr) (c0 : Nat) (l0 : List (S50)) (A1 : Option Addr) (c1 : Nat) (l1 : List Int) (r : Bool) (w : World) (hr0 : Kd.C k50 w A0 l0.length l0) (hc0 : l0.length ≤ c0) (hr1 : Kd.C (Kd.int .i64) w A1 l1.length l1) (hc1 : l1.length ≤ c1) (h : spec_IsOpenPath.f k l0 l1 = some r) :
    Calls Try.prog 42 #[.slice A0 l0.length c0, .slice A1 l1.length c1] w fun e w' => e = .returned (.bool r) ∧ Below w.heap.size w w' := by
  have hu63 := Try.underlying63
  have HR0 := Aside0.mk hr0
  have HC0 := Aside0.mk hc0
  clear hr0 hc0
  have HR1 := Aside0.mk hr1
  have HC1 := Aside0.mk hc1
  clear hr1 hc1
  have HB := Aside0.mk (Below.refl w.heap.size w)
  have H : ((spec_AreVersions.f k l1).bind fun t221 => (if t221 = true then (if 1 ≤ (l1.length : Int) then ((spec_PlainHello.f (l1.take 1)).bind fun bt223 => ((spec_PassPath.f k l0 bt223.1 bt223.2).bind fun bt229 => (some bt229.2.2))) else (none)) else (some false))) = some r := h
  clear h
  replace H := Option.bind_eq_some_iff.mp H
  obtain ⟨t221, A30, H⟩ := H
  (try dsimp only at H)
  have A3 := Aside0.mk A30
  clear A30
  have HS_ := Aside0.mk H
  clear H
  go_enter Try.func42, Try.ntmps42
  go_upto_if 9 with (first | ((with_reducible refine gate_callee (f := 52) rfl ?_); refine goesL_ (some 8) rfl rfl Try.func52 (by kernel_rfl) rfl #[.slice A1 l1.length c1] rfl mp_ ?_; (with_reducible refine (spec_AreVersions.calls k _ _ l1 t221 _ ?side1 ?side2 A3.out).mono ?_); (case side1 => exact pc_ HR1.out); (case side2 => exact HC1.out); rintro e w' ⟨rfl, ⟨nd, rfl⟩⟩; refine ⟨_, rfl, ?_⟩))
  (try simp only [Act.put, List.setIfInBounds_toArray, List.set_cons_zero, List.set_cons_succ])
  have H := HS_.out
  clear HS_
  by_cases c4 : t221 = true
  rotate_left
  · replace c4 := Bool.eq_false_iff.mpr c4
    subst c4
    rw [if_neg (show ¬ (false = true) by decide)] at H
    obtain rfl := Option.some.inj H
    go_wp2
    go_ret
    exact ⟨er_, pb_ HB.out⟩
  subst c4
  rw [if_pos rfl] at H
  by_cases c5 : 1 ≤ (l1.length : Int)
  rotate_left
  · rw [if_neg c5] at H
    exact absurd H (by simp)
  rw [if_pos c5] at H
  have c5b0 := eq_true c5
  have c5b1 : decide (1 ≤ (l1.length : Int)) = true := decide_eq_true c5
  clear c5
  replace H := Option.bind_eq_some_iff.mp H
  obtain ⟨⟨t223, t226⟩, A60, H⟩ := H
  (try dsimp only at H)
  have A6 := Aside0.mk A60
  clear A60
  replace H := Option.bind_eq_some_iff.mp H
  obtain ⟨⟨t229, t232, t235⟩, A70, H⟩ := H
  replace H : (some t235) = some r := H
  have A7 := Aside0.mk A70
  clear A70
  obtain rfl := Option.some.inj H
  obtain ⟨i08, hi08, _, hsz8, _⟩ := info_parts info3
  obtain ⟨hcut8, hA8, hC8⟩ := print_take_of (P := Try.prog) (Value.int .i64) 0 23 3 .i64 Try.underlying23 hi08 hsz8 A1 c1 l1 1 (by omega) dt_ HC1.out
  have HR222 := Aside0.mk (Kd.C_of_reads (h1 := fun _ => rfl) (hA8 _ (Kd.reads_of_C HR1.out)))
  have HC222 := Aside0.mk hC8
  clear hA8 hC8 hi08 hsz8
  go_wp2_with (first | ((with_reducible refine gate_callee (f := 43) rfl ?_); refine goesL_ (some 14) rfl rfl Try.func43 (by kernel_rfl) rfl #[.slice A1 (l1.take 1).length c1] rfl (by (try simp only [List.map_toArray, List.map_cons, List.map_nil]); first | done | (rw [show (l1.take 1).length = 1 from (by rw [List.length_take]; have h_ : (1 : Int) ≤ (l1.length : Int) := dt_; omega)] <;> rfl) | rfl | (simp only [List.length_drop, List.length_take]; rfl)) ?_; (with_reducible refine (spec_PlainHello.calls _ _ (l1.take 1) t223 t226 _ ?side1 ?side2 A6.out).mono ?_); (case side1 => exact pc_ (Kd.C_below HR222.out (pb_ HB.out))); (case side2 => exact HC222.out); rintro e w9 ⟨v224, v227, rfl, ho0, ho1, hb⟩; refine ⟨_, rfl, ?_⟩; have n0_ := Aside0.mk (Kd.R_lower ho0 (below_size (pb_ HB.out))); have n1_ := Aside0.mk (Kd.S_lower ho1 (below_size (pb_ HB.out))); have n2_ := Aside0.mk (below_step (pb_ HB.out) hb); clear HB; have HO225 := n0_; have HO228 := n1_; have HB := n2_; clear n0_ n1_ n2_; (try clear hb); (try clear hb2); (try clear hk); (try clear hi); (try clear ho0); (try clear ho1); obtain ⟨Ao10, co10, eo10⟩ := Kd.R_slice HO225.out; subst eo10; obtain ⟨Ao11, co11, eo11⟩ := Kd.S_slice HO228.out; subst eo11) | ((with_reducible refine gate_callee (f := 44) rfl ?_); refine goesL_ (some 15) rfl rfl Try.func44 (by kernel_rfl) rfl #[.slice A0 l0.length c0, .agg #[.slice Ao10 t223.length co10, .slice Ao11 t226.length co11]] rfl mp_ ?_; (with_reducible refine (spec_PassPath.calls k _ _ l0 _ _ t223 _ _ t226 t229 t232 t235 _ ?side1 ?side2 ?side3 ?side4 ?side5 ?side6 A7.out).mono ?_); (case side1 => exact pc_ (Kd.C_below HR0.out HB.out)); (case side2 => exact HC0.out); (case side3 => exact pc_ ((Kd.R_reads' HO225.out).2.2)); (case side4 => exact (Kd.R_reads' HO225.out).2.1); (case side5 => exact pc_ ((Kd.S_reads' HO228.out).2.2)); (case side6 => exact (Kd.S_reads' HO228.out).2.1); rintro e w12 ⟨v230, v233, rfl, ho0, ho1, hb⟩; refine ⟨_, rfl, ?_⟩; have n0_ := Aside0.mk (Kd.R_elder' (pr_ HO225.out) (Kd.R_base ho0) hb); have n1_ := Aside0.mk (Kd.S_mono (Kd.S_told (Kd.S_told (Kd.S_old (ps_ HO228.out) hb) (Kd.R_base ho0)) (Kd.S_base ho1)) (fun _ h_ => h_.1)); have n2_ := Aside0.mk (Kd.R_lower (Kd.R_new' ho0 (Kd.R_lt (pr_ HO225.out))) (below_size (pb_ HB.out))); have n3_ := Aside0.mk (Kd.S_lower (Kd.S_new' (Kd.S_new' ho1 (Kd.R_lt (pr_ HO225.out))) (Kd.S_lt (ps_ HO228.out))) (below_size (pb_ HB.out))); have n4_ := Aside0.mk (below_step (pb_ HB.out) hb); clear HO225; clear HO228; clear HB; have HO225 := n0_; have HO228 := n1_; have HO231 := n2_; have HO234 := n3_; have HB := n4_; clear n0_ n1_ n2_ n3_ n4_; (try clear hb); (try clear hb2); (try clear hk); (try clear hi); (try clear ho0); (try clear ho1)) | ((with_reducible refine gate_dst (N := 5) rfl ?_); refine box_event ?hg (N := 5) ?hd (cs := #[.slice none 0 0, .slice none 0 0]) (t := 63) ?hr ?_; (case hd => rfl); (case hg => rfl); (case hr => first | (go_simp; done) | (go_simp; rfl)); intro gb236 hg w13 hbox hb; have n0_ := Aside0.mk (Kd.R_below (pr_ HO225.out) hb); have n1_ := Aside0.mk (Kd.S_below (ps_ HO228.out) hb); have n2_ := Aside0.mk (Kd.R_below (pr_ HO231.out) hb); have n3_ := Aside0.mk (Kd.S_below (ps_ HO234.out) hb); have n4_ := Aside0.mk (below_step (pb_ HB.out) hb); have n5_ := Aside0.mk (hbox); have n6_ := Aside0.mk ((by rw [hg]; exact (below_size (pb_ HB.out)) : w.heap.size ≤ gb236)); have n7_ := Aside0.mk ((by rw [hg]; exact (below_size (pb_ HB.out)) : w.heap.size ≤ gb236)); clear HO225; clear HO228; clear HO231; clear HO234; clear HB; have HO225 := n0_; have HO228 := n1_; have HO231 := n2_; have HO234 := n3_; have HB := n4_; have BK236 := n5_; have GW236 := n6_; have GE236 := n7_; clear n0_ n1_ n2_ n3_ n4_ n5_ n6_ n7_; clear hb hbox hg; obtain ⟨Ao14, co14, eo14⟩ := Kd.R_slice HO231.out; subst eo14; have hcz15_0 : w13.cell? ⟨gb236, 0, none⟩ = some (.slice none 0 0) := (blk_cell BK236.out 0).trans rfl; have hcz15_1 : w13.cell? ⟨gb236, 1, none⟩ = some (.slice none 0 0) := (blk_cell BK236.out 1).trans rfl; have hfz15_0 := blk_frozen BK236.out 0; have hfz15_1 := blk_frozen BK236.out 1; obtain ⟨Ao16, co16, eo16⟩ := Kd.S_slice HO234.out; subst eo16))
  go_ret
  exact ⟨er_, pb1_ HB.out GE236.out⟩

/-! ### spec_EqualInts: function 71 -/
def spec_EqualInts.l0 : Nat → List Int → List Int → Int → Option (Bool)
  | 0, _, _, _ => none
  | k + 1, x0, x1, x5 => if x5 < (x0.length : Int) then (if 0 ≤ x5 then (if x5 < (x1.length : Int) then (if (rd x0 x5) = (rd x1 x5) then (spec_EqualInts.l0 k x0 x1 (wrap64 (x5 + 1))) else (some false)) else (none)) else (none)) else (some true)
def spec_EqualInts.f (k : Nat) (l0 : List Int) (l1 : List Int) : Option (Bool) := if (l0.length : Int) = (l1.length : Int) then (spec_EqualInts.l0 k l0 l1 0) else (some false)
theorem spec_EqualInts.mono_l : ∀ k, (∀ y0 y1 y2, LeO (spec_EqualInts.l0 k y0 y1 y2) (spec_EqualInts.l0 (k + 1) y0 y1 y2))
  | 0 => fun _ _ _ r h => by simp [spec_EqualInts.l0] at h
  | k + 1 => by
    have ih0 := spec_EqualInts.mono_l k
    · intro y0 y1 y2
      unfold spec_EqualInts.l0
      repeat' first
      | (with_reducible exact ih0 _ _ _)
      | (with_reducible exact LeO.refl _)
      | (with_reducible exact LeO.none _)
      | (with_reducible refine LeO.ite ?_ ?_)
      | (with_reducible refine LeO.bind ?_ (fun _ => ?_))
      | exact ih0 _ _ _
      | exact LeO.none _
      | refine LeO.ite ?_ ?_
      | refine LeO.bind ?_ (fun _ => ?_)
theorem spec_EqualInts.mono : ∀ a0 a1 k, LeO (spec_EqualInts.f k a0 a1) (spec_EqualInts.f (k + 1) a0 a1) := by
  intro a0 a1 k
  have ih0 := spec_EqualInts.mono_l k
  unfold spec_EqualInts.f
  repeat' first
      | (with_reducible exact ih0 _ _ _)
      | (with_reducible exact LeO.refl _)
      | (with_reducible exact LeO.none _)
      | (with_reducible refine LeO.ite ?_ ?_)
      | (with_reducible refine LeO.bind ?_ (fun _ => ?_))
      | exact ih0 _ _ _
      | exact LeO.none _
      | refine LeO.ite ?_ ?_
      | refine LeO.bind ?_ (fun _ => ?_)
set_option maxHeartbeats 8000000 in
set_option maxRecDepth 100000 in
theorem spec_EqualInts.calls (k : Nat) (A0 : Option Addr) (c0 : Nat) (l0 : List Int) (A1 : Option Addr) (c1 : Nat) (l1 : List Int) (r : Bool) (w : World) (hr0 : Kd.C (Kd.int .i64) w A0 l0.length l0) (hc0 : l0.length ≤ c0) (hr1 : Kd.C (Kd.int .i64) w A1 l1.length l1) (hc1 : l1.length ≤ c1) (h : spec_EqualInts.f k l0 l1 = some r) :
    Calls Try.prog 71 #[.slice A0 l0.length c0, .slice A1 l1.length c1] w fun e w' => e = .returned (.bool r) ∧ Drawn0 w w' := by
  have HR0 := Aside0.mk hr0
  have HC0 := Aside0.mk hc0
  clear hr0 hc0
  have HR1 := Aside0.mk hr1
  have HC1 := Aside0.mk hc1
  clear hr1 hc1
  have H : (if (l0.length : Int) = (l1.length : Int) then (spec_EqualInts.l0 k l0 l1 0) else (some false)) = some r := h
  clear h
  by_cases c3 : (l0.length : Int) = (l1.length : Int)
  rotate_left
  · rw [if_neg c3] at H
    have c3b0 : ((l0.length : Int) == (l1.length : Int)) = false := beq_eq_false_iff_ne.mpr c3
    have c3b1 : ((l0.length : Int) != (l1.length : Int)) = true := bne_iff_ne.mpr c3
    have c3b2 : (l0.length == l1.length) = false := by first | simpa using c3 | (simp at c3 ⊢; omega)
    obtain rfl := Option.some.inj H
    go_enter Try.func71, Try.ntmps71
    go_wp2
    repeat (go_quiet (fail); try go_wp2)
    go_ret
    exact ⟨by first | rfl | (simp; done) | (simp [*]; done), by repeat (first | exact Drawn0.refl _ | apply Drawn0.step)⟩
  rw [if_pos c3] at H
  have c3b0 : ((l0.length : Int) == (l1.length : Int)) = true := beq_iff_eq.mpr c3
  have c3b1 : ((l0.length : Int) != (l1.length : Int)) = false := bne_eq_false_iff_eq.mpr c3
  have c3b2 : (l0.length == l1.length) = true := by first | simpa using c3 | (simp at c3 ⊢; omega)
  clear c3
  have H' := Aside0.mk H
  clear H
  go_enter Try.func71, Try.ntmps71
  go_wp2
  repeat (go_quiet (fail); try go_wp2)
  go_loopg [5] k (fun kq v5 w' => ∃ (x5_1 : Int), v5 = .int .i64 x5_1 ∧ Aside0 (spec_EqualInts.l0 kq l0 l1 x5_1 = some r) ∧ Aside0 (kq ≤ k) ∧ Drawn0 w w')
  case atStart => exact ⟨(0), el_, H', ⟨Nat.le_refl _⟩, by repeat (first | exact Drawn0.refl _ | apply Drawn0.step)⟩
  clear H'
  try clear c1
  try clear p2
  try clear c3
  try clear c3b0
  try clear c3b1
  try clear c3b2
  obtain ⟨x5_1, rfl, HA, HK1, ⟨m1, rfl⟩⟩ := hrel
  rcases gk with _ | k1
  · exact absurd HA.out (by simp [spec_EqualInts.l0])
  have H := HA.out
  clear HA
  simp only [spec_EqualInts.l0] at H
  by_cases c4 : x5_1 < (l0.length : Int)
  rotate_left
  · rw [if_neg c4] at H
    have c4b0 : decide (x5_1 < (l0.length : Int)) = false := decide_eq_false c4
    clear c4
    obtain rfl := Option.some.inj H
    go_wp2
    repeat (go_quiet (fail); try go_wp2)
    go_ret
    exact ⟨by first | rfl | (simp; done) | (simp [*]; done), by repeat (first | exact Drawn0.refl _ | apply Drawn0.step)⟩
  rw [if_pos c4] at H
  have c4b0 : decide (x5_1 < (l0.length : Int)) = true := decide_eq_true c4
  clear c4
  by_cases c5 : 0 ≤ x5_1
  rotate_left
  · rw [if_neg c5] at H
    exact absurd H (by simp)
  rw [if_pos c5] at H
  have c5b0 : decide (0 ≤ x5_1) = true := decide_eq_true c5
  clear c5
  by_cases c6 : x5_1 < (l1.length : Int)
  rotate_left
  · rw [if_neg c6] at H
    exact absurd H (by simp)
  rw [if_pos c6] at H
  have c6b0 : decide (x5_1 < (l1.length : Int)) = true := decide_eq_true c6
  clear c6
  by_cases c7 : (rd l0 x5_1) = (rd l1 x5_1)
  rotate_left
  · rw [if_neg c7] at H
    have c7b0 : ((rd l0 x5_1) == (rd l1 x5_1)) = false := beq_eq_false_iff_ne.mpr c7
    have c7b1 : ((rd l0 x5_1) != (rd l1 x5_1)) = true := bne_iff_ne.mpr c7
    obtain rfl := Option.some.inj H
    have p237 : 0 ≤ (x5_1 : Int) := dt_
    have q237 : x5_1 < (l0.length : Int) := dt_
    obtain ⟨ad237, e237, hx237_0⟩ := Kd.at_int HR0.out x5_1 p237 q237
    cases e237
    replace p237 := eq_true p237
    replace q237 := eq_true q237
    have p238 : 0 ≤ (x5_1 : Int) := dt_
    have q238 : x5_1 < (l1.length : Int) := dt_
    obtain ⟨ad238, e238, hx238_0⟩ := Kd.at_int HR1.out x5_1 p238 q238
    cases e238
    replace p238 := eq_true p238
    replace q238 := eq_true q238
    go_wp2
    repeat (go_quiet (fail); try go_wp2)
    go_ret
    exact ⟨by first | rfl | (simp; done) | (simp [*]; done), by repeat (first | exact Drawn0.refl _ | apply Drawn0.step)⟩
  rw [if_pos c7] at H
  have c7b0 : ((rd l0 x5_1) == (rd l1 x5_1)) = true := beq_iff_eq.mpr c7
  have c7b1 : ((rd l0 x5_1) != (rd l1 x5_1)) = false := bne_eq_false_iff_eq.mpr c7
  clear c7
  have H' := Aside0.mk H
  clear H
  have p237 : 0 ≤ (x5_1 : Int) := dt_
  have q237 : x5_1 < (l0.length : Int) := dt_
  obtain ⟨ad237, e237, hx237_0⟩ := Kd.at_int HR0.out x5_1 p237 q237
  cases e237
  replace p237 := eq_true p237
  replace q237 := eq_true q237
  have p238 : 0 ≤ (x5_1 : Int) := dt_
  have q238 : x5_1 < (l1.length : Int) := dt_
  obtain ⟨ad238, e238, hx238_0⟩ := Kd.at_int HR1.out x5_1 p238 q238
  cases e238
  replace p238 := eq_true p238
  replace q238 := eq_true q238
  go_wp2
  repeat (go_quiet (fail); try go_wp2)
  go_roundg k1
  case measure => have := HK1.out; omega
  case rel => exact ⟨(wrap64 (x5_1 + 1)), el_, H', ⟨by have := HK1.out; omega⟩, by repeat (first | exact Drawn0.refl _ | apply Drawn0.step)⟩

end Go.Proofs.Ytpoandlbmaljhaa.Print
