-- Written by a program of this session (printx.py) out of the translation; Lean checks it.
import Derived.Test.YtldcchjbaglppaaPrint0
import Derived.Test.YtldcchjbaglppaaPrint8
import Derived.Test.YtldcchjbaglppaaPrint9
import Derived.Test.YtldcchjbaglppaaPrint12
namespace Go.Proofs.Ytldcchjbaglppaa.Print
open Go.RowKit Go.Proofs.YtldcchjbaglppaaW.PrintWords Go.Proofs.YtldcchjbaglppaaW.PrintLast Go.Proofs.YtldcchjbaglppaaW.PrintMore Go.Proofs.Ytldcchjbaglppaa.Short
attribute [local go_sem] max2_int min2_int max_two min_two max_three min_three max_four min_four   -- for this text's walks alone
set_option linter.unusedVariables false
set_option linter.unusedSimpArgs false

/-! ### impl_reached_with_impl_PairsOf_1: function 100002 -/
mutual
def impl_reached_with_impl_PairsOf_1.l0 : Nat → List (List Int) → Int → Int → List Bool → List (S78) → Int → List Bool → List (S78) → Option ((List (List Int)))
  | 0, _, _, _, _, _, _, _, _ => none
  | k + 1, x3, x4, x1000, x1001, x1002, x2000, x2001, x2002 => if x4 < (x3.length : Int) then (if 0 ≤ x4 then (if 0 < ((rd_L9 x3 x4).length : Int) then (if 1 < ((rd_L9 x3 x4).length : Int) then ((impl_PairsOf_1.f k (rd (rd_L9 x3 x4) 0) (rd (rd_L9 x3 x4) 1) x1000 x1001 x1002 x2000 x2001 x2002).bind fun t430 => (impl_reached_with_impl_PairsOf_1.l1 k x3 x4 t430 (t430.length : Int) 0 x1000 x1001 x1002 x2000 x2001 x2002)) else (none)) else (none)) else (none)) else (some x3)
def impl_reached_with_impl_PairsOf_1.l1 : Nat → List (List Int) → Int → List (List Int) → Int → Int → Int → List Bool → List (S78) → Int → List Bool → List (S78) → Option ((List (List Int)))
  | 0, _, _, _, _, _, _, _, _, _, _, _ => none
  | k + 1, x3, x4, x28, x29, x30, x1000, x1001, x1002, x2000, x2001, x2002 => if x30 < x29 then (if 0 ≤ x30 then (if x30 < (x28.length : Int) then ((slices_ContainsFunc_int_int_with_impl_reached_1.f k x3 (rd_L9 x28 x30)).bind fun t435 => (if t435 = true then (impl_reached_with_impl_PairsOf_1.l1 k x3 x4 x28 x29 (wrap64 (x30 + 1)) x1000 x1001 x1002 x2000 x2001 x2002) else (if x3.length < 5864062014805 then (impl_reached_with_impl_PairsOf_1.l1 k (x3 ++ [rd_L9 x28 x30]) x4 x28 x29 (wrap64 (x30 + 1)) x1000 x1001 x1002 x2000 x2001 x2002) else (none)))) else (none)) else (none)) else (impl_reached_with_impl_PairsOf_1.l0 k x3 (wrap64 (x4 + 1)) x1000 x1001 x1002 x2000 x2001 x2002)
end
def impl_reached_with_impl_PairsOf_1.f (k : Nat) (a0_0 : Int) (l0_1 : List Bool) (l0_2 : List (S78)) (a1_0 : Int) (l1_1 : List Bool) (l1_2 : List (S78)) : Option ((List (List Int))) := impl_reached_with_impl_PairsOf_1.l0 k (([(([0, 0] : List Int))] : List (List Int))) 0 a0_0 l0_1 l0_2 a1_0 l1_1 l1_2
theorem impl_reached_with_impl_PairsOf_1.mono_l : ∀ k, (∀ y0 y1 y2 y3 y4 y5 y6 y7, LeO (impl_reached_with_impl_PairsOf_1.l0 k y0 y1 y2 y3 y4 y5 y6 y7) (impl_reached_with_impl_PairsOf_1.l0 (k + 1) y0 y1 y2 y3 y4 y5 y6 y7)) ∧ (∀ y0 y1 y2 y3 y4 y5 y6 y7 y8 y9 y10, LeO (impl_reached_with_impl_PairsOf_1.l1 k y0 y1 y2 y3 y4 y5 y6 y7 y8 y9 y10) (impl_reached_with_impl_PairsOf_1.l1 (k + 1) y0 y1 y2 y3 y4 y5 y6 y7 y8 y9 y10))
  | 0 => ⟨fun _ _ _ _ _ _ _ _ r h => by simp [impl_reached_with_impl_PairsOf_1.l0] at h, fun _ _ _ _ _ _ _ _ _ _ _ r h => by simp [impl_reached_with_impl_PairsOf_1.l1] at h⟩
  | k + 1 => by
    obtain ⟨ih0, ih1⟩ := impl_reached_with_impl_PairsOf_1.mono_l k
    refine ⟨?_, ?_⟩
    · intro y0 y1 y2 y3 y4 y5 y6 y7
      unfold impl_reached_with_impl_PairsOf_1.l0
      exact mo4_ ih0 ih1 impl_PairsOf_1.mono slices_ContainsFunc_int_int_with_impl_reached_1.mono
    · intro y0 y1 y2 y3 y4 y5 y6 y7 y8 y9 y10
      unfold impl_reached_with_impl_PairsOf_1.l1
      exact mo4_ ih0 ih1 impl_PairsOf_1.mono slices_ContainsFunc_int_int_with_impl_reached_1.mono
theorem impl_reached_with_impl_PairsOf_1.mono : ∀ a0 a1 a2 a3 a4 a5 k, LeO (impl_reached_with_impl_PairsOf_1.f k a0 a1 a2 a3 a4 a5) (impl_reached_with_impl_PairsOf_1.f (k + 1) a0 a1 a2 a3 a4 a5) := by
  intro a0 a1 a2 a3 a4 a5 k
  obtain ⟨ih0, ih1⟩ := impl_reached_with_impl_PairsOf_1.mono_l k
  unfold impl_reached_with_impl_PairsOf_1.f
  exact mo4_ ih0 ih1 impl_PairsOf_1.mono slices_ContainsFunc_int_int_with_impl_reached_1.mono
def impl_reached_with_impl_PairsOf_1.T5 : Bool × List (List Nat × List Nat) := (true, [([], []), ([], []), ([], []), ([1, 2], [1, 2]), ([3], [3]), ([4], [4]), ([5], [5]), ([], []), ([], []), ([7, 8], [7, 8]), ([9], [9]), ([10], [10]), ([11], [11]), ([0, 6, 12], [0, 6, 12]), ([13], [13]), ([], [])])
def impl_reached_with_impl_PairsOf_1.B5 : List Nat := [0, 0, 0, 6, 14, 30, 62, 0, 0, 384, 896, 1920, 3968, 8191, 16383, 0]
theorem impl_reached_with_impl_PairsOf_1.tab5 : rtab .any (opsOf Try.f78 5) = impl_reached_with_impl_PairsOf_1.T5 := by kernel_rfl
theorem impl_reached_with_impl_PairsOf_1.bits5 : waitsOk impl_reached_with_impl_PairsOf_1.T5.2 impl_reached_with_impl_PairsOf_1.B5 = true := by kernel_rfl
set_option maxHeartbeats 8000000 in
set_option maxRecDepth 100000 in
theorem impl_reached_with_impl_PairsOf_1.calls (k : Nat) (B0 : Nat) (a0_0 : Int) (A0_1 : Option Addr) (c0_1 : Nat) (l0_1 : List Bool) (A0_2 : Option Addr) (c0_2 : Nat) (l0_2 : List (S78)) (B1 : Nat) (a1_0 : Int) (A1_1 : Option Addr) (c1_1 : Nat) (l1_1 : List Bool) (A1_2 : Option Addr) (c1_2 : Nat) (l1_2 : List (S78)) (r : List (List Int)) (w : World) (hr0_1 : Kd.C Kd.bool w A0_1 l0_1.length l0_1) (hc0_1 : l0_1.length ≤ c0_1) (hr0_2 : Kd.C k78 w A0_2 l0_2.length l0_2) (hc0_2 : l0_2.length ≤ c0_2) (hbv0 : w.heap[B0]? = some (.cells #[.int .i64 a0_0, .slice A0_1 l0_1.length c0_1, .slice A0_2 l0_2.length c0_2] 34 (0, 0))) (hr1_1 : Kd.C Kd.bool w A1_1 l1_1.length l1_1) (hc1_1 : l1_1.length ≤ c1_1) (hr1_2 : Kd.C k78 w A1_2 l1_2.length l1_2) (hc1_2 : l1_2.length ≤ c1_2) (hbv1 : w.heap[B1]? = some (.cells #[.int .i64 a1_0, .slice A1_1 l1_1.length c1_1, .slice A1_2 l1_2.length c1_2] 34 (0, 0))) (hnv0_1 : B0 ≠ B1) (h : impl_reached_with_impl_PairsOf_1.f k a0_0 l0_1 l0_2 a1_0 l1_1 l1_2 = some r) :
    Calls Try.prog 78 #[.func (.func 87) #[] #[.pointer (some ⟨B0, 0, none⟩), .pointer (some ⟨B1, 0, none⟩)]] w fun e w' => ∃ v0_ : Value, e = .returned (v0_) ∧ Kd.N (Kd.slice 3 (Kd.int .i64)) 39 w' w.heap.size (fun k_ => (w.heap.size ≤ k_)) v0_ r ∧ Below w.heap.size w w' := by
  have HR0_1 := Q_ hr0_1
  have HC0_1 := Q_ hc0_1
  clear hr0_1 hc0_1
  have HR0_2 := Q_ hr0_2
  have HC0_2 := Q_ hc0_2
  clear hr0_2 hc0_2
  have HR1_1 := Q_ hr1_1
  have HC1_1 := Q_ hc1_1
  clear hr1_1 hc1_1
  have HR1_2 := Q_ hr1_2
  have HC1_2 := Q_ hc1_2
  clear hr1_2 hc1_2
  have BK0 := Q_ hbv0
  clear hbv0
  have BK1 := Q_ hbv1
  clear hbv1
  have NB0_1 := Q_ hnv0_1
  have NB1_0 := Q_ (Ne.symm hnv0_1)
  clear hnv0_1
  have HB := Q_ (Below.refl w.heap.size w)
  have H : (impl_reached_with_impl_PairsOf_1.l0 k (([(([0, 0] : List Int))] : List (List Int))) 0 a0_0 l0_1 l0_2 a1_0 l1_1 l1_2) = some r := h
  clear h
  obtain ⟨y420, hy420⟩ : ∃ y_ : List Int, y_ = (([0, 0] : List Int)) := ⟨_, rfl⟩
  replace H : (impl_reached_with_impl_PairsOf_1.l0 k (([y420] : List (List Int))) 0 a0_0 l0_1 l0_2 a1_0 l1_1 l1_2) = some r := by first | (rw [hy420]; with_reducible exact H) | (have H2_ := (Option.bind_some _ _).symm.trans H; rw [hy420]; with_reducible exact H2_) | (have H2_ := (Option.bind_some _ _).symm.trans H; with_reducible exact H2_) | with_reducible exact H | (rw [hy420]; exact H) | exact H
  have Ny420 := Q_ hy420
  clear hy420
  obtain ⟨y423, hy423⟩ : ∃ y_ : List (List Int), y_ = (([y420] : List (List Int))) := ⟨_, rfl⟩
  replace H : (impl_reached_with_impl_PairsOf_1.l0 k y423 0 a0_0 l0_1 l0_2 a1_0 l1_1 l1_2) = some r := by first | (rw [hy423]; with_reducible exact H) | (have H2_ := (Option.bind_some _ _).symm.trans H; rw [hy423]; with_reducible exact H2_) | (have H2_ := (Option.bind_some _ _).symm.trans H; with_reducible exact H2_) | with_reducible exact H | (rw [hy423]; exact H) | exact H
  have Ny423 := Q_ hy423
  clear hy423
  have H' := Q_ H
  clear H
  go_enter Try.func78, Try.ntmps78
  go_wp2_with (first | ((with_reducible refine gate_dst (N := 7) rfl ?_); refine Kd.R_lit (Kd.int .i64) _ 3 ?hg (N := 7) ?hd (xs := ([0, 0] : List Int)) (inner := [.int .i64 0, .int .i64 0]) (ok := fun _ => True) (okp := fun _ => True) ?hr ?hp (fun _ hk => hk) trivial (Below.refl _ _) (Nat.le_refl _) (by simp) ?_; (case hd => rfl); (case hg => rfl); (case hr => first | (go_simp; done) | (go_simp; rfl)); (case hp => exact (Reps.one (show Kd.M (Kd.int .i64) _ _ _ 0 [.int .i64 0] from rfl) (Reps.one (show Kd.M (Kd.int .i64) _ _ _ 0 [.int .i64 0] from rfl) (Reps.none _ _)))); intro v421 w3 ho4 hb hg_ hnew_; clear hg_ hnew_; (first | rw [← Ny420.out] at ho4 | (simp only [Int.reduceToNat] at ho4; rw [← Ny420.out] at ho4)); have _ := Q_ (Kd.R_lower (Kd.R_newM (M := fun k_ => (w.heap.size ≤ k_)) ho4 (below_size (pb_ HB.out)) (fun k_ h_ => h_)) (below_size (pb_ HB.out))); have _ := Q_ (bb_ BK0.out hb); have _ := Q_ (bb_ BK1.out hb); have _ := Q_ (below_step (pb_ HB.out) hb); clear BK0 BK1 HB; rename_i HO422 BK0 BK1 HB; clear hb ho4; obtain ⟨Ao5, co5, eo5⟩ := Kd.R_slice HO422.out; subst eo5) | ((with_reducible refine gate_dst (N := 8) rfl ?_); refine Kd.N_lit (Kd.slice 3 (Kd.int .i64)) _ 39 ?hg (N' := 8) ?hd (xs := ([y420] : List (List Int))) (inner := [.slice Ao5 y420.length co5]) (ok := (fun k_ => (w.heap.size ≤ k_) ∧ k_ ≠ B0 ∧ k_ ≠ B1)) (okp := (fun k_ => (w.heap.size ≤ k_) ∧ k_ ≠ B0 ∧ k_ ≠ B1)) ?hr ?hp (fun _ hk => hk) ((show ∀ k_, w3.heap.size ≤ k_ → (fun k_ => (w.heap.size ≤ k_) ∧ k_ ≠ B0 ∧ k_ ≠ B1) k_ from fun k_ hk => ⟨(Nat.le_trans (below_size (pb_ HB.out)) hk), Kd.freshB (g := B0) (o := .cells #[.int .i64 a0_0, .slice A0_1 l0_1.length c0_1, .slice A0_2 l0_2.length c0_2] 34 (0, 0)) (pk_ BK0.out) k_ hk, Kd.freshB (g := B1) (o := .cells #[.int .i64 a1_0, .slice A1_1 l1_1.length c1_1, .slice A1_2 l1_2.length c1_2] 34 (0, 0)) (pk_ BK1.out) k_ hk⟩) _ (Nat.le_refl _)) (Below.refl _ _) (Nat.le_refl _) (by simp) ?_; (case hd => rfl); (case hg => rfl); (case hr => first | (go_simp; done) | (go_simp; rfl)); (case hp => exact (Reps.one (show Kd.FK (Kd.slice 3 (Kd.int .i64)) _ _ y420 [.slice Ao5 y420.length co5] from (Kd.FK_slice_mk (Kd.R_reads' (Kd.R_mono (ok' := (fun k_ => (w.heap.size ≤ k_) ∧ k_ ≠ B0 ∧ k_ ≠ B1)) (Kd.R_types (Kd.R_types (HO422.out) BK0.out (by decide)) BK1.out (by decide)) (fun k_ hk => ⟨hk.1.1.1, ⟨hk.1.2, hk.2⟩⟩))).2.1 (Kd.R_F (Kd.R_mono (ok' := (fun k_ => (w.heap.size ≤ k_) ∧ k_ ≠ B0 ∧ k_ ≠ B1)) (Kd.R_types (Kd.R_types (HO422.out) BK0.out (by decide)) BK1.out (by decide)) (fun k_ hk => ⟨hk.1.1.1, ⟨hk.1.2, hk.2⟩⟩))))) (Reps.none _ _))); intro v424 w6 ho7 hb hg_ hnew_; clear hg_ hnew_; (first | rw [← Ny423.out] at ho7 | (simp only [Int.reduceToNat] at ho7; rw [← Ny423.out] at ho7)); have _ := Q_ (Kd.N_lower ho7 (below_size (pb_ HB.out))); have _ := Q_ (bb_ BK0.out hb); have _ := Q_ (bb_ BK1.out hb); have _ := Q_ (below_step (pb_ HB.out) hb); clear BK0 BK1 HB HO422; rename_i HO425 BK0 BK1 HB; clear hb ho7))
  (try simp only [Act.put, List.setIfInBounds_toArray, List.set_cons_zero, List.set_cons_succ])
  go_loopg [3, 4] k (fun kq v3 v4 w' => ∃ (x3_1 : List (List Int)) (x4_1 : Int), v4 = .int .i64 x4_1 ∧ Aside0 (impl_reached_with_impl_PairsOf_1.l0 kq x3_1 x4_1 a0_0 l0_1 l0_2 a1_0 l1_1 l1_2 = some r) ∧ Aside0 (kq ≤ k) ∧ Aside0 (Kd.N (Kd.slice 3 (Kd.int .i64)) 39 w' w.heap.size (fun k_ => (w.heap.size ≤ k_) ∧ k_ ≠ B0 ∧ k_ ≠ B1) v3 x3_1) ∧ Aside0 (w'.heap[B0]? = some (.cells #[.int .i64 a0_0, (.slice A0_1 l0_1.length c0_1), (.slice A0_2 l0_2.length c0_2)] 34 (0, 0))) ∧ Aside0 (w'.heap[B1]? = some (.cells #[.int .i64 a1_0, (.slice A1_1 l1_1.length c1_1), (.slice A1_2 l1_2.length c1_2)] 34 (0, 0))) ∧ Aside0 (Below w.heap.size w w'))
  case atStart => exact ⟨(y423), (0), el_, H', ⟨Nat.le_refl _⟩, ⟨by (with_reducible repeat (first | apply Kd.N_alloc | apply Kd.N_drewN | apply Kd.N_drew)); exact HO425.out⟩, ⟨pk_ BK0.out⟩, ⟨pk_ BK1.out⟩, ⟨pb_ HB.out⟩⟩
  clear H'
  try clear c1
  try clear p2
  try clear c7
  obtain ⟨x3_1, x4_1, rfl, HA, HK1, HO_3, BK0, BK1, HB⟩ := hrel
  rcases gk with _ | k1
  · exact absurd HA.out (by simp [impl_reached_with_impl_PairsOf_1.l0])
  have H := HA.out
  clear HA
  simp only [impl_reached_with_impl_PairsOf_1.l0] at H
  by_cases c8 : x4_1 < (x3_1.length : Int)
  rotate_left
  · rw [if_neg c8] at H
    have c8b0 : decide (x4_1 < (x3_1.length : Int)) = false := decide_eq_false c8
    clear c8
    obtain rfl := Option.some.inj H
    obtain ⟨Ao9, co9, eo9⟩ := Kd.N_slice HO_3.out
    subst eo9
    go_wp2
    go_ret
    exact ⟨_, er_, by (with_reducible repeat (first | apply Kd.N_alloc | apply Kd.N_drewN | apply Kd.N_drew)); exact Kd.N_mono HO_3.out (fun _ hk => hk.1), pb_ HB.out⟩
  rw [if_pos c8] at H
  have c8b0 : decide (x4_1 < (x3_1.length : Int)) = true := decide_eq_true c8
  clear c8
  by_cases c10 : 0 ≤ x4_1
  rotate_left
  · rw [if_neg c10] at H
    exact absurd H (by simp)
  rw [if_pos c10] at H
  have c10b0 : decide (0 ≤ x4_1) = true := decide_eq_true c10
  clear c10
  by_cases c11 : 0 < ((rd_L9 x3_1 x4_1).length : Int)
  rotate_left
  · rw [if_neg c11] at H
    exact absurd H (by simp)
  rw [if_pos c11] at H
  have c11b0 : decide (0 < ((rd_L9 x3_1 x4_1).length : Int)) = true := decide_eq_true c11
  have c11b1 : decide (0 < (rd_L9 x3_1 x4_1).length) = true := decide_eq_true (by omega)
  clear c11
  by_cases c12 : 1 < ((rd_L9 x3_1 x4_1).length : Int)
  rotate_left
  · rw [if_neg c12] at H
    exact absurd H (by simp)
  rw [if_pos c12] at H
  have c12b0 : decide (1 < ((rd_L9 x3_1 x4_1).length : Int)) = true := decide_eq_true c12
  have c12b1 : decide (1 < (rd_L9 x3_1 x4_1).length) = true := decide_eq_true (by omega)
  clear c12
  replace H := Option.bind_eq_some_iff.mp H
  obtain ⟨t430, A130, H⟩ := H
  (try dsimp only at H)
  have A13 := Q_ A130
  clear A130
  have H' := Q_ H
  clear H
  obtain ⟨Ao14, co14, eo14⟩ := Kd.N_slice HO_3.out
  subst eo14
  try go_wp2
  have _ := Q_ (Kd.N_drew HO_3.out)
  have _ := Q_ (blk_drew BK0.out)
  have _ := Q_ (blk_drew BK1.out)
  have _ := Q_ (below_drew1 HB.out)
  clear HO_3 BK0 BK1 HB
  rename_i HO_3 BK0 BK1 HB
  have p426 : 0 ≤ (x4_1 : Int) := dt_
  have q426 : x4_1 < (x3_1.length : Int) := dt_
  obtain ⟨ad426, A426_0, c426_0, e426, hx426_0, hl426_0, hi426_0⟩ := at_L9 (Kd.N_reads' HO_3.out).2.2 x4_1 p426 q426
  cases e426
  obtain ⟨ce426, hce426, hMe426, hcc426⟩ := Kd.N_get HO_3.out [] x4_1 p426 (by first | exact q426 | exact dt_ | (have e_ := (Kd.N_reads' HO_3.out).1; omega))
  obtain ⟨ua426_0, uc426_0, rfl, ul426_0, ge426_0⟩ := Kd.FK_slice_open hMe426
  have hv426_0 := hcc426 0 _ rfl
  rw [Nat.add_zero, show ((Kd.slice 3 (Kd.int .i64))).sz = 1 from rfl, Nat.mul_one] at hv426_0
  replace hv426_0 := Option.some.inj (hv426_0.symm.trans hx426_0)
  injection hv426_0 with hva_ hvn_ hvc_
  rw [hva_] at ge426_0
  rw [hvc_] at ul426_0
  have HL426_0 := Q_ (show Kd.V (Kd.int .i64) 3 _ w.heap.size _ _ (rd_L9 x3_1 x4_1) from Kd.V_mk ul426_0 ge426_0)
  clear hva_ hvn_ hvc_ ge426_0 ul426_0
  clear hcc426 hce426
  have HR426_0 := Q_ hi426_0
  have HC426_0 := Q_ hl426_0
  clear hi426_0 hl426_0
  replace p426 := eq_true p426
  replace q426 := eq_true q426
  have p427 : 0 ≤ (0 : Int) := (by omega)
  have q427 : 0 < ((rd_L9 x3_1 x4_1).length : Int) := dt_
  obtain ⟨ad427, e427, hx427_0⟩ := Kd.at_int (by repeat (first | (with_reducible exact HR426_0.out) | (with_reducible refine Kd.C_alloc ?_ _) | (with_reducible refine Kd.C_drewN ?_ _) | (with_reducible refine Kd.C_drew ?_) | exact HR426_0.out)) 0 p427 q427
  cases e427
  have qi427 : (0 < (rd_L9 x3_1 x4_1).length) = True := eq_true (by omega)
  (try rw [show ((0 : Int)).toNat = 0 from rfl] at hx427_0)
  (try rw [Addr.add_zero'] at hx427_0)
  replace p427 := eq_true p427
  replace q427 := eq_true q427
  have p428 : 0 ≤ (x4_1 : Int) := dt_
  have q428 : x4_1 < (x3_1.length : Int) := dt_
  obtain ⟨ad428, A428_0, c428_0, e428, hx428_0, hl428_0, hi428_0⟩ := at_L9 (Kd.N_reads' HO_3.out).2.2 x4_1 p428 q428
  obtain rfl : ad426 = ad428 := (by injection e428)
  obtain ⟨ce428, hce428, hMe428, hcc428⟩ := Kd.N_get HO_3.out [] x4_1 p428 (by first | exact q428 | exact dt_ | (have e_ := (Kd.N_reads' HO_3.out).1; omega))
  obtain ⟨ua428_0, uc428_0, rfl, ul428_0, ge428_0⟩ := Kd.FK_slice_open hMe428
  have hv428_0 := hcc428 0 _ rfl
  rw [Nat.add_zero, show ((Kd.slice 3 (Kd.int .i64))).sz = 1 from rfl, Nat.mul_one] at hv428_0
  replace hv428_0 := Option.some.inj (hv428_0.symm.trans hx428_0)
  injection hv428_0 with hva_ hvn_ hvc_
  rw [hva_] at ge428_0
  rw [hvc_] at ul428_0
  have HL428_0 := Q_ (show Kd.V (Kd.int .i64) 3 _ w.heap.size _ _ (rd_L9 x3_1 x4_1) from Kd.V_mk ul428_0 ge428_0)
  clear hva_ hvn_ hvc_ ge428_0 ul428_0
  clear hcc428 hce428
  have HR428_0 := Q_ hi428_0
  have HC428_0 := Q_ hl428_0
  clear hi428_0 hl428_0
  replace p428 := eq_true p428
  replace q428 := eq_true q428
  have ea_ := Option.some.inj (hx426_0.symm.trans hx428_0)
  injection ea_ with ea_ en_ ec_
  subst ea_
  subst ec_
  clear en_
  have p429 : 0 ≤ (1 : Int) := (by omega)
  have q429 : 1 < ((rd_L9 x3_1 x4_1).length : Int) := dt_
  obtain ⟨ad429, e429, hx429_0⟩ := Kd.at_int (by repeat (first | (with_reducible exact HR428_0.out) | (with_reducible refine Kd.C_alloc ?_ _) | (with_reducible refine Kd.C_drewN ?_ _) | (with_reducible refine Kd.C_drew ?_) | exact HR428_0.out)) 1 p429 q429
  cases e429
  (try simp only [show (1 : Int).toNat = 1 from rfl, Nat.reduceMul, Nat.reduceEqDiff, Go.Addr.add, ↓reduceIte] at hx429_0)
  have qi429 : (1 < (rd_L9 x3_1 x4_1).length) = True := eq_true (by omega)
  (try rw [show ((1 : Int)).toNat = 1 from rfl] at hx429_0)
  replace p429 := eq_true p429
  replace q429 := eq_true q429
  refine start_ (n := 16) (S := fun w' => w'.cell? (ad426.add (x4_1).toNat) = some (.slice (some ad427) (rd_L9 x3_1 x4_1).length c426_0) ∧ w'.cell? ad427 = some (.int .i64 (rd (rd_L9 x3_1 x4_1) 0)) ∧ w'.cell? (ad426.add (x4_1).toNat) = some (.slice (some ad427) (rd_L9 x3_1 x4_1).length c426_0) ∧ w'.cell? ⟨ad427.block, ad427.off + 1, none⟩ = some (.int .i64 (rd (rd_L9 x3_1 x4_1) 1))) (ds := []) (tf_ 0 16) (by kernel_rfl) rfl rfl ⟨hx426_0, hx427_0, hx428_0, hx429_0⟩ (fun hHeld => ?_); refine with_tabW impl_reached_with_impl_PairsOf_1.tab5 impl_reached_with_impl_PairsOf_1.bits5 (fun HT_ HW_ => ?_)
  generalize wr.drew = w15 at HO_3 BK0 BK1 HB HL426_0 HL428_0 HR426_0 HR428_0 hx426_0 hx427_0 hx428_0 hx429_0 hHeld ⊢
  refine pu_ 0 (some 15) (tf_ 1 16) HT_ ?_
  refine pu_ 1 (some 16) (tf_ 2 16) HT_ ?_
  refine pu_ 2 (some 17) (tf_ 3 16) HT_ ?_
  refine pu_ 3 (some 18) (tf_ 4 16) HT_ ?_
  refine pu_ 7 (some 22) (tm_ 16 143) HT_ ?_
  refine pu_ 8 (some 23) (tm_ 16 399) HT_ ?_
  refine pu_ 9 (some 24) (tm_ 16 911) HT_ ?_
  refine pu_ 15 (some 30) (tm_ 16 33679) HT_ ?_
  refine ta_ 4 (some 19) (tm_ 16 33695) HT_ HW_ hHeld ?_
  refine pu_ 5 (some 20) (tm_ 16 33727) HT_ ?_
  refine ta_ 6 (some 21) (tm_ 16 33791) HT_ HW_ hHeld ?_
  refine ta_ 10 (some 25) (tm_ 16 34815) HT_ HW_ hHeld ?_
  refine pu_ 11 (some 26) (tm_ 16 36863) HT_ ?_
  refine ta_ 12 (some 27) (tm_ 16 40959) HT_ HW_ hHeld ?_
  refine on_ 13 (some 28) (tm_ 16 49151) HT_ (fun K hK => ?_)
  refine gv_ Try.func87 (by kernel_rfl) rfl #[.int .i64 (rd (rd_L9 x3_1 x4_1) 0), .int .i64 (rd (rd_L9 x3_1 x4_1) 1), .pointer (some ⟨B0, 0, none⟩), .pointer (some ⟨B1, 0, none⟩)] (by rfl) rfl rfl rfl (by first | rfl | (simp only [List.map_toArray, List.map_cons, List.map_nil, List.append_toArray, List.cons_append, List.nil_append]; first | done | rfl)) ?_
  with_reducible refine (impl_PairsOf_1.calls k1 (rd (rd_L9 x3_1 x4_1) 0) (rd (rd_L9 x3_1 x4_1) 1) _ a0_0 A0_1 c0_1 l0_1 A0_2 c0_2 l0_2 _ a1_0 A1_1 c1_1 l1_1 A1_2 c1_2 l1_2 t430 _ ?side1 ?side2 ?side3 ?side4 ?side5 ?side6 ?side7 ?side8 ?side9 ?side10 ?side11 A13.out).mono ?_
  (case side1 => exact cb_ HR0_1 HB)
  (case side2 => exact HC0_1.out)
  (case side3 => exact cb_ HR0_2 HB)
  (case side4 => exact HC0_2.out)
  (case side5 => exact pk_ BK0.out)
  (case side6 => exact cb_ HR1_1 HB)
  (case side7 => exact HC1_1.out)
  (case side8 => exact cb_ HR1_2 HB)
  (case side9 => exact HC1_2.out)
  (case side10 => exact pk_ BK1.out)
  (case side11 => exact NB0_1.out)
  rintro e w16 ⟨v431, rfl, ho0, hb⟩
  have HS0_ := (hb.cell (World.block_lt_of_cell? _ _ (hHeld.1))).trans (hHeld.1)
  have HS1_ := (hb.cell (World.block_lt_of_cell? _ _ (hHeld.2.1))).trans (hHeld.2.1)
  have HS2_ := (hb.cell (World.block_lt_of_cell? _ _ (hHeld.2.2.1))).trans (hHeld.2.2.1)
  have HS3_ := (hb.cell (World.block_lt_of_cell? _ _ (hHeld.2.2.2))).trans (hHeld.2.2.2)
  refine ⟨_, rfl, ?_⟩
  have _ := Q_ (Kd.N_elder' (by (with_reducible repeat (first | apply Kd.N_alloc | apply Kd.N_drewN | apply Kd.N_drew)); exact HO_3.out) (Kd.S_base ho0) hb)
  have _ := Q_ (Kd.V_elder' (by (with_reducible repeat (first | apply Kd.V_alloc | apply Kd.V_drewN | apply Kd.V_drew)); exact HL426_0.out) (Kd.S_base ho0) hb)
  have _ := Q_ (Kd.V_elder' (by (with_reducible repeat (first | apply Kd.V_alloc | apply Kd.V_drewN | apply Kd.V_drew)); exact HL428_0.out) (Kd.S_base ho0) hb)
  have _ := Q_ (Kd.N_lower (Kd.N_mono (ok' := fun k_ => (w.heap.size ≤ k_) ∧ some k_ ≠ (.slice (some ad426) x3_1.length co14 : Value).ownBlock ∧ k_ ≠ B0 ∧ k_ ≠ B1) (Kd.S_N (Kd.S_bound ho0)) (fun k_ hk_ => ⟨(Nat.le_trans (below_size (pb_ HB.out)) hk_.2.1), (Kd.fresh' (Kd.N_lt (by (with_reducible repeat (first | apply Kd.N_alloc | apply Kd.N_drewN | apply Kd.N_drew)); exact HO_3.out)) k_ hk_.2.1), (Kd.freshB (g := B0) (o := .cells #[.int .i64 a0_0, .slice A0_1 l0_1.length c0_1, .slice A0_2 l0_2.length c0_2] 34 (0, 0)) (pk_ BK0.out) k_ hk_.2.1), (Kd.freshB (g := B1) (o := .cells #[.int .i64 a1_0, .slice A1_1 l1_1.length c1_1, .slice A1_2 l1_2.length c1_2] 34 (0, 0)) (pk_ BK1.out) k_ hk_.2.1)⟩)) (below_size (pb_ HB.out)))
  have _ := Q_ (bb_ BK0.out hb)
  have _ := Q_ (bb_ BK1.out hb)
  have _ := Q_ (Kd.C_below (by repeat (first | (with_reducible exact HR426_0.out) | (with_reducible refine Kd.C_alloc ?_ _) | (with_reducible refine Kd.C_drewN ?_ _) | (with_reducible refine Kd.C_drew ?_) | exact HR426_0.out)) hb)
  have _ := Q_ (Kd.C_below (by repeat (first | (with_reducible exact HR428_0.out) | (with_reducible refine Kd.C_alloc ?_ _) | (with_reducible refine Kd.C_drewN ?_ _) | (with_reducible refine Kd.C_drew ?_) | exact HR428_0.out)) hb)
  have _ := Q_ (below_step (pb_ HB.out) hb)
  clear HO_3 HL426_0 HL428_0 BK0 BK1 HR426_0 HR428_0 HB
  rename_i HO_3 HL426_0 HL428_0 HO432 BK0 BK1 HR426_0 HR428_0 HB
  (try clear hb)
  (try clear hb2)
  (try clear hk)
  (try clear hi)
  (try clear ho0)
  obtain ⟨Ao17, co17, eo17⟩ := Kd.N_slice HO432.out
  (first | subst eo17 | (injection eo17 with f1_ f2_ f3_; have f4_ := f1_.symm; have f5_ := f3_.symm; clear f1_ f2_ f3_; subst f4_; subst f5_))
  refine hK.out _ _ ⟨HS0_, HS1_, HS2_, HS3_⟩ (fun hHeld => ?_)
  clear hK K
  refine no_ (some 28) ?_
  refine pu_ 14 (some 29) (tf_ 16 16) HT_ ?_
  refine done_ (done_of HT_.out (by kernel_rfl)) ?_
  try go_wp2
  go_loopg [3, 30] k1 (fun kq v3 v30 w' => ∃ (x3_2 : List (List Int)) (x30_2 : Int), v30 = .int .i64 x30_2 ∧ Aside0 (impl_reached_with_impl_PairsOf_1.l1 kq x3_2 x4_1 t430 (t430.length : Int) x30_2 a0_0 l0_1 l0_2 a1_0 l1_1 l1_2 = some r) ∧ Aside0 (kq ≤ k1) ∧ Aside0 (Kd.N (Kd.slice 3 (Kd.int .i64)) 39 w' w.heap.size (fun k_ => (w.heap.size ≤ k_) ∧ some k_ ≠ ((.slice Ao17 t430.length co17) : Value).ownBlock ∧ k_ ≠ B0 ∧ k_ ≠ B1) v3 x3_2) ∧ Aside0 (Kd.N (Kd.slice 3 (Kd.int .i64)) 39 w' w.heap.size (fun k_ => (w.heap.size ≤ k_) ∧ some k_ ≠ (v3 : Value).ownBlock ∧ k_ ≠ B0 ∧ k_ ≠ B1) (.slice Ao17 t430.length co17) t430) ∧ Aside0 (w'.heap[B0]? = some (.cells #[.int .i64 a0_0, (.slice A0_1 l0_1.length c0_1), (.slice A0_2 l0_2.length c0_2)] 34 (0, 0))) ∧ Aside0 (w'.heap[B1]? = some (.cells #[.int .i64 a1_0, (.slice A1_1 l1_1.length c1_1), (.slice A1_2 l1_2.length c1_2)] 34 (0, 0))) ∧ Aside0 (Below w.heap.size w w'))
  case atStart => exact ⟨(x3_1), (0), el_, H', ⟨Nat.le_refl _⟩, ⟨by (with_reducible repeat (first | apply Kd.N_alloc | apply Kd.N_drewN | apply Kd.N_drew)); exact Kd.N_mono HO_3.out (fun _ hk => ⟨hk.1.1, ⟨hk.2, ⟨hk.1.2.1, hk.1.2.2⟩⟩⟩)⟩, ⟨by (with_reducible repeat (first | apply Kd.N_alloc | apply Kd.N_drewN | apply Kd.N_drew)); exact HO432.out⟩, ⟨pk_ BK0.out⟩, ⟨pk_ BK1.out⟩, ⟨pb_ HB.out⟩⟩
  clear H'
  try clear c1
  try clear p2
  try clear c4
  try clear p4
  try clear q4
  try clear hx4
  try clear qi4
  try clear c7
  try clear c8
  try clear c8b0
  try clear c10
  try clear c10b0
  try clear c11
  try clear c11b0
  try clear c11b1
  try clear c12
  try clear c12b0
  try clear c12b1
  try clear hx426_0
  try clear hx427_0
  try clear hx428_0
  try clear hx429_0
  try clear p2
  try clear p426
  try clear p427
  try clear p428
  try clear p429
  try clear q426
  try clear q427
  try clear q428
  try clear q429
  obtain ⟨x3_2, x30_2, rfl, HA, HK2, HO_3, HO_28, BK0, BK1, HB⟩ := hrel
  rcases gk with _ | k2
  · exact absurd HA.out (by simp [impl_reached_with_impl_PairsOf_1.l1])
  have H := HA.out
  clear HA
  simp only [impl_reached_with_impl_PairsOf_1.l1] at H
  by_cases c18 : x30_2 < (t430.length : Int)
  rotate_left
  · rw [if_neg c18] at H
    have c18b0 : decide (x30_2 < (t430.length : Int)) = false := decide_eq_false c18
    clear c18
    have H' := Q_ H
    clear H
    go_wp2
    go_roundg k2
    case measure => have := HK1.out; have := HK2.out; omega
    case rel => exact ⟨(x3_2), (wrap64 (x4_1 + 1)), el_, H', ⟨by have := HK1.out; have := HK2.out; omega⟩, ⟨by (with_reducible repeat (first | apply Kd.N_alloc | apply Kd.N_drewN | apply Kd.N_drew)); exact Kd.N_mono HO_3.out (fun _ hk => ⟨hk.1, ⟨hk.2.2.1, hk.2.2.2⟩⟩)⟩, ⟨pk_ BK0.out⟩, ⟨pk_ BK1.out⟩, ⟨pb_ HB.out⟩⟩
  rw [if_pos c18] at H
  have c18b0 : decide (x30_2 < (t430.length : Int)) = true := decide_eq_true c18
  clear c18
  by_cases c19 : 0 ≤ x30_2
  rotate_left
  · rw [if_neg c19] at H
    exact absurd H (by simp)
  rw [if_pos c19] at H
  have c19b0 : decide (0 ≤ x30_2) = true := decide_eq_true c19
  clear c19
  by_cases c20 : x30_2 < (t430.length : Int)
  rotate_left
  · rw [if_neg c20] at H
    exact absurd H (by simp)
  rw [if_pos c20] at H
  have c20b0 : decide (x30_2 < (t430.length : Int)) = true := decide_eq_true c20
  clear c20
  have HS_ := Q_ H
  clear H
  have p433 : 0 ≤ (x30_2 : Int) := dt_
  have q433 : x30_2 < (t430.length : Int) := dt_
  obtain ⟨ad433, A433_0, c433_0, e433, hx433_0, hl433_0, hi433_0⟩ := at_L9 (Kd.N_reads' HO_28.out).2.2 x30_2 p433 q433
  cases e433
  obtain ⟨ce433, hce433, hMe433, hcc433⟩ := Kd.N_get HO_28.out [] x30_2 p433 (by first | exact q433 | exact dt_ | (have e_ := (Kd.N_reads' HO_28.out).1; omega))
  obtain ⟨ua433_0, uc433_0, rfl, ul433_0, ge433_0⟩ := Kd.FK_slice_open hMe433
  have hv433_0 := hcc433 0 _ rfl
  rw [Nat.add_zero, show ((Kd.slice 3 (Kd.int .i64))).sz = 1 from rfl, Nat.mul_one] at hv433_0
  replace hv433_0 := Option.some.inj (hv433_0.symm.trans hx433_0)
  injection hv433_0 with hva_ hvn_ hvc_
  rw [hva_] at ge433_0
  rw [hvc_] at ul433_0
  have HL433_0 := Q_ (show Kd.V (Kd.int .i64) 3 _ w.heap.size _ _ (rd_L9 t430 x30_2) from Kd.V_mk ul433_0 ge433_0)
  clear hva_ hvn_ hvc_ ge433_0 ul433_0
  clear hcc433 hce433
  have HR433_0 := Q_ hi433_0
  have HC433_0 := Q_ hl433_0
  clear hi433_0 hl433_0
  replace p433 := eq_true p433
  replace q433 := eq_true q433
  go_upto_region 8 with (first | ((with_reducible refine gate_dst (N := 6) rfl ?_); refine box_event ?hg (N := 6) ?hd (cs := #[.slice none 0 0]) (t := 39) ?hr ?_; (case hd => rfl); (case hg => rfl); (case hr => first | (go_simp; done) | (go_simp; rfl)); intro gb434 hg w21 hbox hb; have n0_ := Q_ (Kd.N_below (Kd.N_elderB (by (with_reducible repeat (first | apply Kd.N_alloc | apply Kd.N_drewN | apply Kd.N_drew)); exact HO_3.out) gb434 (Nat.le_of_eq hg.symm)) hb); have n1_ := Q_ (Kd.N_below (Kd.N_elderB (by (with_reducible repeat (first | apply Kd.N_alloc | apply Kd.N_drewN | apply Kd.N_drew)); exact HO_28.out) gb434 (Nat.le_of_eq hg.symm)) hb); have n2_ := Q_ (Kd.V_below (Kd.V_elderB (by (with_reducible repeat (first | apply Kd.V_alloc | apply Kd.V_drewN | apply Kd.V_drew)); exact HL433_0.out) gb434 (Nat.le_of_eq hg.symm)) hb); have n3_ := Q_ (bb_ BK0.out hb); have n4_ := Q_ (bb_ BK1.out hb); have n5_ := Q_ (Kd.C_below (by repeat (first | (with_reducible exact HR433_0.out) | (with_reducible refine Kd.C_alloc ?_ _) | (with_reducible refine Kd.C_drewN ?_ _) | (with_reducible refine Kd.C_drew ?_) | exact HR433_0.out)) hb); have n6_ := Q_ (below_step (pb_ HB.out) hb); have n7_ := Q_ (hbox); have n8_ := Q_ ((by rw [hg]; exact (below_size (pb_ HB.out)) : w.heap.size ≤ gb434)); have n9_ := n8_; have n10_ := Q_ ((by rw [hg]; exact Nat.ne_of_lt (blk_lt (pk_ BK0.out)) : B0 ≠ gb434)); have n11_ := Q_ ((by rw [hg]; exact Nat.ne_of_gt (blk_lt (pk_ BK0.out)) : gb434 ≠ B0)); have n12_ := Q_ ((by rw [hg]; exact Nat.ne_of_lt (blk_lt (pk_ BK1.out)) : B1 ≠ gb434)); have n13_ := Q_ ((by rw [hg]; exact Nat.ne_of_gt (blk_lt (pk_ BK1.out)) : gb434 ≠ B1)); clear HO_3; clear HO_28; clear HL433_0; clear BK0; clear BK1; clear HR433_0; clear HB; have HO_3 := n0_; have HO_28 := n1_; have HL433_0 := n2_; have BK0 := n3_; have BK1 := n4_; have HR433_0 := n5_; have HB := n6_; have BK434 := n7_; have GW434 := n8_; have GE434 := n9_; have NB0_434 := n10_; have NB434_0 := n11_; have NB1_434 := n12_; have NB434_1 := n13_; clear n0_ n1_ n2_ n3_ n4_ n5_ n6_ n7_ n8_ n9_ n10_ n11_ n12_ n13_; clear hb hbox hg; have hnb22 := NB434_0.out; have hnc22 := NB0_434.out; have hnb23 := NB434_1.out; have hnc23 := NB1_434.out; have hcz24_0 : w21.cell? ⟨gb434, 0, none⟩ = some (.slice none 0 0) := (blk_cell BK434.out 0).trans rfl; have hfz24_0 := blk_frozen BK434.out 0))
  (try simp only [Act.put, List.setIfInBounds_toArray, List.set_cons_zero, List.set_cons_succ])
  have H := HS_.out
  clear HS_
  replace H := Option.bind_eq_some_iff.mp H
  obtain ⟨t435, A250, H⟩ := H
  (try dsimp only at H)
  have A25 := Q_ A250
  clear A250
  have HS_ := Q_ H
  clear H
  obtain ⟨Ao26, co26, eo26⟩ := Kd.N_slice HO_3.out
  subst eo26
  go_upto_if 37 with (first | (go_at_call 91; (with_reducible refine (slices_ContainsFunc_int_int_with_impl_reached_1.calls k2 _ _ x3_2 _ A433_0 c433_0 (rd_L9 t430 x30_2) t435 _ ?side1 ?side2 ?side3 ?side4 ?side5 A25.out).mono ?_); (case side1 => refine (Kd.N_reads' (e := 39) (base := w.heap.size) (ok := fun k_ => (((w.heap.size ≤ k_) ∧ (some k_ ≠ (.slice (some ad433) t430.length co17 : Value).ownBlock ∧ (k_ ≠ B0 ∧ k_ ≠ B1))) ∧ k_ ≠ gb434)) (n := x3_2.length) (c := co26) ?_).2.2; exact (by (with_reducible repeat (first | apply Kd.N_alloc | apply Kd.N_drewN | apply Kd.N_drew)); exact (Kd.N_mono (Kd.N_far (p := ⟨gb434, 0, none⟩) (Kd.N_mono HO_3.out (fun k_ hk => (⟨hk, hk.2⟩ : _ ∧ k_ ≠ gb434))) (fun _ hk => hk.2) (.slice A433_0 (rd_L9 t430 x30_2).length c433_0)) (fun _ h_ => h_.1)))); (case side2 => exact (Kd.N_reads' HO_3.out).2.1); (case side3 => repeat (first | exact ((Kd.V_reads' (by (with_reducible repeat (first | apply Kd.V_alloc | apply Kd.V_drewN | apply Kd.V_drew)); exact (Kd.V_mono (Kd.V_far (p := ⟨gb434, 0, none⟩) (Kd.V_mono HL433_0.out (fun k_ hk => (⟨hk, hk.2⟩ : _ ∧ k_ ≠ gb434))) (fun _ hk => hk.2) (.slice A433_0 (rd_L9 t430 x30_2).length c433_0)) (fun _ h_ => h_.1)))).2.2) | (with_reducible refine Kd.C_alloc ?_ _) | (with_reducible refine Kd.C_drewN ?_ _) | (with_reducible refine Kd.C_drew ?_))); (case side4 => exact HC433_0.out); (case side5 => (with_reducible repeat (first | refine blk_drewN ?_ _ | refine blk_drew ?_ | refine blk_alloc ?_ _)); refine blk_put (cs := #[.slice none 0 0]) ?_ 0 _ rfl; exact pk_ BK434.out); rintro e w27 ⟨rfl, hb⟩; have n0_ := Q_ (Kd.N_below (by (with_reducible repeat (first | apply Kd.N_alloc | apply Kd.N_drewN | apply Kd.N_drew)); exact (Kd.N_mono (Kd.N_far (p := ⟨gb434, 0, none⟩) (Kd.N_mono HO_3.out (fun k_ hk => (⟨hk, hk.2⟩ : _ ∧ k_ ≠ gb434))) (fun _ hk => hk.2) (.slice A433_0 (rd_L9 t430 x30_2).length c433_0)) (fun _ h_ => h_.1))) hb); have n1_ := Q_ (Kd.N_below (by (with_reducible repeat (first | apply Kd.N_alloc | apply Kd.N_drewN | apply Kd.N_drew)); exact (Kd.N_mono (Kd.N_far (p := ⟨gb434, 0, none⟩) (Kd.N_mono HO_28.out (fun k_ hk => (⟨hk, hk.2⟩ : _ ∧ k_ ≠ gb434))) (fun _ hk => hk.2) (.slice A433_0 (rd_L9 t430 x30_2).length c433_0)) (fun _ h_ => h_.1))) hb); have n2_ := Q_ (Kd.V_below (by (with_reducible repeat (first | apply Kd.V_alloc | apply Kd.V_drewN | apply Kd.V_drew)); exact (Kd.V_mono (Kd.V_far (p := ⟨gb434, 0, none⟩) (Kd.V_mono HL433_0.out (fun k_ hk => (⟨hk, hk.2⟩ : _ ∧ k_ ≠ gb434))) (fun _ hk => hk.2) (.slice A433_0 (rd_L9 t430 x30_2).length c433_0)) (fun _ h_ => h_.1))) hb); have n3_ := Q_ (blk_below (g := B0) (o := .cells #[.int .i64 a0_0, .slice A0_1 l0_1.length c0_1, .slice A0_2 l0_2.length c0_2] 34 (0, 0)) (pp_ BK0.out) hb); have n4_ := Q_ (blk_below (g := B1) (o := .cells #[.int .i64 a1_0, .slice A1_1 l1_1.length c1_1, .slice A1_2 l1_2.length c1_2] 34 (0, 0)) (pp_ BK1.out) hb); have n5_ := Q_ (Kd.C_below ((Kd.V_reads' (by (with_reducible repeat (first | apply Kd.V_alloc | apply Kd.V_drewN | apply Kd.V_drew)); exact (Kd.V_mono (Kd.V_far (p := ⟨gb434, 0, none⟩) (Kd.V_mono HL433_0.out (fun k_ hk => (⟨hk, hk.2⟩ : _ ∧ k_ ≠ gb434))) (fun _ hk => hk.2) (.slice A433_0 (rd_L9 t430 x30_2).length c433_0)) (fun _ h_ => h_.1)))).2.2) hb); have n6_ := Q_ (blk_below (g := gb434) (o := .cells #[.slice A433_0 (rd_L9 t430 x30_2).length c433_0] 39 (0, 0)) (pp_ BK434.out) hb); have n7_ := Q_ (below_step (pb1_ HB.out GE434.out) hb); clear HO_3; clear HO_28; clear HL433_0; clear BK0; clear BK1; clear HR433_0; clear BK434; clear HB; have HO_3 := n0_; have HO_28 := n1_; have HL433_0 := n2_; have BK0 := n3_; have BK1 := n4_; have HR433_0 := n5_; have BK434 := n6_; have HB := n7_; clear n0_ n1_ n2_ n3_ n4_ n5_ n6_ n7_; (try clear hb); (try clear hb2); (try clear hk); (try clear hi)))
  (try simp only [Act.put, List.setIfInBounds_toArray, List.set_cons_zero, List.set_cons_succ])
  have H := HS_.out
  clear HS_
  by_cases c28 : t435 = true
  · subst c28
    rw [if_pos rfl] at H
    have H' := Q_ H
    clear H
    go_wp2
    go_roundg k2
    case measure => have := HK1.out; have := HK2.out; omega
    case rel => exact ⟨(x3_2), (wrap64 (x30_2 + 1)), el_, H', ⟨by have := HK1.out; have := HK2.out; omega⟩, ⟨by (with_reducible repeat (first | apply Kd.N_alloc | apply Kd.N_drewN | apply Kd.N_drew)); exact Kd.N_mono HO_3.out (fun _ hk => ⟨hk.1.1, ⟨hk.1.2.1, ⟨hk.1.2.2.1, hk.1.2.2.2⟩⟩⟩)⟩, ⟨by (with_reducible repeat (first | apply Kd.N_alloc | apply Kd.N_drewN | apply Kd.N_drew)); exact Kd.N_mono HO_28.out (fun _ hk => ⟨hk.1.1, ⟨hk.1.2.1, ⟨hk.1.2.2.1, hk.1.2.2.2⟩⟩⟩)⟩, ⟨pk_ BK0.out⟩, ⟨pk_ BK1.out⟩, ⟨pb1_ HB.out GE434.out⟩⟩
  replace c28 := Bool.eq_false_iff.mpr c28
  subst c28
  rw [if_neg (show ¬ (false = true) by decide)] at H
  by_cases c29 : x3_2.length < 5864062014805
  rotate_left
  · rw [if_neg c29] at H
    exact absurd H (by simp)
  rw [if_pos c29] at H
  have LMc29 := Q_ c29
  clear c29
  obtain ⟨y436, hy436⟩ : ∃ y_ : List (List Int), y_ = (x3_2 ++ [rd_L9 t430 x30_2]) := ⟨_, rfl⟩
  replace H : (impl_reached_with_impl_PairsOf_1.l1 k2 y436 x4_1 t430 (t430.length : Int) (wrap64 (x30_2 + 1)) a0_0 l0_1 l0_2 a1_0 l1_1 l1_2) = some r := by first | (rw [hy436]; with_reducible exact H) | (have H2_ := (Option.bind_some _ _).symm.trans H; rw [hy436]; with_reducible exact H2_) | (have H2_ := (Option.bind_some _ _).symm.trans H; with_reducible exact H2_) | with_reducible exact H | (rw [hy436]; exact H) | exact H
  have Ny436 := Q_ hy436
  clear hy436
  have H' := Q_ H
  clear H
  have hnb30 := NB434_0.out
  have hnc30 := NB0_434.out
  have hnb31 := NB434_1.out
  have hnc31 := NB1_434.out
  have hcz32_0 : w27.cell? ⟨gb434, 0, none⟩ = some (.slice A433_0 (rd_L9 t430 x30_2).length c433_0) := (blk_cell BK434.out 0).trans rfl
  have hfz32_0 := blk_frozen BK434.out 0
  go_wp2_with (first | ((with_reducible refine gate_builtin (b := .append) (xs := #[.tmp 38, .tmp 40]) rfl ?_); at_builtin; refine Kd.N_append (Kd.slice 3 (Kd.int .i64)) (w0 := w) w.heap.size rfl (.tmp 38) (.tmp 40) 83 39 (.slice none 0 0) 24 rfl Try.underlying83 info39 rfl (by decide) (by omega) (.slice Ao26 x3_2.length co26) x3_2 (rd_L9 t430 x30_2) [.slice A433_0 (rd_L9 t430 x30_2).length c433_0] (fun k_ => (w.heap.size ≤ k_) ∧ some k_ ≠ (.slice (some ad433) t430.length co17 : Value).ownBlock ∧ k_ ≠ B0 ∧ k_ ≠ B1 ∧ k_ ≠ gb434) (fun k_ => ((fun k_ => (w.heap.size ≤ k_) ∧ some k_ ≠ (.slice (some ad433) t430.length co17 : Value).ownBlock ∧ k_ ≠ B0 ∧ k_ ≠ B1 ∧ k_ ≠ gb434)) k_ ∧ some k_ ≠ (.slice Ao26 x3_2.length co26 : Value).ownBlock) rfl rfl ?aP (fun _ hk => hk) ?aF ?aO ?aB ?aS ?aL ?_; (case aP => exact (Kd.FK_slice_mk (Kd.V_reads' (Kd.V_mono (ok' := (fun k_ => ((fun k_ => (w.heap.size ≤ k_) ∧ some k_ ≠ (.slice (some ad433) t430.length co17 : Value).ownBlock ∧ k_ ≠ B0 ∧ k_ ≠ B1 ∧ k_ ≠ gb434)) k_ ∧ some k_ ≠ (.slice Ao26 x3_2.length co26 : Value).ownBlock)) (HL433_0.out) (fun k_ hk => ⟨⟨hk.1.1.1, ⟨hk.1.2, ⟨hk.1.1.2.2.1, ⟨hk.1.1.2.2.2, hk.2⟩⟩⟩⟩, hk.1.1.2.1⟩))).2.1 (Kd.V_F (Kd.V_mono (ok' := (fun k_ => ((fun k_ => (w.heap.size ≤ k_) ∧ some k_ ≠ (.slice (some ad433) t430.length co17 : Value).ownBlock ∧ k_ ≠ B0 ∧ k_ ≠ B1 ∧ k_ ≠ gb434)) k_ ∧ some k_ ≠ (.slice Ao26 x3_2.length co26 : Value).ownBlock)) (HL433_0.out) (fun k_ hk => ⟨⟨hk.1.1.1, ⟨hk.1.2, ⟨hk.1.1.2.2.1, ⟨hk.1.1.2.2.2, hk.2⟩⟩⟩⟩, hk.1.1.2.1⟩))))); (case aB => exact (pb1_ HB.out GE434.out)); (case aF => exact (fun k_ hk => ⟨(Nat.le_trans (below_size (pb1_ HB.out GE434.out)) hk), Kd.fresh' (Kd.N_lt (by (with_reducible repeat (first | apply Kd.N_alloc | apply Kd.N_drewN | apply Kd.N_drew)); exact HO_28.out)) k_ hk, Kd.freshB (g := B0) (o := .cells #[.int .i64 a0_0, .slice A0_1 l0_1.length c0_1, .slice A0_2 l0_2.length c0_2] 34 (0, 0)) (pk_ BK0.out) k_ hk, Kd.freshB (g := B1) (o := .cells #[.int .i64 a1_0, .slice A1_1 l1_1.length c1_1, .slice A1_2 l1_2.length c1_2] 34 (0, 0)) (pk_ BK1.out) k_ hk, Kd.freshB (g := gb434) (o := .cells #[.slice A433_0 (rd_L9 t430 x30_2).length c433_0] 39 (0, 0)) (pk_ BK434.out) k_ hk⟩)); (case aO => exact (by (with_reducible repeat (first | apply Kd.N_alloc | apply Kd.N_drewN | apply Kd.N_drew)); exact Kd.N_mono HO_3.out (fun _ hk => ⟨hk.1.1, ⟨hk.1.2.1, ⟨hk.1.2.2.1, ⟨hk.1.2.2.2, hk.2⟩⟩⟩⟩))); (case aS => exact (below_size (pb1_ HB.out GE434.out))); (case aL => have := LMc29.out; omega); intro v437 w33 ho hb hg hat; rw [← Ny436.out] at ho; have n0_ := Q_ (Kd.N_afterv (ok := (fun k_ => (w.heap.size ≤ k_) ∧ k_ ≠ B0 ∧ k_ ≠ B1 ∧ k_ ≠ gb434)) (by (with_reducible repeat (first | apply Kd.N_alloc | apply Kd.N_drewN | apply Kd.N_drew)); exact Kd.N_mono HO_28.out (fun _ hk => ⟨⟨hk.1.1, ⟨hk.1.2.2.1, ⟨hk.1.2.2.2, hk.2⟩⟩⟩, hk.1.2.1⟩)) hg hat); have n1_ := Q_ (blk_grown (g := B0) (o := .cells #[.int .i64 a0_0, .slice A0_1 l0_1.length c0_1, .slice A0_2 l0_2.length c0_2] 34 (0, 0)) (pk_ BK0.out) hg (Kd.N_ne HO_3.out BK0.out (by decide))); have n2_ := Q_ (blk_grown (g := B1) (o := .cells #[.int .i64 a1_0, .slice A1_1 l1_1.length c1_1, .slice A1_2 l1_2.length c1_2] 34 (0, 0)) (pk_ BK1.out) hg (Kd.N_ne HO_3.out BK1.out (by decide))); have n3_ := Q_ (Kd.V_afterv (ok := (fun k_ => (w.heap.size ≤ k_) ∧ some k_ ≠ (.slice (some ad433) t430.length co17 : Value).ownBlock ∧ k_ ≠ B0 ∧ k_ ≠ B1 ∧ k_ ≠ gb434)) (by (with_reducible repeat (first | apply Kd.V_alloc | apply Kd.V_drewN | apply Kd.V_drew)); exact Kd.V_mono HL433_0.out (fun _ hk => ⟨⟨hk.1.1.1, ⟨hk.1.2, ⟨hk.1.1.2.2.1, ⟨hk.1.1.2.2.2, hk.2⟩⟩⟩⟩, hk.1.1.2.1⟩)) hg hat); have n4_ := Q_ (blk_grown (g := gb434) (o := .cells #[.slice A433_0 (rd_L9 t430 x30_2).length c433_0] 39 (0, 0)) (pk_ BK434.out) hg (Kd.N_away HO_3.out (fun _ hk => hk.2))); have n5_ := Q_ (hb); have n6_ := Q_ (ho); clear HO_28; clear BK0; clear BK1; clear HL433_0; clear BK434; clear HB; clear HO_3; have HO_28 := n0_; have BK0 := n1_; have BK1 := n2_; have HL433_0 := n3_; have BK434 := n4_; have HB := n5_; have HO438 := n6_; clear n0_ n1_ n2_ n3_ n4_ n5_ n6_; clear ho hb hg hat))
  go_roundg k2
  case measure => have := HK1.out; have := HK2.out; omega
  case rel => exact ⟨(y436), (wrap64 (x30_2 + 1)), el_, H', ⟨by have := HK1.out; have := HK2.out; omega⟩, ⟨by (with_reducible repeat (first | apply Kd.N_alloc | apply Kd.N_drewN | apply Kd.N_drew)); exact Kd.N_mono HO438.out (fun _ hk => ⟨hk.1, ⟨hk.2.1, ⟨hk.2.2.1, hk.2.2.2.1⟩⟩⟩)⟩, ⟨by (with_reducible repeat (first | apply Kd.N_alloc | apply Kd.N_drewN | apply Kd.N_drew)); exact Kd.N_mono HO_28.out (fun _ hk => ⟨hk.1.1, ⟨hk.2, ⟨hk.1.2.1, hk.1.2.2.1⟩⟩⟩)⟩, ⟨pk_ BK0.out⟩, ⟨pk_ BK1.out⟩, ⟨pb1_ HB.out GE434.out⟩⟩

/-! ### impl_PairsOf: function 73 -/
def impl_PairsOf.f (k : Nat) (a0_0 : Int) (l0_1 : List Bool) (l0_2 : List (S78)) (a1_0 : Int) (l1_1 : List Bool) (l1_2 : List (S78)) : Option ((List (List Int))) := (impl_IsMachine.f k a0_0 l0_1 l0_2).bind fun t422 => (if t422 = true then ((impl_IsMachine.f k a1_0 l1_1 l1_2).bind fun t423 => (if t423 = true then ((impl_reached_with_impl_PairsOf_1.f k a0_0 l0_1 l0_2 a1_0 l1_1 l1_2).bind fun t424 => (some t424)) else (some ([] : List (List Int))))) else (some ([] : List (List Int))))
theorem impl_PairsOf.mono : ∀ a0 a1 a2 a3 a4 a5 k, LeO (impl_PairsOf.f k a0 a1 a2 a3 a4 a5) (impl_PairsOf.f (k + 1) a0 a1 a2 a3 a4 a5) := by
  intro a0 a1 a2 a3 a4 a5 k
  unfold impl_PairsOf.f
  exact mo2_ impl_IsMachine.mono impl_reached_with_impl_PairsOf_1.mono
set_option maxHeartbeats 8000000 in
set_option maxRecDepth 100000 in
theorem impl_PairsOf.calls (k : Nat) (a0_0 : Int) (A0_1 : Option Addr) (c0_1 : Nat) (l0_1 : List Bool) (A0_2 : Option Addr) (c0_2 : Nat) (l0_2 : List (S78)) (a1_0 : Int) (A1_1 : Option Addr) (c1_1 : Nat) (l1_1 : List Bool) (A1_2 : Option Addr) (c1_2 : Nat) (l1_2 : List (S78)) (r : List (List Int)) (w : World) (hr0_1 : Kd.C Kd.bool w A0_1 l0_1.length l0_1) (hc0_1 : l0_1.length ≤ c0_1) (hr0_2 : Kd.C k78 w A0_2 l0_2.length l0_2) (hc0_2 : l0_2.length ≤ c0_2) (hr1_1 : Kd.C Kd.bool w A1_1 l1_1.length l1_1) (hc1_1 : l1_1.length ≤ c1_1) (hr1_2 : Kd.C k78 w A1_2 l1_2.length l1_2) (hc1_2 : l1_2.length ≤ c1_2) (h : impl_PairsOf.f k a0_0 l0_1 l0_2 a1_0 l1_1 l1_2 = some r) :
    Calls Try.prog 73 #[.agg #[.int .i64 a0_0, .slice A0_1 l0_1.length c0_1, .slice A0_2 l0_2.length c0_2], .agg #[.int .i64 a1_0, .slice A1_1 l1_1.length c1_1, .slice A1_2 l1_2.length c1_2]] w fun e w' => ∃ v0_ : Value, e = .returned (v0_) ∧ Kd.N (Kd.slice 3 (Kd.int .i64)) 39 w' w.heap.size (fun k_ => (w.heap.size ≤ k_)) v0_ r ∧ Below w.heap.size w w' := by
  have hu34 := Try.underlying34
  have HR0_1 := Q_ hr0_1
  have HC0_1 := Q_ hc0_1
  clear hr0_1 hc0_1
  have HR0_2 := Q_ hr0_2
  have HC0_2 := Q_ hc0_2
  clear hr0_2 hc0_2
  have HR1_1 := Q_ hr1_1
  have HC1_1 := Q_ hc1_1
  clear hr1_1 hc1_1
  have HR1_2 := Q_ hr1_2
  have HC1_2 := Q_ hc1_2
  clear hr1_2 hc1_2
  have HB := Q_ (Below.refl w.heap.size w)
  have H : ((impl_IsMachine.f k a0_0 l0_1 l0_2).bind fun t422 => (if t422 = true then ((impl_IsMachine.f k a1_0 l1_1 l1_2).bind fun t423 => (if t423 = true then ((impl_reached_with_impl_PairsOf_1.f k a0_0 l0_1 l0_2 a1_0 l1_1 l1_2).bind fun t424 => (some t424)) else (some ([] : List (List Int))))) else (some ([] : List (List Int))))) = some r := h
  clear h
  have HS_ := Q_ H
  clear H
  go_enter Try.func73, Try.ntmps73
  go_upto_region 1 with (first | ((with_reducible refine gate_dst (N := 2) rfl ?_); refine box_event ?hg (N := 2) ?hd (cs := #[.int .i64 a0_0, .slice A0_1 l0_1.length c0_1, .slice A0_2 l0_2.length c0_2]) (t := 34) ?hr ?_; (case hd => rfl); (case hg => rfl); (case hr => first | (go_simp; done) | (go_simp; rfl)); intro gb420 hg w3 hbox hb; have n0_ := Q_ (below_step (pb_ HB.out) hb); have n1_ := Q_ (hbox); have n2_ := Q_ ((by rw [hg]; exact (below_size (pb_ HB.out)) : w.heap.size ≤ gb420)); have n3_ := n2_; clear HB; have HB := n0_; have BK420 := n1_; have GW420 := n2_; have GE420 := n3_; clear n0_ n1_ n2_ n3_; clear hb hbox hg) | ((with_reducible refine gate_dst (N := 3) rfl ?_); refine box_event ?hg (N := 3) ?hd (cs := #[.int .i64 a1_0, .slice A1_1 l1_1.length c1_1, .slice A1_2 l1_2.length c1_2]) (t := 34) ?hr ?_; (case hd => rfl); (case hg => rfl); (case hr => first | (go_simp; done) | (go_simp; rfl)); intro gb421 hg w4 hbox hb; have n0_ := Q_ (bb_ BK420.out hb); have n1_ := Q_ (below_step (pb1_ HB.out GE420.out) hb); have n2_ := Q_ (hbox); have n3_ := Q_ ((by rw [hg]; exact (below_size (pb1_ HB.out GE420.out)) : w.heap.size ≤ gb421)); have n4_ := n3_; have n5_ := Q_ ((by rw [hg]; exact Nat.ne_of_lt (blk_lt (pk_ BK420.out)) : gb420 ≠ gb421)); have n6_ := Q_ ((by rw [hg]; exact Nat.ne_of_gt (blk_lt (pk_ BK420.out)) : gb421 ≠ gb420)); clear BK420; clear HB; have BK420 := n0_; have HB := n1_; have BK421 := n2_; have GW421 := n3_; have GE421 := n4_; have NB420_421 := n5_; have NB421_420 := n6_; clear n0_ n1_ n2_ n3_ n4_ n5_ n6_; clear hb hbox hg))
  (try simp only [Act.put, List.setIfInBounds_toArray, List.set_cons_zero, List.set_cons_succ])
  have H := HS_.out
  clear HS_
  replace H := Option.bind_eq_some_iff.mp H
  obtain ⟨t422, A50, H⟩ := H
  (try dsimp only at H)
  have A5 := Q_ A50
  clear A50
  by_cases c6 : t422 = true
  rotate_left
  · replace c6 := Bool.eq_false_iff.mpr c6
    subst c6
    rw [if_neg (show ¬ (false = true) by decide)] at H
    obtain rfl := Option.some.inj H
    have hnb7 := NB420_421.out
    have hnc7 := NB421_420.out
    have hcz8 := bc3_ BK420.out
    go_wp2_with (first | ((with_reducible refine gate_callee (f := 55) rfl ?_); refine gl_ (some 6) Try.func55 #[.agg #[.int .i64 a0_0, .slice A0_1 l0_1.length c0_1, .slice A0_2 l0_2.length c0_2]] ?_; (with_reducible refine (impl_IsMachine.calls k a0_0 _ _ l0_1 _ _ l0_2 false _ ?side1 ?side2 ?side3 ?side4 A5.out).mono ?_); (case side1 => exact cb_ HR0_1 HB); (case side2 => exact HC0_1.out); (case side3 => exact cb_ HR0_2 HB); (case side4 => exact HC0_2.out); rintro e w9 ⟨rfl, hb⟩; refine ⟨_, rfl, ?_⟩; have _ := Q_ (bb_ BK420.out hb); have _ := Q_ (bb_ BK421.out hb); have _ := Q_ (below_step (pb2_ HB.out GE420.out GE421.out) hb); clear BK420 BK421 HB; rename_i BK420 BK421 HB; (try clear hb); (try clear hb2); (try clear hk); (try clear hi)))
    go_ret
    exact ⟨_, er_, by first | exact Kd.S_nil _ _ _ _ _ | exact Kd.N_nil _ _ _ _ _ | exact Kd.V_nil _ _ _ _ _ | exact Kd.Q_nil _ _ _ _ _ | exact Kd.R_nil _ _ _ _ _, pb2_ HB.out GE420.out GE421.out⟩
  subst c6
  rw [if_pos rfl] at H
  replace H := Option.bind_eq_some_iff.mp H
  obtain ⟨t423, A100, H⟩ := H
  (try dsimp only at H)
  have A10 := Q_ A100
  clear A100
  have HS_ := Q_ H
  clear H
  have hnb11 := NB420_421.out
  have hnc11 := NB421_420.out
  have hcz12 := bc3_ BK420.out
  go_upto_if 12 with (first | ((with_reducible refine gate_callee (f := 55) rfl ?_); refine gl_ (some 6) Try.func55 #[.agg #[.int .i64 a0_0, .slice A0_1 l0_1.length c0_1, .slice A0_2 l0_2.length c0_2]] ?_; (with_reducible refine (impl_IsMachine.calls k a0_0 _ _ l0_1 _ _ l0_2 true _ ?side1 ?side2 ?side3 ?side4 A5.out).mono ?_); (case side1 => exact cb_ HR0_1 HB); (case side2 => exact HC0_1.out); (case side3 => exact cb_ HR0_2 HB); (case side4 => exact HC0_2.out); rintro e w13 ⟨rfl, hb⟩; refine ⟨_, rfl, ?_⟩; have _ := Q_ (bb_ BK420.out hb); have _ := Q_ (bb_ BK421.out hb); have _ := Q_ (below_step (pb2_ HB.out GE420.out GE421.out) hb); clear BK420 BK421 HB; rename_i BK420 BK421 HB; (try clear hb); (try clear hb2); (try clear hk); (try clear hi); have hcz14 := bc3_ BK421.out) | (go_at_call 55; (with_reducible refine (impl_IsMachine.calls k a1_0 _ _ l1_1 _ _ l1_2 t423 _ ?side1 ?side2 ?side3 ?side4 A10.out).mono ?_); (case side1 => exact cb_ HR1_1 HB); (case side2 => exact HC1_1.out); (case side3 => exact cb_ HR1_2 HB); (case side4 => exact HC1_2.out); rintro e w15 ⟨rfl, hb⟩; have _ := Q_ (bb_ BK420.out hb); have _ := Q_ (bb_ BK421.out hb); have _ := Q_ (below_step (pb2_ HB.out GE420.out GE421.out) hb); clear BK420 BK421 HB; rename_i BK420 BK421 HB; (try clear hb); (try clear hb2); (try clear hk); (try clear hi)))
  (try simp only [Act.put, List.setIfInBounds_toArray, List.set_cons_zero, List.set_cons_succ])
  have H := HS_.out
  clear HS_
  by_cases c16 : t423 = true
  rotate_left
  · replace c16 := Bool.eq_false_iff.mpr c16
    subst c16
    rw [if_neg (show ¬ (false = true) by decide)] at H
    obtain rfl := Option.some.inj H
    go_wp2
    go_ret
    exact ⟨_, er_, by first | exact Kd.S_nil _ _ _ _ _ | exact Kd.N_nil _ _ _ _ _ | exact Kd.V_nil _ _ _ _ _ | exact Kd.Q_nil _ _ _ _ _ | exact Kd.R_nil _ _ _ _ _, pb2_ HB.out GE420.out GE421.out⟩
  subst c16
  rw [if_pos rfl] at H
  replace H := Option.bind_eq_some_iff.mp H
  obtain ⟨t424, A170, H⟩ := H
  replace H : (some t424) = some r := H
  have A17 := Q_ A170
  clear A170
  obtain rfl := Option.some.inj H
  go_wp2_with (first | (go_at_call 78; (with_reducible refine (impl_reached_with_impl_PairsOf_1.calls k _ a0_0 A0_1 c0_1 l0_1 A0_2 c0_2 l0_2 _ a1_0 A1_1 c1_1 l1_1 A1_2 c1_2 l1_2 t424 _ ?side1 ?side2 ?side3 ?side4 ?side5 ?side6 ?side7 ?side8 ?side9 ?side10 ?side11 A17.out).mono ?_); (case side1 => exact cb_ HR0_1 HB); (case side2 => exact HC0_1.out); (case side3 => exact cb_ HR0_2 HB); (case side4 => exact HC0_2.out); (case side5 => exact pk_ BK420.out); (case side6 => exact cb_ HR1_1 HB); (case side7 => exact HC1_1.out); (case side8 => exact cb_ HR1_2 HB); (case side9 => exact HC1_2.out); (case side10 => exact pk_ BK421.out); (case side11 => exact NB420_421.out); rintro e w18 ⟨v425, rfl, ho0, hb⟩; have _ := Q_ (Kd.N_lower (Kd.N_mono (ok' := fun k_ => (w.heap.size ≤ k_) ∧ k_ ≠ gb420 ∧ k_ ≠ gb421) ho0 (fun k_ hk_ => ⟨(Nat.le_trans (below_size (pb2_ HB.out GE420.out GE421.out)) hk_), (Kd.freshB (g := gb420) (o := .cells #[.int .i64 a0_0, .slice A0_1 l0_1.length c0_1, .slice A0_2 l0_2.length c0_2] 34 (0, 0)) (pk_ BK420.out) k_ hk_), (Kd.freshB (g := gb421) (o := .cells #[.int .i64 a1_0, .slice A1_1 l1_1.length c1_1, .slice A1_2 l1_2.length c1_2] 34 (0, 0)) (pk_ BK421.out) k_ hk_)⟩)) (below_size (pb2_ HB.out GE420.out GE421.out))); have _ := Q_ (bb_ BK420.out hb); have _ := Q_ (bb_ BK421.out hb); have _ := Q_ (below_step (pb2_ HB.out GE420.out GE421.out) hb); clear BK420 BK421 HB; rename_i HO426 BK420 BK421 HB; (try clear hb); (try clear hb2); (try clear hk); (try clear hi); (try clear ho0)))
  go_ret
  exact ⟨_, er_, by (with_reducible repeat (first | apply Kd.N_alloc | apply Kd.N_drewN | apply Kd.N_drew)); exact Kd.N_mono HO426.out (fun _ hk => hk.1), pb2_ HB.out GE420.out GE421.out⟩

/-! ### slices_Index_int_int: function 103 -/
def slices_Index_int_int.l0 : Nat → List Int → Int → Int → Int → Option (Int)
  | 0, _, _, _, _ => none
  | k + 1, x0, x1, x7, x8 => if x8 < x7 then (if 0 ≤ x8 then (if x8 < (x0.length : Int) then (if x1 = (rd x0 x8) then (some x8) else (slices_Index_int_int.l0 k x0 x1 x7 (wrap64 (x8 + 1)))) else (none)) else (none)) else (some (-1))
def slices_Index_int_int.f (k : Nat) (l0 : List Int) (a1 : Int) : Option (Int) := slices_Index_int_int.l0 k l0 a1 (l0.length : Int) 0
theorem slices_Index_int_int.mono_l : ∀ k, (∀ y0 y1 y2 y3, LeO (slices_Index_int_int.l0 k y0 y1 y2 y3) (slices_Index_int_int.l0 (k + 1) y0 y1 y2 y3))
  | 0 => fun _ _ _ _ r h => by simp [slices_Index_int_int.l0] at h
  | k + 1 => by
    have ih0 := slices_Index_int_int.mono_l k
    · intro y0 y1 y2 y3
      unfold slices_Index_int_int.l0
      exact mo1_ ih0
theorem slices_Index_int_int.mono : ∀ a0 a1 k, LeO (slices_Index_int_int.f k a0 a1) (slices_Index_int_int.f (k + 1) a0 a1) := by
  intro a0 a1 k
  have ih0 := slices_Index_int_int.mono_l k
  unfold slices_Index_int_int.f
  exact mo1_ ih0
set_option maxHeartbeats 8000000 in
set_option maxRecDepth 100000 in
theorem slices_Index_int_int.calls (k : Nat) (A0 : Option Addr) (c0 : Nat) (l0 : List Int) (a1 : Int) (r : Int) (w : World) (hr0 : Kd.C (Kd.int .i64) w A0 l0.length l0) (hc0 : l0.length ≤ c0) (h : slices_Index_int_int.f k l0 a1 = some r) :
    Calls Try.prog 103 #[.slice A0 l0.length c0, .int .i64 a1] w fun e w' => e = .returned (.int .i64 r) ∧ Drawn0 w w' := by
  have HR0 := Q_ hr0
  have HC0 := Q_ hc0
  clear hr0 hc0
  have H : (slices_Index_int_int.l0 k l0 a1 (l0.length : Int) 0) = some r := h
  clear h
  have H' := Q_ H
  clear H
  go_enter Try.func103, Try.ntmps103
  go_wp2
  go_loopg [8] k (fun kq v8 w' => ∃ (x8_1 : Int), v8 = .int .i64 x8_1 ∧ Aside0 (slices_Index_int_int.l0 kq l0 a1 (l0.length : Int) x8_1 = some r) ∧ Aside0 (kq ≤ k) ∧ Drawn0 w w')
  case atStart => exact ⟨(0), el_, H', ⟨Nat.le_refl _⟩, by repeat (first | exact Drawn0.refl _ | apply Drawn0.step)⟩
  clear H'
  try clear c1
  try clear p2
  obtain ⟨x8_1, rfl, HA, HK1, ⟨m1, rfl⟩⟩ := hrel
  rcases gk with _ | k1
  · exact absurd HA.out (by simp [slices_Index_int_int.l0])
  have H := HA.out
  clear HA
  simp only [slices_Index_int_int.l0] at H
  by_cases c3 : x8_1 < (l0.length : Int)
  rotate_left
  · rw [if_neg c3] at H
    have c3b0 : decide (x8_1 < (l0.length : Int)) = false := decide_eq_false c3
    clear c3
    obtain rfl := Option.some.inj H
    go_wp2
    go_ret
    exact ⟨by first | rfl | (simp; done) | (simp [*]; done), by repeat (first | exact Drawn0.refl _ | apply Drawn0.step)⟩
  rw [if_pos c3] at H
  have c3b0 : decide (x8_1 < (l0.length : Int)) = true := decide_eq_true c3
  clear c3
  by_cases c4 : 0 ≤ x8_1
  rotate_left
  · rw [if_neg c4] at H
    exact absurd H (by simp)
  rw [if_pos c4] at H
  have c4b0 : decide (0 ≤ x8_1) = true := decide_eq_true c4
  clear c4
  by_cases c5 : x8_1 < (l0.length : Int)
  rotate_left
  · rw [if_neg c5] at H
    exact absurd H (by simp)
  rw [if_pos c5] at H
  have c5b0 : decide (x8_1 < (l0.length : Int)) = true := decide_eq_true c5
  clear c5
  by_cases c6 : a1 = (rd l0 x8_1)
  rotate_left
  · rw [if_neg c6] at H
    have c6b0 : (a1 == (rd l0 x8_1)) = false := beq_eq_false_iff_ne.mpr c6
    have c6b1 : (a1 != (rd l0 x8_1)) = true := bne_iff_ne.mpr c6
    have H' := Q_ H
    clear H
    have p427 : 0 ≤ (x8_1 : Int) := dt_
    have q427 : x8_1 < (l0.length : Int) := dt_
    obtain ⟨ad427, e427, hx427_0⟩ := Kd.at_int HR0.out x8_1 p427 q427
    cases e427
    replace p427 := eq_true p427
    replace q427 := eq_true q427
    go_wp2
    go_roundg k1
    case measure => have := HK1.out; omega
    case rel => exact ⟨(wrap64 (x8_1 + 1)), el_, H', ⟨by have := HK1.out; omega⟩, by repeat (first | exact Drawn0.refl _ | apply Drawn0.step)⟩
  rw [if_pos c6] at H
  have c6b0 : (a1 == (rd l0 x8_1)) = true := beq_iff_eq.mpr c6
  have c6b1 : (a1 != (rd l0 x8_1)) = false := bne_eq_false_iff_eq.mpr c6
  clear c6
  obtain rfl := Option.some.inj H
  have p427 : 0 ≤ (x8_1 : Int) := dt_
  have q427 : x8_1 < (l0.length : Int) := dt_
  obtain ⟨ad427, e427, hx427_0⟩ := Kd.at_int HR0.out x8_1 p427 q427
  cases e427
  replace p427 := eq_true p427
  replace q427 := eq_true q427
  go_wp2
  go_ret
  exact ⟨by first | rfl | (simp; done) | (simp [*]; done), by repeat (first | exact Drawn0.refl _ | apply Drawn0.step)⟩

/-! ### slices_Contains_int_int: function 97 -/
def slices_Contains_int_int.f (k : Nat) (l0 : List Int) (a1 : Int) : Option (Bool) := (slices_Index_int_int.f k l0 a1).bind fun t428 => (some (decide (t428 ≥ 0)))
theorem slices_Contains_int_int.mono : ∀ a0 a1 k, LeO (slices_Contains_int_int.f k a0 a1) (slices_Contains_int_int.f (k + 1) a0 a1) := by
  intro a0 a1 k
  unfold slices_Contains_int_int.f
  exact mo1_ slices_Index_int_int.mono
set_option maxHeartbeats 8000000 in
set_option maxRecDepth 100000 in
theorem slices_Contains_int_int.calls (k : Nat) (A0 : Option Addr) (c0 : Nat) (l0 : List Int) (a1 : Int) (r : Bool) (w : World) (hr0 : Kd.C (Kd.int .i64) w A0 l0.length l0) (hc0 : l0.length ≤ c0) (h : slices_Contains_int_int.f k l0 a1 = some r) :
    Calls Try.prog 97 #[.slice A0 l0.length c0, .int .i64 a1] w fun e w' => e = .returned (.bool r) ∧ Drawn0 w w' := by
  have HR0 := Q_ hr0
  have HC0 := Q_ hc0
  clear hr0 hc0
  have H : ((slices_Index_int_int.f k l0 a1).bind fun t428 => (some (decide (t428 ≥ 0)))) = some r := h
  clear h
  replace H := Option.bind_eq_some_iff.mp H
  obtain ⟨t428, A30, H⟩ := H
  replace H : (some (decide (t428 ≥ 0))) = some r := H
  have A3 := Q_ A30
  clear A30
  obtain rfl := Option.some.inj H
  go_enter Try.func97, Try.ntmps97
  go_wp2_with (first | ((with_reducible refine gate_callee (f := 103) rfl ?_); refine gl_ (some 7) Try.func103 #[.slice A0 l0.length c0, .int .i64 a1] ?_; (with_reducible refine (slices_Index_int_int.calls k _ _ l0 a1 t428 _ ?side1 ?side2 A3.out).mono ?_); (case side1 => exact pc_ HR0.out); (case side2 => exact HC0.out); rintro e w' ⟨rfl, ⟨nd, rfl⟩⟩; refine ⟨_, rfl, ?_⟩))
  go_ret
  exact ⟨by first | rfl | (simp; done) | (simp [*]; done), by repeat (first | exact Drawn0.refl _ | apply Drawn0.step)⟩

/-! ### impl_without: function 82 -/
def impl_without.l0 : Nat → List Int → List Int → List Int → Int → Int → Option (List Int)
  | 0, _, _, _, _, _ => none
  | k + 1, x1, x5, x9, x10, x11 => if x11 < x10 then (if 0 ≤ x11 then (if x11 < (x9.length : Int) then ((slices_Contains_int_int.f k x1 (rd x9 x11)).bind fun t433 => (if t433 = true then (impl_without.l0 k x1 x5 x9 x10 (wrap64 (x11 + 1))) else (if x5.length < 17592186044416 then (impl_without.l0 k x1 (x5 ++ [rd x9 x11]) x9 x10 (wrap64 (x11 + 1))) else (none)))) else (none)) else (none)) else (some x5)
def impl_without.f (k : Nat) (l0 : List Int) (l1 : List Int) : Option (List Int) := impl_without.l0 k l1 (([] : List Int)) l0 (l0.length : Int) 0
theorem impl_without.mono_l : ∀ k, (∀ y0 y1 y2 y3 y4, LeO (impl_without.l0 k y0 y1 y2 y3 y4) (impl_without.l0 (k + 1) y0 y1 y2 y3 y4))
  | 0 => fun _ _ _ _ _ r h => by simp [impl_without.l0] at h
  | k + 1 => by
    have ih0 := impl_without.mono_l k
    · intro y0 y1 y2 y3 y4
      unfold impl_without.l0
      exact mo2_ ih0 slices_Contains_int_int.mono
theorem impl_without.mono : ∀ a0 a1 k, LeO (impl_without.f k a0 a1) (impl_without.f (k + 1) a0 a1) := by
  intro a0 a1 k
  have ih0 := impl_without.mono_l k
  unfold impl_without.f
  exact mo2_ ih0 slices_Contains_int_int.mono
set_option maxHeartbeats 8000000 in
set_option maxRecDepth 100000 in
theorem impl_without.calls (k : Nat) (A0 : Option Addr) (c0 : Nat) (l0 : List Int) (A1 : Option Addr) (c1 : Nat) (l1 : List Int) (r : List Int) (w : World) (hr0 : Kd.C (Kd.int .i64) w A0 l0.length l0) (hc0 : l0.length ≤ c0) (hr1 : Kd.C (Kd.int .i64) w A1 l1.length l1) (hc1 : l1.length ≤ c1) (h : impl_without.f k l0 l1 = some r) :
    Calls Try.prog 82 #[.slice A0 l0.length c0, .slice A1 l1.length c1] w fun e w' => ∃ v0_ : Value, e = .returned (v0_) ∧ Kd.R (Kd.int .i64) 3 w' w.heap.size (fun _ => True) v0_ r ∧ Below w.heap.size w w' := by
  have HR0 := Q_ hr0
  have HC0 := Q_ hc0
  clear hr0 hc0
  have HR1 := Q_ hr1
  have HC1 := Q_ hc1
  clear hr1 hc1
  have HB := Q_ (Below.refl w.heap.size w)
  have H : (impl_without.l0 k l1 (([] : List Int)) l0 (l0.length : Int) 0) = some r := h
  clear h
  obtain ⟨y429, hy429⟩ : ∃ y_ : List Int, y_ = (([] : List Int)) := ⟨_, rfl⟩
  replace H : (impl_without.l0 k l1 y429 l0 (l0.length : Int) 0) = some r := by first | (rw [hy429]; with_reducible exact H) | (have H2_ := (Option.bind_some _ _).symm.trans H; rw [hy429]; with_reducible exact H2_) | (have H2_ := (Option.bind_some _ _).symm.trans H; with_reducible exact H2_) | with_reducible exact H | (rw [hy429]; exact H) | exact H
  have Ny429 := Q_ hy429
  clear hy429
  have H' := Q_ H
  clear H
  go_enter Try.func82, Try.ntmps82
  go_wp2_with (first | ((with_reducible refine gate_dst (N := 8) rfl ?_); refine Kd.R_lit (Kd.int .i64) _ 3 ?hg (N := 8) ?hd (xs := ([] : List Int)) (inner := []) (ok := fun _ => True) (okp := fun _ => True) ?hr ?hp (fun _ hk => hk) trivial (Below.refl _ _) (Nat.le_refl _) (by simp) ?_; (case hd => rfl); (case hg => rfl); (case hr => first | (go_simp; done) | (go_simp; rfl)); (case hp => exact (Reps.none _ _)); intro v430 w3 ho4 hb hg_ hnew_; clear hg_ hnew_; (first | rw [← Ny429.out] at ho4 | (simp only [Int.reduceToNat] at ho4; rw [← Ny429.out] at ho4)); have _ := Q_ (Kd.R_lower ho4 (below_size (pb_ HB.out))); have _ := Q_ (below_step (pb_ HB.out) hb); clear HB; rename_i HO431 HB; clear hb ho4))
  (try simp only [Act.put, List.setIfInBounds_toArray, List.set_cons_zero, List.set_cons_succ])
  go_loopg [5, 11] k (fun kq v5 v11 w' => ∃ (x5_1 : List Int) (x11_1 : Int), v11 = .int .i64 x11_1 ∧ Aside0 (impl_without.l0 kq l1 x5_1 l0 (l0.length : Int) x11_1 = some r) ∧ Aside0 (kq ≤ k) ∧ Aside0 (Kd.R (Kd.int .i64) 3 w' w.heap.size (fun _ => True) v5 x5_1) ∧ Aside0 (Below w.heap.size w w'))
  case atStart => exact ⟨(y429), (0), el_, H', ⟨Nat.le_refl _⟩, ⟨pr_ HO431.out⟩, ⟨pb_ HB.out⟩⟩
  clear H'
  try clear c1
  try clear p2
  obtain ⟨x5_1, x11_1, rfl, HA, HK1, HO_5, HB⟩ := hrel
  rcases gk with _ | k1
  · exact absurd HA.out (by simp [impl_without.l0])
  have H := HA.out
  clear HA
  simp only [impl_without.l0] at H
  by_cases c5 : x11_1 < (l0.length : Int)
  rotate_left
  · rw [if_neg c5] at H
    have c5b0 : decide (x11_1 < (l0.length : Int)) = false := decide_eq_false c5
    clear c5
    obtain rfl := Option.some.inj H
    go_wp2
    go_ret
    exact ⟨_, er_, pr_ HO_5.out, pb_ HB.out⟩
  rw [if_pos c5] at H
  have c5b0 : decide (x11_1 < (l0.length : Int)) = true := decide_eq_true c5
  clear c5
  by_cases c6 : 0 ≤ x11_1
  rotate_left
  · rw [if_neg c6] at H
    exact absurd H (by simp)
  rw [if_pos c6] at H
  have c6b0 : decide (0 ≤ x11_1) = true := decide_eq_true c6
  clear c6
  by_cases c7 : x11_1 < (l0.length : Int)
  rotate_left
  · rw [if_neg c7] at H
    exact absurd H (by simp)
  rw [if_pos c7] at H
  have c7b0 : decide (x11_1 < (l0.length : Int)) = true := decide_eq_true c7
  clear c7
  replace H := Option.bind_eq_some_iff.mp H
  obtain ⟨t433, A80, H⟩ := H
  (try dsimp only at H)
  have A8 := Q_ A80
  clear A80
  have HS_ := Q_ H
  clear H
  have p432 : 0 ≤ (x11_1 : Int) := dt_
  have q432 : x11_1 < (l0.length : Int) := dt_
  obtain ⟨ad432, e432, hx432_0⟩ := Kd.at_int HR0.out x11_1 p432 q432
  cases e432
  replace hx432_0 := bt_ HB hx432_0
  replace p432 := eq_true p432
  replace q432 := eq_true q432
  go_upto_if 18 with (first | ((with_reducible refine gate_callee (f := 97) rfl ?_); refine gl_ (some 17) Try.func97 #[.slice A1 l1.length c1, .int .i64 (rd l0 x11_1)] ?_; (with_reducible refine (slices_Contains_int_int.calls k1 _ _ l1 (rd l0 x11_1) t433 _ ?side1 ?side2 A8.out).mono ?_); (case side1 => exact cb_ HR1 HB); (case side2 => exact HC1.out); rintro e w' ⟨rfl, ⟨nd, rfl⟩⟩; refine ⟨_, rfl, ?_⟩))
  (try simp only [Act.put, List.setIfInBounds_toArray, List.set_cons_zero, List.set_cons_succ])
  have H := HS_.out
  clear HS_
  by_cases c9 : t433 = true
  · subst c9
    rw [if_pos rfl] at H
    have H' := Q_ H
    clear H
    go_wp2
    go_roundg k1
    case measure => have := HK1.out; omega
    case rel => exact ⟨(x5_1), (wrap64 (x11_1 + 1)), el_, H', ⟨by have := HK1.out; omega⟩, ⟨pr_ HO_5.out⟩, ⟨pb_ HB.out⟩⟩
  replace c9 := Bool.eq_false_iff.mpr c9
  subst c9
  rw [if_neg (show ¬ (false = true) by decide)] at H
  by_cases c10 : x5_1.length < 17592186044416
  rotate_left
  · rw [if_neg c10] at H
    exact absurd H (by simp)
  rw [if_pos c10] at H
  have LMc10 := Q_ c10
  clear c10
  obtain ⟨y434, hy434⟩ : ∃ y_ : List Int, y_ = (x5_1 ++ [rd l0 x11_1]) := ⟨_, rfl⟩
  replace H : (impl_without.l0 k1 l1 y434 l0 (l0.length : Int) (wrap64 (x11_1 + 1))) = some r := by first | (rw [hy434]; with_reducible exact H) | (have H2_ := (Option.bind_some _ _).symm.trans H; rw [hy434]; with_reducible exact H2_) | (have H2_ := (Option.bind_some _ _).symm.trans H; with_reducible exact H2_) | with_reducible exact H | (rw [hy434]; exact H) | exact H
  have Ny434 := Q_ hy434
  clear hy434
  have H' := Q_ H
  clear H
  go_wp2_with (first | ((with_reducible refine gate_builtin (b := .append) (xs := #[.tmp 19, .tmp 21]) rfl ?_); at_builtin; refine Kd.R_append (Kd.int .i64) (w0 := w) w.heap.size rfl (.tmp 19) (.tmp 21) 39 3 (.int .i64 0) 8 rfl Try.underlying39 info3 rfl (by decide) (by omega) u5 x5_1 (rd l0 x11_1) [.int .i64 (rd l0 x11_1)] (fun _ => True) (fun _ => False) rfl rfl ?aP (fun _ hk => hk.elim) ?aF ?aO ?aB ?aS ?aL ?_; (case aP => exact rfl); (case aB => exact (pb_ HB.out)); (case aF => exact (fun _ _ => trivial)); (case aO => exact (pr_ HO_5.out)); (case aS => exact (below_size (pb_ HB.out))); (case aL => have := LMc10.out; omega); intro v435 w11 ho hb hg hat; rw [← Ny434.out] at ho; have _ := Q_ (hb); have _ := Q_ (ho); clear HB HO_5; rename_i HB HO436; clear ho hb hg hat))
  go_roundg k1
  case measure => have := HK1.out; omega
  case rel => exact ⟨(y434), (wrap64 (x11_1 + 1)), el_, H', ⟨by have := HK1.out; omega⟩, ⟨pr_ HO436.out⟩, ⟨pb_ HB.out⟩⟩

/-! ### impl_isEnd: function 83 -/
def impl_isEnd.f (a0_0 : Int) (l0_1 : List Bool) (l0_2 : List (S78)) (a1 : Int) : Option (Bool) := (impl_InRange.f a1 0 (wrap64 ((l0_1.length : Int) - 1))).bind fun t438 => (if t438 = true then (if 0 ≤ a1 then (if a1 < (l0_1.length : Int) then (some (rdOf false l0_1 a1)) else (none)) else (none)) else (some false))
set_option maxHeartbeats 8000000 in
set_option maxRecDepth 100000 in
theorem impl_isEnd.calls (a0_0 : Int) (A0_1 : Option Addr) (c0_1 : Nat) (l0_1 : List Bool) (A0_2 : Option Addr) (c0_2 : Nat) (l0_2 : List (S78)) (a1 : Int) (r : Bool) (w : World) (hr0_1 : Kd.C Kd.bool w A0_1 l0_1.length l0_1) (hc0_1 : l0_1.length ≤ c0_1) (hr0_2 : Kd.C k78 w A0_2 l0_2.length l0_2) (hc0_2 : l0_2.length ≤ c0_2) (h : impl_isEnd.f a0_0 l0_1 l0_2 a1 = some r) :
    Calls Try.prog 83 #[.agg #[.int .i64 a0_0, .slice A0_1 l0_1.length c0_1, .slice A0_2 l0_2.length c0_2], .int .i64 a1] w fun e w' => e = .returned (.bool r) ∧ Below w.heap.size w w' := by
  have hu34 := Try.underlying34
  have HR0_1 := Q_ hr0_1
  have HC0_1 := Q_ hc0_1
  clear hr0_1 hc0_1
  have HR0_2 := Q_ hr0_2
  have HC0_2 := Q_ hc0_2
  clear hr0_2 hc0_2
  have HB := Q_ (Below.refl w.heap.size w)
  have H : ((impl_InRange.f a1 0 (wrap64 ((l0_1.length : Int) - 1))).bind fun t438 => (if t438 = true then (if 0 ≤ a1 then (if a1 < (l0_1.length : Int) then (some (rdOf false l0_1 a1)) else (none)) else (none)) else (some false))) = some r := h
  clear h
  have HS_ := Q_ H
  clear H
  go_enter Try.func83, Try.ntmps83
  go_upto_region 1 with (first | ((with_reducible refine gate_dst (N := 2) rfl ?_); refine box_event ?hg (N := 2) ?hd (cs := #[.int .i64 a0_0, .slice A0_1 l0_1.length c0_1, .slice A0_2 l0_2.length c0_2]) (t := 34) ?hr ?_; (case hd => rfl); (case hg => rfl); (case hr => first | (go_simp; done) | (go_simp; rfl)); intro gb437 hg w3 hbox hb; have n0_ := Q_ (below_step (pb_ HB.out) hb); have n1_ := Q_ (hbox); have n2_ := Q_ ((by rw [hg]; exact (below_size (pb_ HB.out)) : w.heap.size ≤ gb437)); have n3_ := n2_; clear HB; have HB := n0_; have BK437 := n1_; have GW437 := n2_; have GE437 := n3_; clear n0_ n1_ n2_ n3_; clear hb hbox hg))
  (try simp only [Act.put, List.setIfInBounds_toArray, List.set_cons_zero, List.set_cons_succ])
  have H := HS_.out
  clear HS_
  replace H := Option.bind_eq_some_iff.mp H
  obtain ⟨t438, A40, H⟩ := H
  (try dsimp only at H)
  have A4 := Q_ A40
  clear A40
  by_cases c5 : t438 = true
  rotate_left
  · replace c5 := Bool.eq_false_iff.mpr c5
    subst c5
    rw [if_neg (show ¬ (false = true) by decide)] at H
    obtain rfl := Option.some.inj H
    have hcz6 := bc3_ BK437.out
    go_wp2_with (first | ((with_reducible refine gate_callee (f := 47) rfl ?_); refine gl_ (some 10) Try.func47 #[.int .i64 a1, .int .i64 0, .int .i64 (wrap64 ((l0_1.length : Int) - 1))] ?_; (with_reducible refine (impl_InRange.calls a1 0 (wrap64 ((l0_1.length : Int) - 1)) false _ A4.out).mono ?_); rintro e w' ⟨rfl, ⟨nd, rfl⟩⟩; refine ⟨_, rfl, ?_⟩))
    go_ret
    exact ⟨er_, pb1_ HB.out GE437.out⟩
  subst c5
  rw [if_pos rfl] at H
  by_cases c7 : 0 ≤ a1
  rotate_left
  · rw [if_neg c7] at H
    exact absurd H (by simp)
  rw [if_pos c7] at H
  have c7b0 : decide (0 ≤ a1) = true := decide_eq_true c7
  clear c7
  (first | rw [c7b0] | (simp only [i64_w, i32_w]; rw [c7b0]) | skip)
  by_cases c8 : a1 < (l0_1.length : Int)
  rotate_left
  · rw [if_neg c8] at H
    exact absurd H (by simp)
  rw [if_pos c8] at H
  have c8b0 : decide (a1 < (l0_1.length : Int)) = true := decide_eq_true c8
  clear c8
  obtain rfl := Option.some.inj H
  have hcz9 := bc3_ BK437.out
  go_wp2_with (first | ((with_reducible refine gate_callee (f := 47) rfl ?_); refine gl_ (some 10) Try.func47 #[.int .i64 a1, .int .i64 0, .int .i64 (wrap64 ((l0_1.length : Int) - 1))] ?_; (with_reducible refine (impl_InRange.calls a1 0 (wrap64 ((l0_1.length : Int) - 1)) true _ A4.out).mono ?_); rintro e w' ⟨rfl, ⟨nd, rfl⟩⟩; refine ⟨_, rfl, ?_⟩; have p439 : 0 ≤ (a1 : Int) := dt_; have q439 : a1 < (l0_1.length : Int) := dt_; obtain ⟨ad439, e439, hx439_0⟩ := Kd.at_bool HR0_1.out a1 p439 q439; cases e439; replace hx439_0 := bt_ HB hx439_0; replace p439 := eq_true p439; replace q439 := eq_true q439))
  go_ret
  exact ⟨er_, pb1_ HB.out GE437.out⟩

end Go.Proofs.Ytldcchjbaglppaa.Print
