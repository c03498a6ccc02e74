-- Written by a program of this session (printx.py) out of the translation; Lean checks it.
import Derived.Test.YtldcchjbaglppaaPrint0
import Derived.Test.YtldcchjbaglppaaPrint1
import Derived.Test.YtldcchjbaglppaaPrint4
namespace Go.Proofs.Ytldcchjbaglppaa.Print
open Go.RowKit Go.Proofs.YtldcchjbaglppaaW.PrintWords Go.Proofs.YtldcchjbaglppaaW.PrintLast Go.Proofs.YtldcchjbaglppaaW.PrintMore Go.Proofs.Ytldcchjbaglppaa.Short
attribute [local go_sem] max2_int min2_int max_two min_two max_three min_three max_four min_four   -- for this text's walks alone
set_option linter.unusedVariables false
set_option maxHeartbeats 8000000
set_option maxRecDepth 100000
set_option linter.unusedSimpArgs false

/-! ### impl_reached_with_impl_PairsOf_1: function 100002 -/
mutual
def impl_reached_with_impl_PairsOf_1.l0 : Nat → List (List Int) → Int → Int → List Bool → List (S78) → Int → List Bool → List (S78) → Option ((List (List Int)))
 | 0, _, _, _, _, _, _, _, _ => none
 | k + 1, i, j, a, b, c, d, e, g => if j < (i.length : Int) then (if 0 ≤ j then (if 0 < ((rd_L3 i j).length : Int) then (if 1 < ((rd_L3 i j).length : Int) then ((impl_PairsOf_1.f k (rd (rd_L3 i j) 0) (rd (rd_L3 i j) 1) a b c d e g).bind fun h => (impl_reached_with_impl_PairsOf_1.l1 k i j h (h.length : Int) 0 a b c d e g)) else (none)) else (none)) else (none)) else (some i)
def impl_reached_with_impl_PairsOf_1.l1 : Nat → List (List Int) → Int → List (List Int) → Int → Int → Int → List Bool → List (S78) → Int → List Bool → List (S78) → Option ((List (List Int)))
 | 0, _, _, _, _, _, _, _, _, _, _, _ => none
 | k + 1, m, n, i, j, h, a, b, c, d, e, g => if h < j then (if 0 ≤ h then (if h < (i.length : Int) then ((slices_ContainsFunc_int_int_with_impl_reached_1.f k m (rd_L3 i h)).bind fun l => (if l = true then (impl_reached_with_impl_PairsOf_1.l1 k m n i j (wrap64 (h + 1)) a b c d e g) else (if m.length < 5864062014805 then (impl_reached_with_impl_PairsOf_1.l1 k (m ++ [rd_L3 i h]) n i j (wrap64 (h + 1)) a b c d e g) else (none)))) else (none)) else (none)) else (impl_reached_with_impl_PairsOf_1.l0 k m (wrap64 (n + 1)) a b c d e g)
end
def impl_reached_with_impl_PairsOf_1.f (k : Nat) (a : Int) (c : List Bool) (d : List (S78)) (b : Int) (e : List Bool) (g : List (S78)) : Option ((List (List Int))) := impl_reached_with_impl_PairsOf_1.l0 k (([(([0, 0] : List Int))] : List (List Int))) 0 a c d b e g
theorem impl_reached_with_impl_PairsOf_1.mono_l : ∀ k, (∀ a b d e f g i j, LeO (impl_reached_with_impl_PairsOf_1.l0 k a b d e f g i j) (impl_reached_with_impl_PairsOf_1.l0 (k + 1) a b d e f g i j)) ∧ (∀ a b d e f g i j l m c, LeO (impl_reached_with_impl_PairsOf_1.l1 k a b d e f g i j l m c) (impl_reached_with_impl_PairsOf_1.l1 (k + 1) a b d e f g i j l m c))
 | 0 => ⟨fun _ _ _ _ _ _ _ _ r h => by simp [impl_reached_with_impl_PairsOf_1.l0] at h, fun _ _ _ _ _ _ _ _ _ _ _ r h => by simp [impl_reached_with_impl_PairsOf_1.l1] at h⟩
 | k + 1 => by
  obtain ⟨ih0, ih1⟩ := impl_reached_with_impl_PairsOf_1.mono_l k
  refine ⟨?_, ?_⟩
  ·intro a b d e f g i j
   unfold impl_reached_with_impl_PairsOf_1.l0
   exact mo4_ ih0 ih1 impl_PairsOf_1.mono slices_ContainsFunc_int_int_with_impl_reached_1.mono
  ·intro a b d e f g i j l m c
   unfold impl_reached_with_impl_PairsOf_1.l1
   exact mo4_ ih0 ih1 impl_PairsOf_1.mono slices_ContainsFunc_int_int_with_impl_reached_1.mono
theorem impl_reached_with_impl_PairsOf_1.mono : ∀ a b c d e g k, LeO (impl_reached_with_impl_PairsOf_1.f k a b c d e g) (impl_reached_with_impl_PairsOf_1.f (k + 1) a b c d e g) := by
 intro a b c d e g k
 obtain ⟨ih0, ih1⟩ := impl_reached_with_impl_PairsOf_1.mono_l k
 unfold impl_reached_with_impl_PairsOf_1.f
 exact mo4_ ih0 ih1 impl_PairsOf_1.mono slices_ContainsFunc_int_int_with_impl_reached_1.mono
def impl_reached_with_impl_PairsOf_1.T5 : Bool × List (List Nat × List Nat) := (true, [([], []), ([], []), ([], []), ([1, 2], [1, 2]), ([3], [3]), ([4], [4]), ([5], [5]), ([], []), ([], []), ([7, 8], [7, 8]), ([9], [9]), ([10], [10]), ([11], [11]), ([0, 6, 12], [0, 6, 12]), ([13], [13]), ([], [])])
def impl_reached_with_impl_PairsOf_1.B5 : List Nat := [0, 0, 0, 6, 14, 30, 62, 0, 0, 384, 896, 1920, 3968, 8191, 16383, 0]
theorem impl_reached_with_impl_PairsOf_1.tab5 : rtab .any (opsOf Try.f78 5) = impl_reached_with_impl_PairsOf_1.T5 := by kernel_rfl
theorem impl_reached_with_impl_PairsOf_1.bits5 : waitsOk impl_reached_with_impl_PairsOf_1.T5.2 impl_reached_with_impl_PairsOf_1.B5 = true := by kernel_rfl
theorem impl_reached_with_impl_PairsOf_1.calls (k : Nat) (B0 : Nat) (D : Int) (L : Option Addr) (R : Nat) (x : List Bool) (O : Option Addr) (T : Nat) (y : List (S78)) (B1 : Nat) (E : Int) (P : Option Addr) (U : Nat) (z : List Bool) (Q : Option Addr) (W : Nat) (A : List (S78)) (r : List (List Int)) (w : World) (hr0_1 : Kd.C Kd.bool w L x.length x) (aT : x.length ≤ R) (hr0_2 : Kd.C k78 w O y.length y) (aU : y.length ≤ T) (hbv0 : w.heap[B0]? = some (.cells #[.int .i64 D, .slice L x.length R, .slice O y.length T] 34 (0, 0))) (hr1_1 : Kd.C Kd.bool w P z.length z) (aV : z.length ≤ U) (hr1_2 : Kd.C k78 w Q A.length A) (aW : A.length ≤ W) (hbv1 : w.heap[B1]? = some (.cells #[.int .i64 E, .slice P z.length U, .slice Q A.length W] 34 (0, 0))) (hnv0_1 : B0 ≠ B1) (h : impl_reached_with_impl_PairsOf_1.f k D x y E z A = some r) :
  Calls Try.prog 78 #[.func (.func 87) #[] #[.pointer (some ⟨B0, 0, none⟩), .pointer (some ⟨B1, 0, none⟩)]] w fun e w' => ∃ v0_ : Value, e = .returned (v0_) ∧ Kd.N (Kd.slice 3 (Kd.int .i64)) 39 w' w.heap.size (fun k_ => (w.heap.size ≤ k_)) v0_ r ∧ Below w.heap.size w w' := by
 have bo := Q_ hr0_1
 have bi := Q_ aT
 clear hr0_1 aT
 have bp := Q_ hr0_2
 have bj := Q_ aU
 clear hr0_2 aU
 have bq := Q_ hr1_1
 have bk := Q_ aV
 clear hr1_1 aV
 have br := Q_ hr1_2
 have bl := Q_ aW
 clear hr1_2 aW
 have q := Q_ hbv0
 clear hbv0
 have s := Q_ hbv1
 clear hbv1
 have bt := Q_ hnv0_1
 have bW := Q_ (Ne.symm hnv0_1)
 clear hnv0_1
 have HB := Q_ (Below.refl w.heap.size w)
 have H : (impl_reached_with_impl_PairsOf_1.l0 k (([(([0, 0] : List Int))] : List (List Int))) 0 D x y E z A) = some r := h
 clear h
 obtain ⟨ah, hy177⟩ : ∃ y_ : List Int, y_ = (([0, 0] : List Int)) := ⟨_, rfl⟩
 replace H : (impl_reached_with_impl_PairsOf_1.l0 k (([ah] : List (List Int))) 0 D x y E z A) = some r := hb_ hy177 H
 have aQ := Q_ hy177
 clear hy177
 obtain ⟨bf, hy180⟩ : ∃ y_ : List (List Int), y_ = (([ah] : List (List Int))) := ⟨_, rfl⟩
 replace H : (impl_reached_with_impl_PairsOf_1.l0 k bf 0 D x y E z A) = some r := hb_ hy180 H
 have aR := Q_ hy180
 clear hy180
 have H' := Q_ H
 clear H
 go_enter Try.func78, Try.ntmps78
 go_wp2_with (first | ((with_reducible refine gate_dst (N := 7) rfl ?_); refine Kd.R_lit (Kd.int .i64) _ 3 ?hg (N := 7) ?hd (xs := ([0, 0] : List Int)) (inner := [.int .i64 0, .int .i64 0]) (ok := fun _ => True) (okp := fun _ => True) ?hr ?hp (fun _ hk => hk) trivial (Below.refl _ _) (Nat.le_refl _) (by simp) ?_; (case hd => rfl); (case hg => rfl); (case hr => first | (go_simp; done) | (go_simp; rfl)); (case hp => exact (Reps.one (show Kd.M (Kd.int .i64) _ _ _ 0 [.int .i64 0] from rfl) (Reps.one (show Kd.M (Kd.int .i64) _ _ _ 0 [.int .i64 0] from rfl) (Reps.none _ _)))); intro cj w3 aY hb hg_ hnew_; clear hg_ hnew_; (first | rw [← aQ.1] at aY | (simp only [Int.reduceToNat] at aY; rw [← aQ.1] at aY)); have _ := Q_ (Kd.R_lower (Kd.R_newM (M := fun k_ => (w.heap.size ≤ k_)) aY (below_size (pb_ HB.1)) (fun k_ h_ => h_)) (below_size (pb_ HB.1))); have _ := Q_ (bb_ q.1 hb); have _ := Q_ (bb_ s.1 hb); have _ := Q_ (below_step (pb_ HB.1) hb); clear q s HB; rename_i ai q s HB; clear hb aY; obtain ⟨bz, bE, b5⟩ := Kd.R_slice ai.1; subst b5) | ((with_reducible refine gate_dst (N := 8) rfl ?_); refine Kd.N_lit (Kd.slice 3 (Kd.int .i64)) _ 39 ?hg (N' := 8) ?hd (xs := ([ah] : List (List Int))) (inner := [.slice bz ah.length bE]) (ok := (fun k_ => (w.heap.size ≤ k_) ∧ k_ ≠ B0 ∧ k_ ≠ B1)) (okp := (fun k_ => (w.heap.size ≤ k_) ∧ k_ ≠ B0 ∧ k_ ≠ B1)) ?hr ?hp (fun _ hk => hk) ((show ∀ k_, w3.heap.size ≤ k_ → (fun k_ => (w.heap.size ≤ k_) ∧ k_ ≠ B0 ∧ k_ ≠ B1) k_ from fun k_ hk => ⟨(Nat.le_trans (below_size (pb_ HB.1)) hk), Kd.freshB (g := B0) (o := .cells #[.int .i64 D, .slice L x.length R, .slice O y.length T] 34 (0, 0)) (pk_ q.1) k_ hk, Kd.freshB (g := B1) (o := .cells #[.int .i64 E, .slice P z.length U, .slice Q A.length W] 34 (0, 0)) (pk_ s.1) k_ hk⟩) _ (Nat.le_refl _)) (Below.refl _ _) (Nat.le_refl _) (by simp) ?_; (case hd => rfl); (case hg => rfl); (case hr => first | (go_simp; done) | (go_simp; rfl)); (case hp => exact (Reps.one (show Kd.FK (Kd.slice 3 (Kd.int .i64)) _ _ ah [.slice bz ah.length bE] from (Kd.FK_slice_mk (Kd.R_reads' (Kd.R_mono (ok' := (fun k_ => (w.heap.size ≤ k_) ∧ k_ ≠ B0 ∧ k_ ≠ B1)) (Kd.R_types (Kd.R_types (ai.1) q.1 (by decide)) s.1 (by decide)) (fun k_ hk => ⟨hk.1.1.1, ⟨hk.1.2, hk.2⟩⟩))).2.1 (Kd.R_F (Kd.R_mono (ok' := (fun k_ => (w.heap.size ≤ k_) ∧ k_ ≠ B0 ∧ k_ ≠ B1)) (Kd.R_types (Kd.R_types (ai.1) q.1 (by decide)) s.1 (by decide)) (fun k_ hk => ⟨hk.1.1.1, ⟨hk.1.2, hk.2⟩⟩))))) (Reps.none _ _))); intro ck w6 aZ hb hg_ hnew_; clear hg_ hnew_; (first | rw [← aR.1] at aZ | (simp only [Int.reduceToNat] at aZ; rw [← aR.1] at aZ)); have _ := Q_ (Kd.N_lower aZ (below_size (pb_ HB.1))); have _ := Q_ (bb_ q.1 hb); have _ := Q_ (bb_ s.1 hb); have _ := Q_ (below_step (pb_ HB.1) hb); clear q s HB ai; rename_i bm q s HB; clear hb aZ))
 (try simp only [Act.put, s1_, s2_, s3_])
 go_loopg [3, 4] k (fun kq v3 v4 w' => ∃ (m : List (List Int)) (i : Int), v4 = .int .i64 i ∧ Aside0 (impl_reached_with_impl_PairsOf_1.l0 kq m i D x y E z A = some r) ∧ Aside0 (kq ≤ k) ∧ Aside0 (Kd.N (Kd.slice 3 (Kd.int .i64)) 39 w' w.heap.size (fun k_ => (w.heap.size ≤ k_) ∧ k_ ≠ B0 ∧ k_ ≠ B1) v3 m) ∧ Aside0 (w'.heap[B0]? = some (.cells #[.int .i64 D, (.slice L x.length R), (.slice O y.length T)] 34 (0, 0))) ∧ Aside0 (w'.heap[B1]? = some (.cells #[.int .i64 E, (.slice P z.length U), (.slice Q A.length W)] 34 (0, 0))) ∧ Aside0 (Below w.heap.size w w'))
 case atStart => exact ⟨(bf), (0), el_, H', ⟨Nat.le_refl _⟩, ⟨by (with_reducible repeat (first | apply Kd.N_alloc | apply Kd.N_drewN | apply Kd.N_drew)); exact bm.1⟩, ⟨pk_ q.1⟩, ⟨pk_ s.1⟩, ⟨pb_ HB.1⟩⟩
 clear H'
 obtain ⟨m, i, rfl, HA, aI, j, q, s, HB⟩ := hrel
 rcases gk with _ | k1
 ·exact absurd HA.1 (by simp [impl_reached_with_impl_PairsOf_1.l0])
 have H := HA.1
 clear HA
 simp only [impl_reached_with_impl_PairsOf_1.l0] at H
 by_cases c8 : i < (m.length : Int)
 rotate_left
 ·rw [if_neg c8] at H
  have bC := decide_eq_false c8
  clear c8
  obtain rfl := Option.some.inj H
  obtain ⟨cn, co, b6⟩ := Kd.N_slice j.1
  subst b6
  go_wp2
  go_ret
  exact ⟨_, er_, by (with_reducible repeat (first | apply Kd.N_alloc | apply Kd.N_drewN | apply Kd.N_drew)); exact Kd.N_mono j.1 (fun _ hk => hk.1), pb_ HB.1⟩
 rw [if_pos c8] at H
 have bC := decide_eq_true c8
 clear c8
 by_cases a5 : 0 ≤ i
 rotate_left
 ·rw [if_neg a5] at H
  exact nn_ H
 rw [if_pos a5] at H
 have bY := decide_eq_true a5
 clear a5
 by_cases a6 : 0 < ((rd_L3 m i).length : Int)
 rotate_left
 ·rw [if_neg a6] at H
  exact nn_ H
 rw [if_pos a6] at H
 have bZ := decide_eq_true a6
 have b0 : decide (0 < (rd_L3 m i).length) = true := decide_eq_true (by omega)
 clear a6
 by_cases a7 : 1 < ((rd_L3 m i).length : Int)
 rotate_left
 ·rw [if_neg a7] at H
  exact nn_ H
 rw [if_pos a7] at H
 have b1 := decide_eq_true a7
 have b2 : decide (1 < (rd_L3 m i).length) = true := decide_eq_true (by omega)
 clear a7
 obtain ⟨l, bU, H⟩ := bs_ H
 (try dsimp only at H)
 have H' := Q_ H
 clear H
 obtain ⟨ci, bD, bK⟩ := Kd.N_slice j.1
 subst bK
 try go_wp2
 have _ := Q_ (Kd.N_drew j.1)
 have _ := Q_ (blk_drew q.1)
 have _ := Q_ (blk_drew s.1)
 have _ := Q_ (below_drew1 HB.1)
 clear j q s HB
 rename_i j q s HB
 have aA : 0 ≤ (i : Int) := dt_
 have aE : i < (m.length : Int) := dt_
 obtain ⟨aj, bQ, aw, bF, X, aq, an⟩ := at_L3 (Kd.N_reads' j.1).2.2 i aA aE
 cases bF
 obtain ⟨ce183, hce183, hMe183, ax⟩ := Kd.N_get j.1 [] i aA (by first | exact aE | exact dt_ | (have e_ := (Kd.N_reads' j.1).1; omega))
 obtain ⟨ua183_0, uc183_0, rfl, ul183_0, ge183_0⟩ := Kd.FK_slice_open hMe183
 have hv183_0 := ax 0 _ rfl
 rw [Nat.add_zero, show ((Kd.slice 3 (Kd.int .i64))).sz = 1 from rfl, Nat.mul_one] at hv183_0
 replace hv183_0 := Option.some.inj (hv183_0.symm.trans X)
 injection hv183_0 with hva_ hvn_ hvc_
 rw [hva_] at ge183_0
 rw [hvc_] at ul183_0
 have HL183_0 := Q_ (show Kd.V (Kd.int .i64) 3 _ w.heap.size _ _ (rd_L3 m i) from Kd.V_mk ul183_0 ge183_0)
 clear hva_ hvn_ hvc_ ge183_0 ul183_0
 clear ax hce183
 have F := Q_ an
 have bA := Q_ aq
 clear an aq
 replace aA := eq_true aA
 replace aE := eq_true aE
 have a1 : 0 ≤ (0 : Int) := (by omega)
 have a3 : 0 < ((rd_L3 m i).length : Int) := dt_
 obtain ⟨ag, bG, Y⟩ := Kd.at_int (by repeat (first | (with_reducible exact F.1) | (with_reducible refine Kd.C_alloc ?_ _) | (with_reducible refine Kd.C_drewN ?_ _) | (with_reducible refine Kd.C_drew ?_) | exact F.1)) 0 a1 a3
 cases bG
 have qi184 : (0 < (rd_L3 m i).length) = True := eq_true (by omega)
 (try rw [show ((0 : Int)).toNat = 0 from rfl] at Y)
 (try rw [Addr.add_zero'] at Y)
 replace a1 := eq_true a1
 replace a3 := eq_true a3
 have aC : 0 ≤ (i : Int) := dt_
 have aG : i < (m.length : Int) := dt_
 obtain ⟨bv, bR, bS, bH, Z, ar, ao⟩ := at_L3 (Kd.N_reads' j.1).2.2 i aC aG
 obtain rfl : aj = bv := (by injection bH)
 obtain ⟨ce185, hce185, hMe185, ay⟩ := Kd.N_get j.1 [] i aC (by first | exact aG | exact dt_ | (have e_ := (Kd.N_reads' j.1).1; omega))
 obtain ⟨ua185_0, uc185_0, rfl, ul185_0, ge185_0⟩ := Kd.FK_slice_open hMe185
 have hv185_0 := ay 0 _ rfl
 rw [Nat.add_zero, show ((Kd.slice 3 (Kd.int .i64))).sz = 1 from rfl, Nat.mul_one] at hv185_0
 replace hv185_0 := Option.some.inj (hv185_0.symm.trans Z)
 injection hv185_0 with hva_ hvn_ hvc_
 rw [hva_] at ge185_0
 rw [hvc_] at ul185_0
 have HL185_0 := Q_ (show Kd.V (Kd.int .i64) 3 _ w.heap.size _ _ (rd_L3 m i) from Kd.V_mk ul185_0 ge185_0)
 clear hva_ hvn_ hvc_ ge185_0 ul185_0
 clear ay hce185
 have G := Q_ ao
 have bB := Q_ ar
 clear ao ar
 replace aC := eq_true aC
 replace aG := eq_true aG
 have ea_ := Option.some.inj (X.symm.trans Z)
 injection ea_ with ea_ en_ ec_
 subst ea_
 subst ec_
 clear en_
 have a2 : 0 ≤ (1 : Int) := (by omega)
 have a4 : 1 < ((rd_L3 m i).length : Int) := dt_
 obtain ⟨bX, bI, aa⟩ := Kd.at_int (by repeat (first | (with_reducible exact G.1) | (with_reducible refine Kd.C_alloc ?_ _) | (with_reducible refine Kd.C_drewN ?_ _) | (with_reducible refine Kd.C_drew ?_) | exact G.1)) 1 a2 a4
 cases bI
 (try simp only [show (1 : Int).toNat = 1 from rfl, Nat.reduceMul, Nat.reduceEqDiff, Go.Addr.add, ↓reduceIte] at aa)
 have qi186 : (1 < (rd_L3 m i).length) = True := eq_true (by omega)
 (try rw [show ((1 : Int)).toNat = 1 from rfl] at aa)
 replace a2 := eq_true a2
 replace a4 := eq_true a4
 refine start_ (n := 16) (S := fun w' => w'.cell? (aj.add (i).toNat) = some (.slice (some ag) (rd_L3 m i).length aw) ∧ w'.cell? ag = some (.int .i64 (rd (rd_L3 m i) 0)) ∧ w'.cell? (aj.add (i).toNat) = some (.slice (some ag) (rd_L3 m i).length aw) ∧ w'.cell? ⟨ag.block, ag.off + 1, none⟩ = some (.int .i64 (rd (rd_L3 m i) 1))) (ds := []) (tf_ 0 16) (by kernel_rfl) rfl rfl ⟨X, Y, Z, aa⟩ (fun hHeld => ?_); refine with_tabW impl_reached_with_impl_PairsOf_1.tab5 impl_reached_with_impl_PairsOf_1.bits5 (fun HT_ HW_ => ?_)
 generalize wr.drew = cq at j q s HB HL183_0 HL185_0 F G X Y Z aa hHeld ⊢
 refine pu1_ 0 15 16 1 ?_
 refine pu1_ 1 16 16 3 ?_
 refine pu1_ 2 17 16 7 ?_
 refine pu1_ 3 18 16 15 ?_
 refine pu1_ 7 22 16 143 ?_
 refine pu1_ 8 23 16 399 ?_
 refine pu1_ 9 24 16 911 ?_
 refine pu1_ 15 30 16 33679 ?_
 refine ta1_ 4 19 16 33695 hHeld ?_
 refine pu1_ 5 20 16 33727 ?_
 refine ta1_ 6 21 16 33791 hHeld ?_
 refine ta1_ 10 25 16 34815 hHeld ?_
 refine pu1_ 11 26 16 36863 ?_
 refine ta1_ 12 27 16 40959 hHeld ?_
 refine on_ 13 (some 28) (tm_ 16 49151) HT_ (fun K hK => ?_)
 refine gv_ Try.func87 (by kernel_rfl) rfl #[.int .i64 (rd (rd_L3 m i) 0), .int .i64 (rd (rd_L3 m i) 1), .pointer (some ⟨B0, 0, none⟩), .pointer (some ⟨B1, 0, none⟩)] (by rfl) rfl rfl rfl (by first | rfl | (simp only [List.map_toArray, List.map_cons, List.map_nil, List.append_toArray, List.cons_append, List.nil_append]; first | done | rfl)) ?_
 with_reducible refine (impl_PairsOf_1.calls k1 (rd (rd_L3 m i) 0) (rd (rd_L3 m i) 1) _ D L R x O T y _ E P U z Q W A l _ (cb_ bo HB) bi.1 (cb_ bp HB) bj.1 ?side5 (cb_ bq HB) bk.1 (cb_ br HB) bl.1 ?side10 bt.1 bU.1).mono ?_
 (case side5 => exact pk_ q.1)
 (case side10 => exact pk_ s.1)
 rintro e cr ⟨cl, rfl, aX, hb⟩
 have HS0_ := (hb.cell (World.block_lt_of_cell? _ _ (hHeld.1))).trans (hHeld.1)
 have HS1_ := (hb.cell (World.block_lt_of_cell? _ _ (hHeld.2.1))).trans (hHeld.2.1)
 have HS2_ := (hb.cell (World.block_lt_of_cell? _ _ (hHeld.2.2.1))).trans (hHeld.2.2.1)
 have HS3_ := (hb.cell (World.block_lt_of_cell? _ _ (hHeld.2.2.2))).trans (hHeld.2.2.2)
 refine ⟨_, rfl, ?_⟩
 have _ := Q_ (Kd.N_elder' (by (with_reducible repeat (first | apply Kd.N_alloc | apply Kd.N_drewN | apply Kd.N_drew)); exact j.1) (Kd.S_base aX) hb)
 have _ := Q_ (Kd.V_elder' (by (with_reducible repeat (first | apply Kd.V_alloc | apply Kd.V_drewN | apply Kd.V_drew)); exact HL183_0.1) (Kd.S_base aX) hb)
 have _ := Q_ (Kd.V_elder' (by (with_reducible repeat (first | apply Kd.V_alloc | apply Kd.V_drewN | apply Kd.V_drew)); exact HL185_0.1) (Kd.S_base aX) hb)
 have _ := Q_ (Kd.N_lower (Kd.N_mono (ok' := fun k_ => (w.heap.size ≤ k_) ∧ some k_ ≠ (.slice (some aj) m.length bD : Value).ownBlock ∧ k_ ≠ B0 ∧ k_ ≠ B1) (Kd.S_N (Kd.S_bound aX)) (fun k_ hk_ => ⟨(Nat.le_trans (below_size (pb_ HB.1)) hk_.2.1), (Kd.fresh' (Kd.N_lt (by (with_reducible repeat (first | apply Kd.N_alloc | apply Kd.N_drewN | apply Kd.N_drew)); exact j.1)) k_ hk_.2.1), (Kd.freshB (g := B0) (o := .cells #[.int .i64 D, .slice L x.length R, .slice O y.length T] 34 (0, 0)) (pk_ q.1) k_ hk_.2.1), (Kd.freshB (g := B1) (o := .cells #[.int .i64 E, .slice P z.length U, .slice Q A.length W] 34 (0, 0)) (pk_ s.1) k_ hk_.2.1)⟩)) (below_size (pb_ HB.1)))
 have _ := Q_ (bb_ q.1 hb)
 have _ := Q_ (bb_ s.1 hb)
 have _ := Q_ (Kd.C_below (by repeat (first | (with_reducible exact F.1) | (with_reducible refine Kd.C_alloc ?_ _) | (with_reducible refine Kd.C_drewN ?_ _) | (with_reducible refine Kd.C_drew ?_) | exact F.1)) hb)
 have _ := Q_ (Kd.C_below (by repeat (first | (with_reducible exact G.1) | (with_reducible refine Kd.C_alloc ?_ _) | (with_reducible refine Kd.C_drewN ?_ _) | (with_reducible refine Kd.C_drew ?_) | exact G.1)) hb)
 have _ := Q_ (below_step (pb_ HB.1) hb)
 clear j HL183_0 HL185_0 q s F G HB
 rename_i j HL183_0 HL185_0 aN q s F G HB
 (try clear hb aX)
 obtain ⟨bc, ad, bd⟩ := Kd.N_slice aN.1
 (first | subst bd | (injection bd with f1_ f2_ f3_; have f4_ := f1_.symm; have f5_ := f3_.symm; clear f1_ f2_ f3_; subst f4_; subst f5_))
 refine hK.out _ _ ⟨HS0_, HS1_, HS2_, HS3_⟩ (fun hHeld => ?_)
 clear hK K
 refine no_ (some 28) ?_
 refine pu1_ 14 29 16 65535 ?_
 refine done_ (done_of HT_.1 (by kernel_rfl)) ?_
 try go_wp2
 go_loopg [3, 30] k1 (fun kq v3 cf w' => ∃ (I : List (List Int)) (d : Int), cf = .int .i64 d ∧ Aside0 (impl_reached_with_impl_PairsOf_1.l1 kq I i l (l.length : Int) d D x y E z A = some r) ∧ Aside0 (kq ≤ k1) ∧ Aside0 (Kd.N (Kd.slice 3 (Kd.int .i64)) 39 w' w.heap.size (fun k_ => (w.heap.size ≤ k_) ∧ some k_ ≠ ((.slice bc l.length ad) : Value).ownBlock ∧ k_ ≠ B0 ∧ k_ ≠ B1) v3 I) ∧ Aside0 (Kd.N (Kd.slice 3 (Kd.int .i64)) 39 w' w.heap.size (fun k_ => (w.heap.size ≤ k_) ∧ some k_ ≠ (v3 : Value).ownBlock ∧ k_ ≠ B0 ∧ k_ ≠ B1) (.slice bc l.length ad) l) ∧ Aside0 (w'.heap[B0]? = some (.cells #[.int .i64 D, (.slice L x.length R), (.slice O y.length T)] 34 (0, 0))) ∧ Aside0 (w'.heap[B1]? = some (.cells #[.int .i64 E, (.slice P z.length U), (.slice Q A.length W)] 34 (0, 0))) ∧ Aside0 (Below w.heap.size w w'))
 case atStart => exact ⟨(m), (0), el_, H', ⟨Nat.le_refl _⟩, ⟨by (with_reducible repeat (first | apply Kd.N_alloc | apply Kd.N_drewN | apply Kd.N_drew)); exact Kd.N_mono j.1 (fun _ hk => ⟨hk.1.1, ⟨hk.2, ⟨hk.1.2.1, hk.1.2.2⟩⟩⟩)⟩, ⟨by (with_reducible repeat (first | apply Kd.N_alloc | apply Kd.N_drewN | apply Kd.N_drew)); exact aN.1⟩, ⟨pk_ q.1⟩, ⟨pk_ s.1⟩, ⟨pb_ HB.1⟩⟩
 clear H'
 obtain ⟨I, d, rfl, HA, aJ, j, v, q, s, HB⟩ := hrel
 rcases gk with _ | k2
 ·exact absurd HA.1 (by simp [impl_reached_with_impl_PairsOf_1.l1])
 have H := HA.1
 clear HA
 simp only [impl_reached_with_impl_PairsOf_1.l1] at H
 by_cases aK : d < (l.length : Int)
 rotate_left
 ·rw [if_neg aK] at H
  have bw := decide_eq_false aK
  clear aK
  have H' := Q_ H
  clear H
  go_wp2
  go_roundg k2
  case measure => have := aI.1; have := aJ.1; omega
  case rel => exact ⟨(I), (wrap64 (i + 1)), el_, H', ⟨by have := aI.1; have := aJ.1; omega⟩, ⟨by (with_reducible repeat (first | apply Kd.N_alloc | apply Kd.N_drewN | apply Kd.N_drew)); exact Kd.N_mono j.1 (fun _ hk => ⟨hk.1, ⟨hk.2.2.1, hk.2.2.2⟩⟩)⟩, ⟨pk_ q.1⟩, ⟨pk_ s.1⟩, ⟨pb_ HB.1⟩⟩
 rw [if_pos aK] at H
 have bw := decide_eq_true aK
 clear aK
 by_cases a8 : 0 ≤ d
 rotate_left
 ·rw [if_neg a8] at H
  exact nn_ H
 rw [if_pos a8] at H
 have b3 := decide_eq_true a8
 clear a8
 by_cases a9 : d < (l.length : Int)
 rotate_left
 ·rw [if_neg a9] at H
  exact nn_ H
 rw [if_pos a9] at H
 have b4 := decide_eq_true a9
 clear a9
 have HS_ := Q_ H
 clear H
 have aD : 0 ≤ (d : Int) := dt_
 have aH : d < (l.length : Int) := dt_
 obtain ⟨ac, t, u, bJ, a0, au, ap⟩ := at_L3 (Kd.N_reads' v.1).2.2 d aD aH
 cases bJ
 obtain ⟨ce190, hce190, hMe190, az⟩ := Kd.N_get v.1 [] d aD (by first | exact aH | exact dt_ | (have e_ := (Kd.N_reads' v.1).1; omega))
 obtain ⟨ua190_0, uc190_0, rfl, ul190_0, ge190_0⟩ := Kd.FK_slice_open hMe190
 have hv190_0 := az 0 _ rfl
 rw [Nat.add_zero, show ((Kd.slice 3 (Kd.int .i64))).sz = 1 from rfl, Nat.mul_one] at hv190_0
 replace hv190_0 := Option.some.inj (hv190_0.symm.trans a0)
 injection hv190_0 with hva_ hvn_ hvc_
 rw [hva_] at ge190_0
 rw [hvc_] at ul190_0
 have HL190_0 := Q_ (show Kd.V (Kd.int .i64) 3 _ w.heap.size _ _ (rd_L3 l d) from Kd.V_mk ul190_0 ge190_0)
 clear hva_ hvn_ hvc_ ge190_0 ul190_0
 clear az hce190
 have J := Q_ ap
 have aM := Q_ au
 clear ap au
 replace aD := eq_true aD
 replace aH := eq_true aH
 go_upto_region 8 with (first | ((with_reducible refine gate_dst (N := 6) rfl ?_); refine bx_ 6 #[.slice none 0 0] 39 ?_; intro a hg cg hbox hb; have _ := Q_ (Kd.N_below (Kd.N_elderB (by (with_reducible repeat (first | apply Kd.N_alloc | apply Kd.N_drewN | apply Kd.N_drew)); exact j.1) a (Nat.le_of_eq hg.symm)) hb); have _ := Q_ (Kd.N_below (Kd.N_elderB (by (with_reducible repeat (first | apply Kd.N_alloc | apply Kd.N_drewN | apply Kd.N_drew)); exact v.1) a (Nat.le_of_eq hg.symm)) hb); have _ := Q_ (Kd.V_below (Kd.V_elderB (by (with_reducible repeat (first | apply Kd.V_alloc | apply Kd.V_drewN | apply Kd.V_drew)); exact HL190_0.1) a (Nat.le_of_eq hg.symm)) hb); have _ := Q_ (bb_ q.1 hb); have _ := Q_ (bb_ s.1 hb); have _ := Q_ (Kd.C_below (by repeat (first | (with_reducible exact J.1) | (with_reducible refine Kd.C_alloc ?_ _) | (with_reducible refine Kd.C_drewN ?_ _) | (with_reducible refine Kd.C_drew ?_) | exact J.1)) hb); have _ := Q_ (below_step (pb_ HB.1) hb); have B := Q_ (hbox); have bh := Q_ (gw_ (w := w) hg (pb_ HB.1)); have ab := bh; have ae := Q_ ((by rw [hg]; exact Nat.ne_of_lt (blk_lt (pk_ q.1)) : B0 ≠ a)); have ak := Q_ ae.1.symm; have af := Q_ ((by rw [hg]; exact Nat.ne_of_lt (blk_lt (pk_ s.1)) : B1 ≠ a)); have al := Q_ af.1.symm; clear j v HL190_0 q s J HB; rename_i j v HL190_0 q s J HB; clear hb hbox hg; have b7 := ak.1; have cb := ae.1; have b8 := al.1; have cc := af.1; have bM : cg.cell? ⟨a, 0, none⟩ = some (.slice none 0 0) := (blk_cell B.1 0).trans rfl; have bO := blk_frozen B.1 0))
 (try simp only [Act.put, s1_, s2_, s3_])
 have H := HS_.1
 clear HS_
 obtain ⟨be, bV, H⟩ := bs_ H
 (try dsimp only at H)
 have HS_ := Q_ H
 clear H
 obtain ⟨av, am, bL⟩ := Kd.N_slice j.1
 subst bL
 go_upto_if 37 with (first | (go_at_call 91; (with_reducible refine (slices_ContainsFunc_int_int_with_impl_reached_1.calls k2 _ _ I _ t u (rd_L3 l d) be _ ?side1 ?side2 ?side3 ?side4 ?side5 bV.1).mono ?_); (case side1 => refine (Kd.N_reads' (e := 39) (base := w.heap.size) (ok := fun k_ => (((w.heap.size ≤ k_) ∧ (some k_ ≠ (.slice (some ac) l.length ad : Value).ownBlock ∧ (k_ ≠ B0 ∧ k_ ≠ B1))) ∧ k_ ≠ a)) (n := I.length) (c := am) ?_).2.2; exact (by (with_reducible repeat (first | apply Kd.N_alloc | apply Kd.N_drewN | apply Kd.N_drew)); exact (Kd.N_mono (Kd.N_far (p := ⟨a, 0, none⟩) (Kd.N_mono j.1 (fun k_ hk => (⟨hk, hk.2⟩ : _ ∧ k_ ≠ a))) (fun _ hk => hk.2) (.slice t (rd_L3 l d).length u)) (fun _ h_ => h_.1)))); (case side2 => exact (Kd.N_reads' j.1).2.1); (case side3 => repeat (first | exact ((Kd.V_reads' (by (with_reducible repeat (first | apply Kd.V_alloc | apply Kd.V_drewN | apply Kd.V_drew)); exact (Kd.V_mono (Kd.V_far (p := ⟨a, 0, none⟩) (Kd.V_mono HL190_0.1 (fun k_ hk => (⟨hk, hk.2⟩ : _ ∧ k_ ≠ a))) (fun _ hk => hk.2) (.slice t (rd_L3 l d).length u)) (fun _ h_ => h_.1)))).2.2) | (with_reducible refine Kd.C_alloc ?_ _) | (with_reducible refine Kd.C_drewN ?_ _) | (with_reducible refine Kd.C_drew ?_))); (case side4 => exact aM.1); (case side5 => (with_reducible repeat (first | refine blk_drewN ?_ _ | refine blk_drew ?_ | refine blk_alloc ?_ _)); refine blk_put (cs := #[.slice none 0 0]) ?_ 0 _ rfl; exact pk_ B.1); rintro e ch ⟨rfl, hb⟩; have _ := Q_ (Kd.N_below (by (with_reducible repeat (first | apply Kd.N_alloc | apply Kd.N_drewN | apply Kd.N_drew)); exact (Kd.N_mono (Kd.N_far (p := ⟨a, 0, none⟩) (Kd.N_mono j.1 (fun k_ hk => (⟨hk, hk.2⟩ : _ ∧ k_ ≠ a))) (fun _ hk => hk.2) (.slice t (rd_L3 l d).length u)) (fun _ h_ => h_.1))) hb); have _ := Q_ (Kd.N_below (by (with_reducible repeat (first | apply Kd.N_alloc | apply Kd.N_drewN | apply Kd.N_drew)); exact (Kd.N_mono (Kd.N_far (p := ⟨a, 0, none⟩) (Kd.N_mono v.1 (fun k_ hk => (⟨hk, hk.2⟩ : _ ∧ k_ ≠ a))) (fun _ hk => hk.2) (.slice t (rd_L3 l d).length u)) (fun _ h_ => h_.1))) hb); have _ := Q_ (Kd.V_below (by (with_reducible repeat (first | apply Kd.V_alloc | apply Kd.V_drewN | apply Kd.V_drew)); exact (Kd.V_mono (Kd.V_far (p := ⟨a, 0, none⟩) (Kd.V_mono HL190_0.1 (fun k_ hk => (⟨hk, hk.2⟩ : _ ∧ k_ ≠ a))) (fun _ hk => hk.2) (.slice t (rd_L3 l d).length u)) (fun _ h_ => h_.1))) hb); have _ := Q_ (blk_below (g := B0) (o := .cells #[.int .i64 D, .slice L x.length R, .slice O y.length T] 34 (0, 0)) (pp_ q.1) hb); have _ := Q_ (blk_below (g := B1) (o := .cells #[.int .i64 E, .slice P z.length U, .slice Q A.length W] 34 (0, 0)) (pp_ s.1) hb); have _ := Q_ (Kd.C_below ((Kd.V_reads' (by (with_reducible repeat (first | apply Kd.V_alloc | apply Kd.V_drewN | apply Kd.V_drew)); exact (Kd.V_mono (Kd.V_far (p := ⟨a, 0, none⟩) (Kd.V_mono HL190_0.1 (fun k_ hk => (⟨hk, hk.2⟩ : _ ∧ k_ ≠ a))) (fun _ hk => hk.2) (.slice t (rd_L3 l d).length u)) (fun _ h_ => h_.1)))).2.2) hb); have _ := Q_ (blk_below (g := a) (o := .cells #[.slice t (rd_L3 l d).length u] 39 (0, 0)) (pp_ B.1) hb); have _ := Q_ (below_step (pb1_ HB.1 ab.1) hb); clear j v HL190_0 q s J B HB; rename_i j v HL190_0 q s J B HB; (try clear hb)))
 (try simp only [Act.put, s1_, s2_, s3_])
 have H := HS_.1
 clear HS_
 by_cases ba : be = true
 ·subst ba
  rw [if_pos rfl] at H
  have H' := Q_ H
  clear H
  go_wp2
  go_roundg k2
  case measure => have := aI.1; have := aJ.1; omega
  case rel => exact ⟨(I), (wrap64 (d + 1)), el_, H', ⟨by have := aI.1; have := aJ.1; omega⟩, ⟨by (with_reducible repeat (first | apply Kd.N_alloc | apply Kd.N_drewN | apply Kd.N_drew)); exact Kd.N_mono j.1 (fun _ hk => ⟨hk.1.1, ⟨hk.1.2.1, ⟨hk.1.2.2.1, hk.1.2.2.2⟩⟩⟩)⟩, ⟨by (with_reducible repeat (first | apply Kd.N_alloc | apply Kd.N_drewN | apply Kd.N_drew)); exact Kd.N_mono v.1 (fun _ hk => ⟨hk.1.1, ⟨hk.1.2.1, ⟨hk.1.2.2.1, hk.1.2.2.2⟩⟩⟩)⟩, ⟨pk_ q.1⟩, ⟨pk_ s.1⟩, ⟨pb1_ HB.1 ab.1⟩⟩
 replace ba := bf_ ba
 subst ba
 rw [if_neg ff_] at H
 by_cases bb : I.length < 5864062014805
 rotate_left
 ·rw [if_neg bb] at H
  exact nn_ H
 rw [if_pos bb] at H
 have bs := Q_ bb
 clear bb
 obtain ⟨bg, hy193⟩ : ∃ y_ : List (List Int), y_ = (I ++ [rd_L3 l d]) := ⟨_, rfl⟩
 replace H : (impl_reached_with_impl_PairsOf_1.l1 k2 bg i l (l.length : Int) (wrap64 (d + 1)) D x y E z A) = some r := hb_ hy193 H
 have bu := Q_ hy193
 clear hy193
 have H' := Q_ H
 clear H
 have b9 := ak.1
 have cd := ae.1
 have ca := al.1
 have ce := af.1
 have bN : ch.cell? ⟨a, 0, none⟩ = some (.slice t (rd_L3 l d).length u) := (blk_cell B.1 0).trans rfl
 have bP := blk_frozen B.1 0
 go_wp2_with (first | ((with_reducible refine gate_builtin (b := .append) (xs := #[.tmp 38, .tmp 40]) rfl ?_); at_builtin; refine Kd.N_append (Kd.slice 3 (Kd.int .i64)) (w0 := w) w.heap.size rfl (.tmp 38) (.tmp 40) 83 39 (.slice none 0 0) 24 rfl Try.underlying83 info39 rfl (by decide) (by omega) (.slice av I.length am) I (rd_L3 l d) [.slice t (rd_L3 l d).length u] (fun k_ => (w.heap.size ≤ k_) ∧ some k_ ≠ (.slice (some ac) l.length ad : Value).ownBlock ∧ k_ ≠ B0 ∧ k_ ≠ B1 ∧ k_ ≠ a) (fun k_ => ((fun k_ => (w.heap.size ≤ k_) ∧ some k_ ≠ (.slice (some ac) l.length ad : Value).ownBlock ∧ k_ ≠ B0 ∧ k_ ≠ B1 ∧ k_ ≠ a)) k_ ∧ some k_ ≠ (.slice av I.length am : Value).ownBlock) rfl rfl ?aP (fun _ hk => hk) ?aF ?aO ?aB ?aS ?aL ?_; (case aP => exact (Kd.FK_slice_mk (Kd.V_reads' (Kd.V_mono (ok' := (fun k_ => ((fun k_ => (w.heap.size ≤ k_) ∧ some k_ ≠ (.slice (some ac) l.length ad : Value).ownBlock ∧ k_ ≠ B0 ∧ k_ ≠ B1 ∧ k_ ≠ a)) k_ ∧ some k_ ≠ (.slice av I.length am : Value).ownBlock)) (HL190_0.1) (fun k_ hk => ⟨⟨hk.1.1.1, ⟨hk.1.2, ⟨hk.1.1.2.2.1, ⟨hk.1.1.2.2.2, hk.2⟩⟩⟩⟩, hk.1.1.2.1⟩))).2.1 (Kd.V_F (Kd.V_mono (ok' := (fun k_ => ((fun k_ => (w.heap.size ≤ k_) ∧ some k_ ≠ (.slice (some ac) l.length ad : Value).ownBlock ∧ k_ ≠ B0 ∧ k_ ≠ B1 ∧ k_ ≠ a)) k_ ∧ some k_ ≠ (.slice av I.length am : Value).ownBlock)) (HL190_0.1) (fun k_ hk => ⟨⟨hk.1.1.1, ⟨hk.1.2, ⟨hk.1.1.2.2.1, ⟨hk.1.1.2.2.2, hk.2⟩⟩⟩⟩, hk.1.1.2.1⟩))))); (case aB => exact (pb1_ HB.1 ab.1)); (case aF => exact (fun k_ hk => ⟨(Nat.le_trans (below_size (pb1_ HB.1 ab.1)) hk), Kd.fresh' (Kd.N_lt (by (with_reducible repeat (first | apply Kd.N_alloc | apply Kd.N_drewN | apply Kd.N_drew)); exact v.1)) k_ hk, Kd.freshB (g := B0) (o := .cells #[.int .i64 D, .slice L x.length R, .slice O y.length T] 34 (0, 0)) (pk_ q.1) k_ hk, Kd.freshB (g := B1) (o := .cells #[.int .i64 E, .slice P z.length U, .slice Q A.length W] 34 (0, 0)) (pk_ s.1) k_ hk, Kd.freshB (g := a) (o := .cells #[.slice t (rd_L3 l d).length u] 39 (0, 0)) (pk_ B.1) k_ hk⟩)); (case aO => exact (by (with_reducible repeat (first | apply Kd.N_alloc | apply Kd.N_drewN | apply Kd.N_drew)); exact Kd.N_mono j.1 (fun _ hk => ⟨hk.1.1, ⟨hk.1.2.1, ⟨hk.1.2.2.1, ⟨hk.1.2.2.2, hk.2⟩⟩⟩⟩))); (case aS => exact (below_size (pb1_ HB.1 ab.1))); (case aL => have := bs.1; omega); intro cm cu ho hb hg hat; rw [← bu.1] at ho; have _ := Q_ (Kd.N_afterv (ok := (fun k_ => (w.heap.size ≤ k_) ∧ k_ ≠ B0 ∧ k_ ≠ B1 ∧ k_ ≠ a)) (by (with_reducible repeat (first | apply Kd.N_alloc | apply Kd.N_drewN | apply Kd.N_drew)); exact Kd.N_mono v.1 (fun _ hk => ⟨⟨hk.1.1, ⟨hk.1.2.2.1, ⟨hk.1.2.2.2, hk.2⟩⟩⟩, hk.1.2.1⟩)) hg hat); have _ := Q_ (blk_grown (g := B0) (o := .cells #[.int .i64 D, .slice L x.length R, .slice O y.length T] 34 (0, 0)) (pk_ q.1) hg (Kd.N_ne j.1 q.1 (by decide))); have _ := Q_ (blk_grown (g := B1) (o := .cells #[.int .i64 E, .slice P z.length U, .slice Q A.length W] 34 (0, 0)) (pk_ s.1) hg (Kd.N_ne j.1 s.1 (by decide))); have _ := Q_ (Kd.V_afterv (ok := (fun k_ => (w.heap.size ≤ k_) ∧ some k_ ≠ (.slice (some ac) l.length ad : Value).ownBlock ∧ k_ ≠ B0 ∧ k_ ≠ B1 ∧ k_ ≠ a)) (by (with_reducible repeat (first | apply Kd.V_alloc | apply Kd.V_drewN | apply Kd.V_drew)); exact Kd.V_mono HL190_0.1 (fun _ hk => ⟨⟨hk.1.1.1, ⟨hk.1.2, ⟨hk.1.1.2.2.1, ⟨hk.1.1.2.2.2, hk.2⟩⟩⟩⟩, hk.1.1.2.1⟩)) hg hat); have _ := Q_ (blk_grown (g := a) (o := .cells #[.slice t (rd_L3 l d).length u] 39 (0, 0)) (pk_ B.1) hg (Kd.N_away j.1 (fun _ hk => hk.2))); have _ := Q_ (hb); have bn := Q_ (ho); clear v q s HL190_0 B HB j; rename_i v q s HL190_0 B HB; clear ho hb hg hat))
 go_roundg k2
 case measure => have := aI.1; have := aJ.1; omega
 case rel => exact ⟨(bg), (wrap64 (d + 1)), el_, H', ⟨by have := aI.1; have := aJ.1; omega⟩, ⟨by (with_reducible repeat (first | apply Kd.N_alloc | apply Kd.N_drewN | apply Kd.N_drew)); exact Kd.N_mono bn.1 (fun _ hk => ⟨hk.1, ⟨hk.2.1, ⟨hk.2.2.1, hk.2.2.2.1⟩⟩⟩)⟩, ⟨by (with_reducible repeat (first | apply Kd.N_alloc | apply Kd.N_drewN | apply Kd.N_drew)); exact Kd.N_mono v.1 (fun _ hk => ⟨hk.1.1, ⟨hk.2, ⟨hk.1.2.1, hk.1.2.2.1⟩⟩⟩)⟩, ⟨pk_ q.1⟩, ⟨pk_ s.1⟩, ⟨pb1_ HB.1 ab.1⟩⟩

/-! ### impl_PairsOf: function 73 -/
def impl_PairsOf.f (k : Nat) (a : Int) (c : List Bool) (d : List (S78)) (b : Int) (e : List Bool) (g : List (S78)) : Option ((List (List Int))) := (impl_IsMachine.f k a c d).bind fun h => (if h = true then ((impl_IsMachine.f k b e g).bind fun i => (if i = true then ((impl_reached_with_impl_PairsOf_1.f k a c d b e g).bind fun j => (some j)) else (some ([] : List (List Int))))) else (some ([] : List (List Int))))
theorem impl_PairsOf.mono : ∀ a b c d e g k, LeO (impl_PairsOf.f k a b c d e g) (impl_PairsOf.f (k + 1) a b c d e g) := by
 intro a b c d e g k
 unfold impl_PairsOf.f
 exact mo2_ impl_IsMachine.mono impl_reached_with_impl_PairsOf_1.mono
theorem impl_PairsOf.calls (k : Nat) (m : Int) (s : Option Addr) (v : Nat) (d : List Bool) (t : Option Addr) (x : Nat) (i : List (S78)) (q : Int) (y : Option Addr) (A : Nat) (n : List Bool) (z : Option Addr) (B : Nat) (p : List (S78)) (r : List (List Int)) (w : World) (hr0_1 : Kd.C Kd.bool w s d.length d) (R : d.length ≤ v) (hr0_2 : Kd.C k78 w t i.length i) (S : i.length ≤ x) (hr1_1 : Kd.C Kd.bool w y n.length n) (T : n.length ≤ A) (hr1_2 : Kd.C k78 w z p.length p) (U : p.length ≤ B) (h : impl_PairsOf.f k m d i q n p = some r) :
  Calls Try.prog 73 #[.agg #[.int .i64 m, .slice s d.length v, .slice t i.length x], .agg #[.int .i64 q, .slice y n.length A, .slice z p.length B]] w fun e w' => ∃ v0_ : Value, e = .returned (v0_) ∧ Kd.N (Kd.slice 3 (Kd.int .i64)) 39 w' w.heap.size (fun k_ => (w.heap.size ≤ k_)) v0_ r ∧ Below w.heap.size w w' := by
 have hu34 := Try.underlying34
 have F := Q_ hr0_1
 have D := Q_ R
 clear hr0_1 R
 have G := Q_ hr0_2
 have E := Q_ S
 clear hr0_2 S
 have M := Q_ hr1_1
 have K := Q_ T
 clear hr1_1 T
 have O := Q_ hr1_2
 have L := Q_ U
 clear hr1_2 U
 have HB := Q_ (Below.refl w.heap.size w)
 have H : ((impl_IsMachine.f k m d i).bind fun V => (if V = true then ((impl_IsMachine.f k q n p).bind fun I => (if I = true then ((impl_reached_with_impl_PairsOf_1.f k m d i q n p).bind fun J => (some J)) else (some ([] : List (List Int))))) else (some ([] : List (List Int))))) = some r := h
 clear h
 have HS_ := Q_ H
 clear H
 go_enter Try.func73, Try.ntmps73
 go_upto_region 1 with (first | ((with_reducible refine gate_dst (N := 2) rfl ?_); refine bx_ 2 #[.int .i64 m, .slice s d.length v, .slice t i.length x] 34 ?_; intro P hg w3 hbox hb; have _ := Q_ (below_step (pb_ HB.1) hb); have a := Q_ (hbox); have X := Q_ (gw_ (w := w) hg (pb_ HB.1)); have c := X; clear HB; rename_i HB; clear hb hbox hg) | ((with_reducible refine gate_dst (N := 3) rfl ?_); refine bx_ 3 #[.int .i64 q, .slice y n.length A, .slice z p.length B] 34 ?_; intro Q hg w4 hbox hb; have _ := Q_ (bb_ a.1 hb); have _ := Q_ (below_step (pb1_ HB.1 c.1) hb); have b := Q_ (hbox); have Y := Q_ (gw_ (w := w) hg (pb1_ HB.1 c.1)); have j := Y; have l := Q_ (nb_ hg a); have u := Q_ l.1.symm; clear a HB; rename_i a HB; clear hb hbox hg))
 (try simp only [Act.put, s1_, s2_, s3_])
 have H := HS_.1
 clear HS_
 obtain ⟨V, A5, H⟩ := bs_ H
 (try dsimp only at H)
 by_cases c6 : V = true
 rotate_left
 ·replace c6 := bf_ c6
  subst c6
  rw [if_neg ff_] at H
  obtain rfl := Option.some.inj H
  have ak := l.1
  have al := u.1
  have aj := bc3_ a.1
  go_wp2_with (first | ((with_reducible refine gate_callee (f := 55) rfl ?_); refine gl_ (some 6) Try.func55 #[.agg #[.int .i64 m, .slice s d.length v, .slice t i.length x]] ?_; (with_reducible refine (impl_IsMachine.calls k m _ _ d _ _ i false _ (cb_ F HB) D.1 (cb_ G HB) E.1 A5.1).mono ?_); rintro e w9 ⟨rfl, hb⟩; refine ⟨_, rfl, ?_⟩; have _ := Q_ (bb_ a.1 hb); have _ := Q_ (bb_ b.1 hb); have _ := Q_ (below_step (pb2_ HB.1 c.1 j.1) hb); clear a b HB; rename_i a b HB; (try clear hb)))
  go_ret
  exact ⟨_, er_, by first | exact Kd.S_nil _ _ _ _ _ | exact Kd.N_nil _ _ _ _ _ | exact Kd.V_nil _ _ _ _ _ | exact Kd.Q_nil _ _ _ _ _ | exact Kd.R_nil _ _ _ _ _, pb2_ HB.1 c.1 j.1⟩
 subst c6
 rw [if_pos rfl] at H
 obtain ⟨I, ac, H⟩ := bs_ H
 (try dsimp only at H)
 have HS_ := Q_ H
 clear H
 have ag := l.1
 have ah := u.1
 have ae := bc3_ a.1
 go_upto_if 12 with (first | ((with_reducible refine gate_callee (f := 55) rfl ?_); refine gl_ (some 6) Try.func55 #[.agg #[.int .i64 m, .slice s d.length v, .slice t i.length x]] ?_; (with_reducible refine (impl_IsMachine.calls k m _ _ d _ _ i true _ (cb_ F HB) D.1 (cb_ G HB) E.1 A5.1).mono ?_); rintro e an ⟨rfl, hb⟩; refine ⟨_, rfl, ?_⟩; have _ := Q_ (bb_ a.1 hb); have _ := Q_ (bb_ b.1 hb); have _ := Q_ (below_step (pb2_ HB.1 c.1 j.1) hb); clear a b HB; rename_i a b HB; (try clear hb); have af := bc3_ b.1) | (go_at_call 55; (with_reducible refine (impl_IsMachine.calls k q _ _ n _ _ p I _ (cb_ M HB) K.1 (cb_ O HB) L.1 ac.1).mono ?_); rintro e ao ⟨rfl, hb⟩; have _ := Q_ (bb_ a.1 hb); have _ := Q_ (bb_ b.1 hb); have _ := Q_ (below_step (pb2_ HB.1 c.1 j.1) hb); clear a b HB; rename_i a b HB; (try clear hb)))
 (try simp only [Act.put, s1_, s2_, s3_])
 have H := HS_.1
 clear HS_
 by_cases W : I = true
 rotate_left
 ·replace W := bf_ W
  subst W
  rw [if_neg ff_] at H
  obtain rfl := Option.some.inj H
  go_wp2
  go_ret
  exact ⟨_, er_, by first | exact Kd.S_nil _ _ _ _ _ | exact Kd.N_nil _ _ _ _ _ | exact Kd.V_nil _ _ _ _ _ | exact Kd.Q_nil _ _ _ _ _ | exact Kd.R_nil _ _ _ _ _, pb2_ HB.1 c.1 j.1⟩
 subst W
 rw [if_pos rfl] at H
 obtain ⟨J, ad, H⟩ := bs_ H
 replace H : (some J) = some r := H
 obtain rfl := Option.some.inj H
 go_wp2_with (first | (go_at_call 78; (with_reducible refine (impl_reached_with_impl_PairsOf_1.calls k _ m s v d t x i _ q y A n z B p J _ (cb_ F HB) D.1 (cb_ G HB) E.1 ?side5 (cb_ M HB) K.1 (cb_ O HB) L.1 ?side10 l.1 ad.1).mono ?_); (case side5 => exact pk_ a.1); (case side10 => exact pk_ b.1); rintro e ap ⟨am, rfl, aa, hb⟩; have _ := Q_ (Kd.N_lower (Kd.N_mono (ok' := fun k_ => (w.heap.size ≤ k_) ∧ k_ ≠ P ∧ k_ ≠ Q) aa (fun k_ hk_ => ⟨(Nat.le_trans (below_size (pb2_ HB.1 c.1 j.1)) hk_), (Kd.freshB (g := P) (o := .cells #[.int .i64 m, .slice s d.length v, .slice t i.length x] 34 (0, 0)) (pk_ a.1) k_ hk_), (Kd.freshB (g := Q) (o := .cells #[.int .i64 q, .slice y n.length A, .slice z p.length B] 34 (0, 0)) (pk_ b.1) k_ hk_)⟩)) (below_size (pb2_ HB.1 c.1 j.1))); have _ := Q_ (bb_ a.1 hb); have _ := Q_ (bb_ b.1 hb); have _ := Q_ (below_step (pb2_ HB.1 c.1 j.1) hb); clear a b HB; rename_i Z a b HB; (try clear hb aa)))
 go_ret
 exact ⟨_, er_, by (with_reducible repeat (first | apply Kd.N_alloc | apply Kd.N_drewN | apply Kd.N_drew)); exact Kd.N_mono Z.1 (fun _ hk => hk.1), pb2_ HB.1 c.1 j.1⟩

/-! ### slices_Index_int_int: function 103 -/
def slices_Index_int_int.l0 : Nat → List Int → Int → Int → Int → Option (Int)
 | 0, _, _, _, _ => none
 | k + 1, b, c, d, a => if a < d then (if 0 ≤ a then (if a < (b.length : Int) then (if c = (rd b a) then (some a) else (slices_Index_int_int.l0 k b c d (wrap64 (a + 1)))) else (none)) else (none)) else (some (-1))
def slices_Index_int_int.f (k : Nat) (a : List Int) (b : Int) : Option (Int) := slices_Index_int_int.l0 k a b (a.length : Int) 0
theorem slices_Index_int_int.mono_l : ∀ k, (∀ a b c d, LeO (slices_Index_int_int.l0 k a b c d) (slices_Index_int_int.l0 (k + 1) a b c d))
 | 0 => fun _ _ _ _ r h => by simp [slices_Index_int_int.l0] at h
 | k + 1 => by
  have ih0 := slices_Index_int_int.mono_l k
  ·intro a b c d
   unfold slices_Index_int_int.l0
   exact mo1_ ih0
theorem slices_Index_int_int.mono : ∀ a b k, LeO (slices_Index_int_int.f k a b) (slices_Index_int_int.f (k + 1) a b) := by
 intro a b k
 have ih0 := slices_Index_int_int.mono_l k
 unfold slices_Index_int_int.f
 exact mo1_ ih0
theorem slices_Index_int_int.calls (k : Nat) (y : Option Addr) (z : Nat) (d : List Int) (j : Int) (r : Int) (w : World) (hr0 : Kd.C (Kd.int .i64) w y d.length d) (u : d.length ≤ z) (h : slices_Index_int_int.f k d j = some r) :
  Calls Try.prog 103 #[.slice y d.length z, .int .i64 j] w fun e w' => e = .returned (.int .i64 r) ∧ Drawn0 w w' := by
 have p := Q_ hr0
 have D := Q_ u
 clear hr0 u
 have H : (slices_Index_int_int.l0 k d j (d.length : Int) 0) = some r := h
 clear h
 have H' := Q_ H
 clear H
 go_enter Try.func103, Try.ntmps103
 go_wp2
 go_loopg [8] k (fun kq E w' => ∃ (a : Int), E = .int .i64 a ∧ Aside0 (slices_Index_int_int.l0 kq d j (d.length : Int) a = some r) ∧ Aside0 (kq ≤ k) ∧ Drawn0 w w')
 case atStart => exact ⟨(0), el_, H', ⟨Nat.le_refl _⟩, by repeat (first | exact Drawn0.refl _ | apply Drawn0.step)⟩
 clear H'
 obtain ⟨a, rfl, HA, o, ⟨m1, rfl⟩⟩ := hrel
 rcases gk with _ | k1
 ·exact absurd HA.1 (by simp [slices_Index_int_int.l0])
 have H := HA.1
 clear HA
 simp only [slices_Index_int_int.l0] at H
 by_cases n : a < (d.length : Int)
 rotate_left
 ·rw [if_neg n] at H
  have q := decide_eq_false n
  clear n
  obtain rfl := Option.some.inj H
  go_wp2
  go_ret
  exact ⟨by first | rfl | (simp; done) | (simp [*]; done), by repeat (first | exact Drawn0.refl _ | apply Drawn0.step)⟩
 rw [if_pos n] at H
 have q := decide_eq_true n
 clear n
 by_cases v : 0 ≤ a
 rotate_left
 ·rw [if_neg v] at H
  exact nn_ H
 rw [if_pos v] at H
 have A := decide_eq_true v
 clear v
 by_cases x : a < (d.length : Int)
 rotate_left
 ·rw [if_neg x] at H
  exact nn_ H
 rw [if_pos x] at H
 have B := decide_eq_true x
 clear x
 by_cases m : j = (rd d a)
 rotate_left
 ·rw [if_neg m] at H
  have s : (j == (rd d a)) = false := beq_eq_false_iff_ne.mpr m
  have t : (j != (rd d a)) = true := bne_iff_ne.mpr m
  have H' := Q_ H
  clear H
  have b : 0 ≤ (a : Int) := dt_
  have c : a < (d.length : Int) := dt_
  obtain ⟨l, g, i⟩ := Kd.at_int p.1 a b c
  cases g
  replace b := eq_true b
  replace c := eq_true c
  go_wp2
  go_roundg k1
  case measure => have := o.1; omega
  case rel => exact ⟨(wrap64 (a + 1)), el_, H', ⟨by have := o.1; omega⟩, by repeat (first | exact Drawn0.refl _ | apply Drawn0.step)⟩
 rw [if_pos m] at H
 have s : (j == (rd d a)) = true := beq_iff_eq.mpr m
 have t : (j != (rd d a)) = false := bne_eq_false_iff_eq.mpr m
 clear m
 obtain rfl := Option.some.inj H
 have b : 0 ≤ (a : Int) := dt_
 have c : a < (d.length : Int) := dt_
 obtain ⟨l, g, i⟩ := Kd.at_int p.1 a b c
 cases g
 replace b := eq_true b
 replace c := eq_true c
 go_wp2
 go_ret
 exact ⟨by first | rfl | (simp; done) | (simp [*]; done), by repeat (first | exact Drawn0.refl _ | apply Drawn0.step)⟩

/-! ### slices_Contains_int_int: function 97 -/
def slices_Contains_int_int.f (k : Nat) (c : List Int) (b : Int) : Option (Bool) := (slices_Index_int_int.f k c b).bind fun a => (some (decide (a ≥ 0)))
theorem slices_Contains_int_int.mono : ∀ a b k, LeO (slices_Contains_int_int.f k a b) (slices_Contains_int_int.f (k + 1) a b) := by
 intro a b k
 unfold slices_Contains_int_int.f
 exact mo1_ slices_Index_int_int.mono
theorem slices_Contains_int_int.calls (k : Nat) (g : Option Addr) (l : Nat) (b : List Int) (c : Int) (r : Bool) (w : World) (hr0 : Kd.C (Kd.int .i64) w g b.length b) (d : b.length ≤ l) (h : slices_Contains_int_int.f k b c = some r) :
  Calls Try.prog 97 #[.slice g b.length l, .int .i64 c] w fun e w' => e = .returned (.bool r) ∧ Drawn0 w w' := by
 have j := Q_ hr0
 have i := Q_ d
 clear hr0 d
 have H : ((slices_Index_int_int.f k b c).bind fun a => (some (decide (a ≥ 0)))) = some r := h
 clear h
 obtain ⟨a, m, H⟩ := bs_ H
 replace H : (some (decide (a ≥ 0))) = some r := H
 obtain rfl := Option.some.inj H
 go_enter Try.func97, Try.ntmps97
 go_wp2_with (first | ((with_reducible refine gate_callee (f := 103) rfl ?_); refine gl_ (some 7) Try.func103 #[.slice g b.length l, .int .i64 c] ?_; (with_reducible refine (slices_Index_int_int.calls k _ _ b c a _ (pc_ j.1) i.1 m.1).mono ?_); rintro e w' ⟨rfl, ⟨nd, rfl⟩⟩; refine ⟨_, rfl, ?_⟩))
 go_ret
 exact ⟨by first | rfl | (simp; done) | (simp [*]; done), by repeat (first | exact Drawn0.refl _ | apply Drawn0.step)⟩

/-! ### impl_without: function 82 -/
def impl_without.l0 : Nat → List Int → List Int → List Int → Int → Int → Option (List Int)
 | 0, _, _, _, _, _ => none
 | k + 1, g, e, d, b, a => if a < b then (if 0 ≤ a then (if a < (d.length : Int) then ((slices_Contains_int_int.f k g (rd d a)).bind fun c => (if c = true then (impl_without.l0 k g e d b (wrap64 (a + 1))) else (if e.length < 17592186044416 then (impl_without.l0 k g (e ++ [rd d a]) d b (wrap64 (a + 1))) else (none)))) else (none)) else (none)) else (some e)
def impl_without.f (k : Nat) (a : List Int) (b : List Int) : Option (List Int) := impl_without.l0 k b (([] : List Int)) a (a.length : Int) 0
theorem impl_without.mono_l : ∀ k, (∀ a b c d e, LeO (impl_without.l0 k a b c d e) (impl_without.l0 (k + 1) a b c d e))
 | 0 => fun _ _ _ _ _ r h => by simp [impl_without.l0] at h
 | k + 1 => by
  have ih0 := impl_without.mono_l k
  ·intro a b c d e
   unfold impl_without.l0
   exact mo2_ ih0 slices_Contains_int_int.mono
theorem impl_without.mono : ∀ a b k, LeO (impl_without.f k a b) (impl_without.f (k + 1) a b) := by
 intro a b k
 have ih0 := impl_without.mono_l k
 unfold impl_without.f
 exact mo2_ ih0 slices_Contains_int_int.mono
theorem impl_without.calls (k : Nat) (T : Option Addr) (U : Nat) (d : List Int) (K : Option Addr) (Q : Nat) (m : List Int) (r : List Int) (w : World) (hr0 : Kd.C (Kd.int .i64) w T d.length d) (E : d.length ≤ U) (hr1 : Kd.C (Kd.int .i64) w K m.length m) (F : m.length ≤ Q) (h : impl_without.f k d m = some r) :
  Calls Try.prog 82 #[.slice T d.length U, .slice K m.length Q] w fun e w' => ∃ v0_ : Value, e = .returned (v0_) ∧ Kd.R (Kd.int .i64) 3 w' w.heap.size (fun _ => True) v0_ r ∧ Below w.heap.size w w' := by
 have M := Q_ hr0
 have aa := Q_ E
 clear hr0 E
 have O := Q_ hr1
 have L := Q_ F
 clear hr1 F
 have HB := Q_ (Below.refl w.heap.size w)
 have H : (impl_without.l0 k m (([] : List Int)) d (d.length : Int) 0) = some r := h
 clear h
 obtain ⟨t, hy186⟩ : ∃ y_ : List Int, y_ = (([] : List Int)) := ⟨_, rfl⟩
 replace H : (impl_without.l0 k m t d (d.length : Int) 0) = some r := hb_ hy186 H
 have j := Q_ hy186
 clear hy186
 have H' := Q_ H
 clear H
 go_enter Try.func82, Try.ntmps82
 go_wp2_with (first | ((with_reducible refine gate_dst (N := 8) rfl ?_); refine Kd.R_lit (Kd.int .i64) _ 3 ?hg (N := 8) ?hd (xs := ([] : List Int)) (inner := []) (ok := fun _ => True) (okp := fun _ => True) ?hr ?hp (fun _ hk => hk) trivial (Below.refl _ _) (Nat.le_refl _) (by simp) ?_; (case hd => rfl); (case hg => rfl); (case hr => first | (go_simp; done) | (go_simp; rfl)); (case hp => exact (Reps.none _ _)); intro X w3 l hb hg_ hnew_; clear hg_ hnew_; (first | rw [← j.1] at l | (simp only [Int.reduceToNat] at l; rw [← j.1] at l)); have _ := Q_ (Kd.R_lower l (below_size (pb_ HB.1))); have _ := Q_ (below_step (pb_ HB.1) hb); clear HB; rename_i v HB; clear hb l))
 (try simp only [Act.put, s1_, s2_, s3_])
 go_loopg [5, 11] k (fun kq v5 S w' => ∃ (c : List Int) (a : Int), S = .int .i64 a ∧ Aside0 (impl_without.l0 kq m c d (d.length : Int) a = some r) ∧ Aside0 (kq ≤ k) ∧ Aside0 (Kd.R (Kd.int .i64) 3 w' w.heap.size (fun _ => True) v5 c) ∧ Aside0 (Below w.heap.size w w'))
 case atStart => exact ⟨(t), (0), el_, H', ⟨Nat.le_refl _⟩, ⟨pr_ v.1⟩, ⟨pb_ HB.1⟩⟩
 clear H'
 obtain ⟨c, a, rfl, HA, p, i, HB⟩ := hrel
 rcases gk with _ | k1
 ·exact absurd HA.1 (by simp [impl_without.l0])
 have H := HA.1
 clear HA
 simp only [impl_without.l0] at H
 by_cases A : a < (d.length : Int)
 rotate_left
 ·rw [if_neg A] at H
  have B := decide_eq_false A
  clear A
  obtain rfl := Option.some.inj H
  go_wp2
  go_ret
  exact ⟨_, er_, pr_ i.1, pb_ HB.1⟩
 rw [if_pos A] at H
 have B := decide_eq_true A
 clear A
 by_cases G : 0 ≤ a
 rotate_left
 ·rw [if_neg G] at H
  exact nn_ H
 rw [if_pos G] at H
 have V := decide_eq_true G
 clear G
 by_cases I : a < (d.length : Int)
 rotate_left
 ·rw [if_neg I] at H
  exact nn_ H
 rw [if_pos I] at H
 have W := decide_eq_true I
 clear I
 obtain ⟨s, Z, H⟩ := bs_ H
 (try dsimp only at H)
 have HS_ := Q_ H
 clear H
 have n : 0 ≤ (a : Int) := dt_
 have o : a < (d.length : Int) := dt_
 obtain ⟨P, D, g⟩ := Kd.at_int M.1 a n o
 cases D
 replace g := bt_ HB g
 replace n := eq_true n
 replace o := eq_true o
 go_upto_if 18 with (first | ((with_reducible refine gate_callee (f := 97) rfl ?_); refine gl_ (some 17) Try.func97 #[.slice K m.length Q, .int .i64 (rd d a)] ?_; (with_reducible refine (slices_Contains_int_int.calls k1 _ _ m (rd d a) s _ (cb_ O HB) L.1 Z.1).mono ?_); rintro e w' ⟨rfl, ⟨nd, rfl⟩⟩; refine ⟨_, rfl, ?_⟩))
 (try simp only [Act.put, s1_, s2_, s3_])
 have H := HS_.1
 clear HS_
 by_cases J : s = true
 ·subst J
  rw [if_pos rfl] at H
  have H' := Q_ H
  clear H
  go_wp2
  go_roundg k1
  case measure => have := p.1; omega
  case rel => exact ⟨(c), (wrap64 (a + 1)), el_, H', ⟨by have := p.1; omega⟩, ⟨pr_ i.1⟩, ⟨pb_ HB.1⟩⟩
 replace J := bf_ J
 subst J
 rw [if_neg ff_] at H
 by_cases q : c.length < 17592186044416
 rotate_left
 ·rw [if_neg q] at H
  exact nn_ H
 rw [if_pos q] at H
 have y := Q_ q
 clear q
 obtain ⟨u, hy191⟩ : ∃ y_ : List Int, y_ = (c ++ [rd d a]) := ⟨_, rfl⟩
 replace H : (impl_without.l0 k1 m u d (d.length : Int) (wrap64 (a + 1))) = some r := hb_ hy191 H
 have z := Q_ hy191
 clear hy191
 have H' := Q_ H
 clear H
 go_wp2_with (first | ((with_reducible refine gate_builtin (b := .append) (xs := #[.tmp 19, .tmp 21]) rfl ?_); at_builtin; refine Kd.R_append (Kd.int .i64) (w0 := w) w.heap.size rfl (.tmp 19) (.tmp 21) 39 3 (.int .i64 0) 8 rfl Try.underlying39 info3 rfl (by decide) (by omega) u5 c (rd d a) [.int .i64 (rd d a)] (fun _ => True) (fun _ => False) rfl rfl ?aP (fun _ hk => hk.elim) ?aF ?aO ?aB ?aS ?aL ?_; (case aP => exact rfl); (case aB => exact (pb_ HB.1)); (case aF => exact (fun _ _ => trivial)); (case aO => exact (pr_ i.1)); (case aS => exact (below_size (pb_ HB.1))); (case aL => have := y.1; omega); intro Y ac ho hb hg hat; rw [← z.1] at ho; have _ := Q_ (hb); have _ := Q_ (ho); clear HB i; rename_i HB x; clear ho hb hg hat))
 go_roundg k1
 case measure => have := p.1; omega
 case rel => exact ⟨(u), (wrap64 (a + 1)), el_, H', ⟨by have := p.1; omega⟩, ⟨pr_ x.1⟩, ⟨pb_ HB.1⟩⟩

/-! ### impl_isEnd: function 83 -/
def impl_isEnd.f (d : Int) (a : List Bool) (e : List (S78)) (c : Int) : Option (Bool) := (impl_InRange.f c 0 (wrap64 ((a.length : Int) - 1))).bind fun b => (if b = true then (if 0 ≤ c then (if c < (a.length : Int) then (some (rdOf false a c)) else (none)) else (none)) else (some false))
theorem impl_isEnd.calls (l : Int) (g : Option Addr) (m : Nat) (a : List Bool) (i : Option Addr) (n : Nat) (b : List (S78)) (d : Int) (r : Bool) (w : World) (hr0_1 : Kd.C Kd.bool w g a.length a) (o : a.length ≤ m) (hr0_2 : Kd.C k78 w i b.length b) (p : b.length ≤ n) (h : impl_isEnd.f l a b d = some r) :
  Calls Try.prog 83 #[.agg #[.int .i64 l, .slice g a.length m, .slice i b.length n], .int .i64 d] w fun e w' => e = .returned (.bool r) ∧ Below w.heap.size w w' := by
 have hu34 := Try.underlying34
 have x := Q_ hr0_1
 have D := Q_ o
 clear hr0_1 o
 have F := Q_ hr0_2
 have E := Q_ p
 clear hr0_2 p
 have HB := Q_ (Below.refl w.heap.size w)
 have H : ((impl_InRange.f d 0 (wrap64 ((a.length : Int) - 1))).bind fun t => (if t = true then (if 0 ≤ d then (if d < (a.length : Int) then (some (rdOf false a d)) else (none)) else (none)) else (some false))) = some r := h
 clear h
 have HS_ := Q_ H
 clear H
 go_enter Try.func83, Try.ntmps83
 go_upto_region 1 with (first | ((with_reducible refine gate_dst (N := 2) rfl ?_); refine bx_ 2 #[.int .i64 l, .slice g a.length m, .slice i b.length n] 34 ?_; intro I hg O hbox hb; have _ := Q_ (below_step (pb_ HB.1) hb); have j := Q_ (hbox); have v := Q_ (gw_ (w := w) hg (pb_ HB.1)); have k := v; clear HB; rename_i HB; clear hb hbox hg))
 (try simp only [Act.put, s1_, s2_, s3_])
 have H := HS_.1
 clear HS_
 obtain ⟨t, J, H⟩ := bs_ H
 (try dsimp only at H)
 by_cases z : t = true
 rotate_left
 ·replace z := bf_ z
  subst z
  rw [if_neg ff_] at H
  obtain rfl := Option.some.inj H
  have L := bc3_ j.1
  go_wp2_with (first | ((with_reducible refine gate_callee (f := 47) rfl ?_); refine gl_ (some 10) Try.func47 #[.int .i64 d, .int .i64 0, .int .i64 (wrap64 ((a.length : Int) - 1))] ?_; (with_reducible refine (impl_InRange.calls d 0 (wrap64 ((a.length : Int) - 1)) false _ J.1).mono ?_); rintro e w' ⟨rfl, ⟨nd, rfl⟩⟩; refine ⟨_, rfl, ?_⟩))
  go_ret
  exact ⟨er_, pb1_ HB.1 k.1⟩
 subst z
 rw [if_pos rfl] at H
 by_cases A : 0 ≤ d
 rotate_left
 ·rw [if_neg A] at H
  exact nn_ H
 rw [if_pos A] at H
 have u := decide_eq_true A
 clear A
 (first | rw [u] | (simp only [i64_w, i32_w]; rw [u]) | skip)
 by_cases B : d < (a.length : Int)
 rotate_left
 ·rw [if_neg B] at H
  exact nn_ H
 rw [if_pos B] at H
 have K := decide_eq_true B
 clear B
 obtain rfl := Option.some.inj H
 have M := bc3_ j.1
 go_wp2_with (first | ((with_reducible refine gate_callee (f := 47) rfl ?_); refine gl_ (some 10) Try.func47 #[.int .i64 d, .int .i64 0, .int .i64 (wrap64 ((a.length : Int) - 1))] ?_; (with_reducible refine (impl_InRange.calls d 0 (wrap64 ((a.length : Int) - 1)) true _ J.1).mono ?_); rintro e w' ⟨rfl, ⟨nd, rfl⟩⟩; refine ⟨_, rfl, ?_⟩; have q : 0 ≤ (d : Int) := dt_; have s : d < (a.length : Int) := dt_; obtain ⟨G, y, c⟩ := Kd.at_bool x.1 d q s; cases y; replace c := bt_ HB c; replace q := eq_true q; replace s := eq_true s))
 go_ret
 exact ⟨er_, pb1_ HB.1 k.1⟩

end Go.Proofs.Ytldcchjbaglppaa.Print
