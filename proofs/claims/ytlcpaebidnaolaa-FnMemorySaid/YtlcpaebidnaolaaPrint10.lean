-- Written by a program of this session (printx.py) out of the translation; Lean checks it.
import Derived.Test.YtlcpaebidnaolaaPrint0
import Derived.Test.YtlcpaebidnaolaaPrint1
import Derived.Test.YtlcpaebidnaolaaPrint8
import Derived.Test.YtlcpaebidnaolaaPrint9
namespace Go.Proofs.Ytlcpaebidnaolaa.Print
open Go.RowKit Go.Proofs.YtlcpaebidnaolaaW.PrintWords Go.Proofs.YtlcpaebidnaolaaW.PrintLast Go.Proofs.YtlcpaebidnaolaaW.PrintMore Go.Proofs.Ytlcpaebidnaolaa.Short
attribute [local go_sem] max2_int min2_int max_two min_two max_three min_three max_four min_four   -- for this text's walks alone
set_option linter.unusedVariables false
set_option maxHeartbeats 8000000
set_option maxRecDepth 100000
set_option linter.unusedSimpArgs false

/-! ### impl_keptKnown_with_impl_ForgetOld_1: function 100004 -/
def impl_keptKnown_with_impl_ForgetOld_1.l0 : Nat → List (S61) → List (S61) → Int → Int → Int → Option ((List (S61)))
 | 0, _, _, _, _, _ => none
 | k + 1, x5, x9, x10, x11, x2000 => if x11 < x10 then (if 0 ≤ x11 then (if x11 < (x9.length : Int) then ((impl_ForgetOld_1.f ((rd_T61 x9 x11).f0) ((rd_T61 x9 x11).f1) ((rd_T61 x9 x11).f2) x2000).bind fun t480 => (if t480 = true then ((some (([] : List Int) : List Int)).bind fun y481 => (if y481.length + ((rd_T61 x9 x11).f1).length < 17592186044416 then (if x5.length < 3518437208883 then (impl_keptKnown_with_impl_ForgetOld_1.l0 k (x5 ++ [(⟨(rd_T61 x9 x11).f0, (y481 ++ ((rd_T61 x9 x11).f1)), (rd_T61 x9 x11).f2⟩ : S61)]) x9 x10 (wrap64 (x11 + 1)) x2000) else (none)) else (none))) else (impl_keptKnown_with_impl_ForgetOld_1.l0 k x5 x9 x10 (wrap64 (x11 + 1)) x2000))) else (none)) else (none)) else (some x5)
def impl_keptKnown_with_impl_ForgetOld_1.f (k : Nat) (l0 : List (S61)) (a1_0 : Int) : Option ((List (S61))) := impl_keptKnown_with_impl_ForgetOld_1.l0 k (([] : List (S61))) l0 (l0.length : Int) 0 a1_0
theorem impl_keptKnown_with_impl_ForgetOld_1.mono_l : ∀ k, (∀ y0 y1 y2 y3 y4, LeO (impl_keptKnown_with_impl_ForgetOld_1.l0 k y0 y1 y2 y3 y4) (impl_keptKnown_with_impl_ForgetOld_1.l0 (k + 1) y0 y1 y2 y3 y4))
 | 0 => fun _ _ _ _ _ r h => by simp [impl_keptKnown_with_impl_ForgetOld_1.l0] at h
 | k + 1 => by
  have ih0 := impl_keptKnown_with_impl_ForgetOld_1.mono_l k
  ·intro y0 y1 y2 y3 y4
   unfold impl_keptKnown_with_impl_ForgetOld_1.l0
   exact mo1_ ih0
theorem impl_keptKnown_with_impl_ForgetOld_1.mono : ∀ a0 a1 k, LeO (impl_keptKnown_with_impl_ForgetOld_1.f k a0 a1) (impl_keptKnown_with_impl_ForgetOld_1.f (k + 1) a0 a1) := by
 intro a0 a1 k
 have ih0 := impl_keptKnown_with_impl_ForgetOld_1.mono_l k
 unfold impl_keptKnown_with_impl_ForgetOld_1.f
 exact mo1_ ih0
def impl_keptKnown_with_impl_ForgetOld_1.T6 : Bool × List (List Nat × List Nat) := (true, [([], []), ([], []), ([1], [1]), ([], []), ([], []), ([4], [4]), ([3, 5], [3, 5]), ([], []), ([7], [7]), ([2, 6, 8], [2, 6, 8]), ([9], [9]), ([0, 10, 6], [0, 10]), ([11, 11, 0, 1, 2, 3, 4, 5, 6, 7, 8, 9, 10, 11], [0, 11])])
def impl_keptKnown_with_impl_ForgetOld_1.B6 : List Nat := [0, 0, 2, 0, 0, 16, 56, 0, 128, 510, 1022, 2047, 4095]
theorem impl_keptKnown_with_impl_ForgetOld_1.tab6 : rtab .any (opsOf Try.f29 6) = impl_keptKnown_with_impl_ForgetOld_1.T6 := by kernel_rfl
theorem impl_keptKnown_with_impl_ForgetOld_1.bits6 : waitsOk impl_keptKnown_with_impl_ForgetOld_1.T6.2 impl_keptKnown_with_impl_ForgetOld_1.B6 = true := by kernel_rfl
theorem impl_keptKnown_with_impl_ForgetOld_1.calls (k : Nat) (A0 : Option Addr) (c0 : Nat) (l0 : List (S61)) (B1 : Nat) (a1_0 : Int) (r : List (S61)) (w : World) (hr0 : Kd.C k61 w A0 l0.length l0) (hc0 : l0.length ≤ c0) (hbv1 : w.heap[B1]? = some (.cells #[.int .i64 a1_0] 3 (0, 0))) (h : impl_keptKnown_with_impl_ForgetOld_1.f k l0 a1_0 = some r) :
  Calls Try.prog 29 #[.slice A0 l0.length c0, .func (.func 34) #[] #[.pointer (some ⟨B1, 0, none⟩)]] w fun e w' => ∃ v0_ : Value, e = .returned (v0_) ∧ Kd.S k61 61 w' w.heap.size (fun _ => True) v0_ r ∧ Below w.heap.size w w' := by
 have hu61 := Try.underlying61
 have HR0 := Q_ hr0
 have HC0 := Q_ hc0
 clear hr0 hc0
 have BK1 := Q_ hbv1
 clear hbv1
 have HB := Q_ (Below.refl w.heap.size w)
 have H : (impl_keptKnown_with_impl_ForgetOld_1.l0 k (([] : List (S61))) l0 (l0.length : Int) 0 a1_0) = some r := h
 clear h
 obtain ⟨y475, hy475⟩ : ∃ y_ : List (S61), y_ = (([] : List (S61))) := ⟨_, rfl⟩
 replace H : (impl_keptKnown_with_impl_ForgetOld_1.l0 k y475 l0 (l0.length : Int) 0 a1_0) = some r := hb_ hy475 H
 have Ny475 := Q_ hy475
 clear hy475
 have H' := Q_ H
 clear H
 go_enter Try.func29, Try.ntmps29
 go_wp2_with (first | ((with_reducible refine gate_dst (N := 8) rfl ?_); refine Kd.S_lit k61 _ 61 ?hg (N := 8) ?hd (xs := ([] : List (S61))) (inner := []) (ok := fun _ => True) (okp := fun _ => True) ?hr ?hp (fun _ hk => hk) trivial (Below.refl _ _) (Nat.le_refl _) (by simp) ?_; (case hd => rfl); (case hg => rfl); (case hr => first | (go_simp; done) | (go_simp; rfl)); (case hp => exact (Reps.none _ _)); intro v476 w3 ho4 hb hg_ hnew_; clear hg_ hnew_; (first | rw [← Ny475.out] at ho4 | (simp only [Int.reduceToNat] at ho4; rw [← Ny475.out] at ho4)); have _ := Q_ (Kd.S_lower (Kd.S_newB ho4 (g := B1) (o := .cells #[.int .i64 a1_0] 3 (0, 0)) (pk_ BK1.out)) (below_size (pb_ HB.out))); have _ := Q_ (bb_ BK1.out hb); have _ := Q_ (below_step (pb_ HB.out) hb); clear BK1 HB; rename_i HO477 BK1 HB; clear hb ho4))
 (try simp only [Act.put, List.setIfInBounds_toArray, List.set_cons_zero, List.set_cons_succ])
 go_loopg [5, 11] k (fun kq v5 v11 w' => ∃ (x5_1 : List (S61)) (x11_1 : Int), v11 = .int .i64 x11_1 ∧ Aside0 (impl_keptKnown_with_impl_ForgetOld_1.l0 kq x5_1 l0 (l0.length : Int) x11_1 a1_0 = some r) ∧ Aside0 (kq ≤ k) ∧ Aside0 (Kd.S k61 61 w' w.heap.size (fun k_ => k_ ≠ B1) v5 x5_1) ∧ Aside0 (w'.heap[B1]? = some (.cells #[.int .i64 a1_0] 3 (0, 0))) ∧ Aside0 (Below w.heap.size w w'))
 case atStart => exact ⟨(y475), (0), el_, H', ⟨Nat.le_refl _⟩, ⟨ps_ (Kd.S_mono HO477.out (fun _ hk => hk.2))⟩, ⟨pk_ BK1.out⟩, ⟨pb_ HB.out⟩⟩
 clear H'
 try clear c2
 try clear p2
 obtain ⟨x5_1, x11_1, rfl, HA, HK1, HO_5, BK1, HB⟩ := hrel
 rcases gk with _ | k1
 ·exact absurd HA.out (by simp [impl_keptKnown_with_impl_ForgetOld_1.l0])
 have H := HA.out
 clear HA
 simp only [impl_keptKnown_with_impl_ForgetOld_1.l0] at H
 by_cases c5 : x11_1 < (l0.length : Int)
 rotate_left
 ·rw [if_neg c5] at H
  have c5b0 : decide (x11_1 < (l0.length : Int)) = false := decide_eq_false c5
  clear c5
  obtain rfl := Option.some.inj H
  go_wp2
  go_ret
  exact ⟨_, er_, ps_ (Kd.S_mono HO_5.out (fun _ hk => trivial)), pb_ HB.out⟩
 rw [if_pos c5] at H
 have c5b0 : decide (x11_1 < (l0.length : Int)) = true := decide_eq_true c5
 clear c5
 by_cases c6 : 0 ≤ x11_1
 rotate_left
 ·rw [if_neg c6] at H
  exact absurd H (by simp)
 rw [if_pos c6] at H
 have c6b0 : decide (0 ≤ x11_1) = true := decide_eq_true c6
 clear c6
 by_cases c7 : x11_1 < (l0.length : Int)
 rotate_left
 ·rw [if_neg c7] at H
  exact absurd H (by simp)
 rw [if_pos c7] at H
 have c7b0 : decide (x11_1 < (l0.length : Int)) = true := decide_eq_true c7
 clear c7
 have HS_ := Q_ H
 clear H
 have p478 : 0 ≤ (x11_1 : Int) := dt_
 have q478 : x11_1 < (l0.length : Int) := dt_
 obtain ⟨ad478, A478_1, c478_1, e478, hx478_0, hx478_1, hx478_2, hl478_1, hi478_1⟩ := at_T61 HR0.out x11_1 p478 q478
 cases e478
 replace hx478_0 := bt_ HB hx478_0
 replace hx478_1 := bt_ HB hx478_1
 replace hx478_2 := bt_ HB hx478_2
 have HR478_1 := Q_ hi478_1
 have HC478_1 := Q_ hl478_1
 clear hi478_1 hl478_1
 replace p478 := eq_true p478
 replace q478 := eq_true q478
 go_upto_region 5 with (first | ((with_reducible refine gate_dst (N := 7) rfl ?_); refine box_event ?hg (N := 7) ?hd (cs := #[.int .i64 0, .slice none 0 0, .int .i64 0]) (t := 61) ?hr ?_; (case hd => rfl); (case hg => rfl); (case hr => first | (go_simp; done) | (go_simp; rfl)); intro gb479 hg w8 hbox hb; have _ := Q_ (Kd.S_below (Kd.S_elderB (ps_ HO_5.out) gb479 (Nat.le_of_eq hg.symm)) hb); have _ := Q_ (bb_ BK1.out hb); have _ := Q_ (below_step (pb_ HB.out) hb); have BK479 := Q_ (hbox); have GW479 := Q_ ((by rw [hg]; exact (below_size (pb_ HB.out)) : w.heap.size ≤ gb479)); have GE479 := GW479; have NB1_479 := Q_ ((by rw [hg]; exact Nat.ne_of_lt (blk_lt (pk_ BK1.out)) : B1 ≠ gb479)); have NB479_1 := Q_ NB1_479.out.symm; clear HO_5 BK1 HB; rename_i HO_5 BK1 HB; clear hb hbox hg; have hnb9 := NB479_1.out; have hnc9 := NB1_479.out; have hcz10 := bc3_ BK479.out))
 (try simp only [Act.put, List.setIfInBounds_toArray, List.set_cons_zero, List.set_cons_succ])
 have H := HS_.out
 clear HS_
 replace H := Option.bind_eq_some_iff.mp H
 obtain ⟨t480, A110, H⟩ := H
 (try dsimp only at H)
 have A11 := Q_ A110
 clear A110
 have HS_ := Q_ H
 clear H
 have hnb12 := NB479_1.out
 have hnc12 := NB1_479.out
 have hcz13 := bc3_ BK479.out
 go_upto_if 17 with (first | (go_at_call 34; (with_reducible refine (impl_ForgetOld_1.calls ((rd_T61 l0 x11_1).f0) _ _ ((rd_T61 l0 x11_1).f1) ((rd_T61 l0 x11_1).f2) _ a1_0 t480 _ ?side1 ?side2 ?side3 A11.out).mono ?_); (case side1 => exact Kd.C_below HR478_1.out (pb1_ HB.out GE479.out)); (case side2 => exact HC478_1.out); (case side3 => (with_reducible repeat (first | refine blk_drewN ?_ _ | refine blk_drew ?_ | refine blk_alloc ?_ _)); refine blk_far ?_ NB1_479.out _; (with_reducible repeat (first | refine blk_drewN ?_ _ | refine blk_drew ?_ | refine blk_alloc ?_ _)); refine blk_far ?_ NB1_479.out _; (with_reducible repeat (first | refine blk_drewN ?_ _ | refine blk_drew ?_ | refine blk_alloc ?_ _)); refine blk_far ?_ NB1_479.out _; exact pk_ BK1.out); rintro e w14 ⟨rfl, hb⟩; have _ := Q_ (Kd.S_below (by (with_reducible repeat (first | apply Kd.S_alloc | apply Kd.S_drewN | apply Kd.S_drew)); exact (Kd.S_mono (Kd.S_far (p := ⟨gb479, 2, none⟩) (Kd.S_far (p := ⟨gb479, 1, none⟩) (Kd.S_far (p := ⟨gb479, 0, none⟩) (Kd.S_mono HO_5.out (fun k_ hk => (⟨hk, hk.2⟩ : _ ∧ k_ ≠ gb479))) (fun _ hk => hk.2) (.int .i64 ((rd_T61 l0 x11_1).f0))) (fun _ hk => hk.2) (.slice A478_1 ((rd_T61 l0 x11_1).f1).length c478_1)) (fun _ hk => hk.2) (.int .i64 ((rd_T61 l0 x11_1).f2))) (fun _ h_ => h_.1))) hb); have _ := Q_ (blk_below (g := B1) (o := .cells #[.int .i64 a1_0] 3 (0, 0)) (pp_ BK1.out) hb); have _ := Q_ (blk_below (g := gb479) (o := .cells #[.int .i64 ((rd_T61 l0 x11_1).f0), .slice A478_1 ((rd_T61 l0 x11_1).f1).length c478_1, .int .i64 ((rd_T61 l0 x11_1).f2)] 61 (0, 0)) (pp_ BK479.out) hb); have _ := Q_ (below_step (pb1_ HB.out GE479.out) hb); clear HO_5 BK1 BK479 HB; rename_i HO_5 BK1 BK479 HB; (try clear hb); (try clear hb2); (try clear hk); (try clear hi)))
 (try simp only [Act.put, List.setIfInBounds_toArray, List.set_cons_zero, List.set_cons_succ])
 have H := HS_.out
 clear HS_
 by_cases c15 : t480 = true
 rotate_left
 ·replace c15 := bf_ c15
  subst c15
  rw [if_neg ff_] at H
  have H' := Q_ H
  clear H
  go_wp2
  go_roundg k1
  case measure => have := HK1.out; omega
  case rel => exact ⟨(x5_1), (wrap64 (x11_1 + 1)), el_, H', ⟨by have := HK1.out; omega⟩, ⟨ps_ (Kd.S_mono HO_5.out (fun _ hk => hk.1))⟩, ⟨pk_ BK1.out⟩, ⟨pb1_ HB.out GE479.out⟩⟩
 subst c15
 rw [if_pos rfl] at H
 obtain ⟨y481, hy481⟩ : ∃ y_ : List Int, y_ = (([] : List Int)) := ⟨_, rfl⟩
 replace H : (if y481.length + ((rd_T61 l0 x11_1).f1).length < 17592186044416 then (if x5_1.length < 3518437208883 then (impl_keptKnown_with_impl_ForgetOld_1.l0 k1 (x5_1 ++ [(⟨(rd_T61 l0 x11_1).f0, (y481 ++ ((rd_T61 l0 x11_1).f1)), (rd_T61 l0 x11_1).f2⟩ : S61)]) l0 (l0.length : Int) (wrap64 (x11_1 + 1)) a1_0) else (none)) else (none)) = some r := hb_ hy481 H
 have Ny481 := Q_ hy481
 clear hy481
 by_cases c16 : y481.length + ((rd_T61 l0 x11_1).f1).length < 17592186044416
 rotate_left
 ·rw [if_neg c16] at H
  exact absurd H (by simp)
 rw [if_pos c16] at H
 have LMc16 := Q_ c16
 clear c16
 obtain ⟨y484, hy484⟩ : ∃ y_ : List Int, y_ = (y481 ++ ((rd_T61 l0 x11_1).f1)) := ⟨_, rfl⟩
 replace H : (if x5_1.length < 3518437208883 then (impl_keptKnown_with_impl_ForgetOld_1.l0 k1 (x5_1 ++ [(⟨(rd_T61 l0 x11_1).f0, y484, (rd_T61 l0 x11_1).f2⟩ : S61)]) l0 (l0.length : Int) (wrap64 (x11_1 + 1)) a1_0) else (none)) = some r := hb_ hy484 H
 have Ny484 := Q_ hy484
 clear hy484
 by_cases c17 : x5_1.length < 3518437208883
 rotate_left
 ·rw [if_neg c17] at H
  exact absurd H (by simp)
 rw [if_pos c17] at H
 have LMc17 := Q_ c17
 clear c17
 obtain ⟨y487, hy487⟩ : ∃ y_ : List (S61), y_ = (x5_1 ++ [(⟨(rd_T61 l0 x11_1).f0, y484, (rd_T61 l0 x11_1).f2⟩ : S61)]) := ⟨_, rfl⟩
 replace H : (impl_keptKnown_with_impl_ForgetOld_1.l0 k1 y487 l0 (l0.length : Int) (wrap64 (x11_1 + 1)) a1_0) = some r := hb_ hy487 H
 have Ny487 := Q_ hy487
 clear hy487
 have H' := Q_ H
 clear H
 try go_wp2
 have _ := Q_ (Kd.S_drew HO_5.out)
 have _ := Q_ (blk_drew BK1.out)
 have _ := Q_ (blk_drew BK479.out)
 have _ := Q_ (below_drew1 HB.out)
 clear HO_5 BK1 BK479 HB
 rename_i HO_5 BK1 BK479 HB
 refine start_ (n := 13) (S := fun w' => w'.cell? ⟨gb479, 0, none⟩ = some (.int .i64 ((rd_T61 l0 x11_1).f0)) ∧ w'.cell? ⟨gb479, 1, none⟩ = some (.slice A478_1 ((rd_T61 l0 x11_1).f1).length c478_1) ∧ w'.cell? ⟨gb479, 2, none⟩ = some (.int .i64 ((rd_T61 l0 x11_1).f2))) (ds := []) (tf_ 0 13) (by kernel_rfl) rfl rfl (sb_ BK479.out) (fun hHeld => ?_); refine with_tabW impl_keptKnown_with_impl_ForgetOld_1.tab6 impl_keptKnown_with_impl_ForgetOld_1.bits6 (fun HT_ HW_ => ?_)
 generalize w14.drew = w18 at HO_5 BK1 BK479 HB hHeld ⊢
 refine pu_ 0 (some 18) (tf_ 1 13) HT_ ?_
 refine pu_ 1 (some 19) (tf_ 2 13) HT_ ?_
 refine pu_ 4 (some 22) (tm_ 13 19) HT_ ?_
 refine pu_ 7 (some 25) (tm_ 13 147) HT_ ?_
 refine ta_ 2 (some 20) (tm_ 13 151) HT_ HW_ hHeld ?_
 refine ta_ 5 (some 23) (tm_ 13 183) HT_ HW_ hHeld ?_
 refine ta_ 8 (some 26) (tm_ 13 439) HT_ HW_ hHeld ?_
 refine on_ 3 (some 21) (tm_ 13 447) HT_ (fun K hK => ?_)
 refine Kd.R_lit_step (Kd.int .i64) _ 3 ?hg (N := 21) ?hd (xs := ([] : List Int)) (inner := []) (ok := fun _ => True) (okp := fun _ => True) ?hr ?hp (fun _ hk => hk) trivial (Below.refl _ _) (Nat.le_refl _) (by simp) ?_; (case hd => rfl); (case hg => rfl); (case hr => first | (go_simp; done) | (go_simp; rfl)); (case hp => exact (Reps.none _ _))
 intro v482 w19 ho20 hb hg_ hnew_
 clear hg_ hnew_
 (first | rw [← Ny481.out] at ho20 | (simp only [Int.reduceToNat] at ho20; rw [← Ny481.out] at ho20))
 have _ := Q_ (Kd.S_elder' (ps_ HO_5.out) (Kd.R_base ho20) hb)
 have _ := Q_ (Kd.R_lower (Kd.R_newB ho20 (g := B1) (o := .cells #[.int .i64 a1_0] 3 (0, 0)) (pk_ BK1.out)) (below_size (pb1_ HB.out GE479.out)))
 have _ := Q_ (bb_ BK1.out hb)
 have _ := Q_ (bb_ BK479.out hb)
 have _ := Q_ (below_step (pb1_ HB.out GE479.out) hb)
 clear HO_5 BK1 BK479 HB
 rename_i HO_5 HO483 BK1 BK479 HB
 clear hb ho20
 refine hK.out _ _ (sb_ BK479.out) (fun hHeld => ?_)
 clear hK K
 refine no_ (some 21) ?_
 refine on_ 6 (some 24) (tf_ 9 13) HT_ (fun K hK => ?_)
 refine Kd.R_append_rows_step (Kd.int .i64) (w0 := w) w.heap.size (by rfl) (.tmp 21) (.tmp 23) 25 3 (.int .i64 0) 8 rfl Try.underlying25 info3 rfl (by decide) (by omega) v482 y481 ((rd_T61 l0 x11_1).f1) _ _ _ (fun k_ => k_ ≠ B1) (fun _ => False) rfl rfl ?aO ?aR (fun _ _ h => h) (fun _ h => h.elim) ?aF ?aB ?aS ?aL ?_
 (case aR => exact cb_ HR478_1 HB)
 (case aB => exact (pb1_ HB.out GE479.out))
 (case aF => exact (fun k_ hk => Kd.freshB (g := B1) (o := .cells #[.int .i64 a1_0] 3 (0, 0)) (pk_ BK1.out) k_ hk))
 (case aO => exact (pr_ (Kd.R_mono HO483.out (fun _ hk => hk.2))))
 (case aS => exact (below_size (pb1_ HB.out GE479.out)))
 (case aL => have := LMc16.out; omega)
 intro v485 w21 ho hb hg hat
 rw [← Ny484.out] at ho
 have _ := Q_ (Kd.S_after (ok := (fun k_ => k_ ≠ B1 ∧ k_ ≠ gb479)) (ps_ HO_5.out) hg hat)
 have _ := Q_ (blk_grown (g := B1) (o := .cells #[.int .i64 a1_0] 3 (0, 0)) (pk_ BK1.out) hg (Kd.R_away HO483.out (fun _ hk => hk.2)))
 have _ := Q_ (blk_grown (g := gb479) (o := .cells #[.int .i64 ((rd_T61 l0 x11_1).f0), .slice A478_1 ((rd_T61 l0 x11_1).f1).length c478_1, .int .i64 ((rd_T61 l0 x11_1).f2)] 61 (0, 0)) (pk_ BK479.out) hg (Kd.R_ne HO483.out BK479.out (by decide)))
 have _ := Q_ (hb)
 have _ := Q_ (ho)
 clear HO_5 BK1 BK479 HB HO483
 rename_i HO_5 BK1 BK479 HB HO486
 clear ho hb hg hat
 obtain ⟨Ao22, co22, eo22⟩ := Kd.R_slice HO486.out
 (first | subst eo22 | (injection eo22 with f1_ f2_ f3_; have f4_ := f1_.symm; have f5_ := f3_.symm; clear f1_ f2_ f3_; subst f4_; subst f5_))
 refine hK.out _ _ (sb_ BK479.out) (fun hHeld => ?_)
 clear hK K
 refine no_ (some 24) ?_
 refine pu_ 9 (some 27) (tf_ 10 13) HT_ ?_
 refine on_ 10 (some 28) (tf_ 11 13) HT_ (fun K hK => ?_)
 refine value_ (w1 := ?_) (v := ?_) (by rfl) rfl ?_ ?_
 rotate_left 2
 ·go_simp
  constructor
  ·rfl
  ·rfl
 refine hK.out _ _ ⟨(blk_cell (blk_alloc BK479.out _) 0).trans rfl, (blk_cell (blk_alloc BK479.out _) 1).trans rfl, (blk_cell (blk_alloc BK479.out _) 2).trans rfl⟩ (fun hHeld => ?_)
 clear hK K
 refine no_ (some 28) ?_
 refine on_ 11 (some 29) (tf_ 12 13) HT_ (fun K hK => ?_)
 refine Kd.S_append_step k61 (w0 := w) w.heap.size (by rfl) (.tmp 18) (.tmp 28) 24 61 (.agg #[(.int .i64 0), (.slice none 0 0), (.int .i64 0)]) 40 rfl Try.underlying24 info61 rfl (by decide) (by omega) u5 x5_1 (⟨(rd_T61 l0 x11_1).f0, y484, (rd_T61 l0 x11_1).f2⟩ : S61) [.int .i64 ((rd_T61 l0 x11_1).f0), .slice Ao22 y484.length co22, .int .i64 ((rd_T61 l0 x11_1).f2)] (fun k_ => k_ ≠ B1 ∧ k_ ≠ gb479) (fun k_ => some k_ = (.slice Ao22 y484.length co22 : Value).ownBlock) rfl rfl ?aP (fun k_ hk_ => ((Kd.R_mono (ok' := fun k_ => ((fun k_ => k_ ≠ B1 ∧ k_ ≠ gb479)) k_ ∧ some k_ ≠ (u5 : Value).ownBlock) (Kd.R_types (Kd.R_apart' (HO486.out) (Kd.S_typed HO_5.out) (by decide)) BK479.out (by decide)) (fun k_ hk => ⟨⟨hk.1.1, hk.2⟩, hk.1.2⟩))).1 k_ hk_.symm) ?aF ?aO ?aB ?aS ?aL ?_
 (case aP => exact k61_mkM _ _ _ (⟨(rd_T61 l0 x11_1).f0, y484, (rd_T61 l0 x11_1).f2⟩ : S61) (Kd.R_mono (Kd.R_tight rfl (Kd.R_mono (ok' := fun k_ => ((fun k_ => k_ ≠ B1 ∧ k_ ≠ gb479)) k_ ∧ some k_ ≠ (u5 : Value).ownBlock) (Kd.R_types (Kd.R_apart' (HO486.out) (Kd.S_typed HO_5.out) (by decide)) BK479.out (by decide)) (fun k_ hk => ⟨⟨hk.1.1, hk.2⟩, hk.1.2⟩))) (fun _ h_ => h_)))
 (case aB => exact (pb1_ HB.out GE479.out))
 (case aF => exact (fun k_ hk => ⟨Kd.freshB (g := B1) (o := .cells #[.int .i64 a1_0] 3 (0, 0)) (pk_ BK1.out) k_ hk, Kd.freshB (g := gb479) (o := .cells #[.int .i64 ((rd_T61 l0 x11_1).f0), .slice A478_1 ((rd_T61 l0 x11_1).f1).length c478_1, .int .i64 ((rd_T61 l0 x11_1).f2)] 61 (0, 0)) (pk_ BK479.out) k_ hk⟩))
 (case aO => exact (by (with_reducible repeat (first | apply Kd.S_alloc | apply Kd.S_drewN | apply Kd.S_drew)); exact Kd.S_mono HO_5.out (fun k_ hk => ⟨⟨hk.1.1, hk.1.2⟩, fun e_ => hk.2 e_⟩)))
 (case aS => exact (below_size (pb1_ HB.out GE479.out)))
 (case aL => have := LMc17.out; omega)
 intro v488 w23 ho hb hg hat
 rw [← Ny487.out] at ho
 have _ := Q_ (blk_grown (g := B1) (o := .cells #[.int .i64 a1_0] 3 (0, 0)) (pk_ BK1.out) hg (Kd.S_ne HO_5.out BK1.out (by decide)))
 have _ := Q_ (blk_grown (g := gb479) (o := .cells #[.int .i64 ((rd_T61 l0 x11_1).f0), .slice A478_1 ((rd_T61 l0 x11_1).f1).length c478_1, .int .i64 ((rd_T61 l0 x11_1).f2)] 61 (0, 0)) (pk_ BK479.out) hg (Kd.S_away HO_5.out (fun _ hk => hk.1.2)))
 have _ := Q_ (hb)
 have _ := Q_ (ho)
 clear BK1 BK479 HB HO_5 HO486
 rename_i BK1 BK479 HB HO489
 clear ho hb hg hat
 refine hK.out _ _ (sb_ BK479.out) (fun hHeld => ?_)
 clear hK K
 refine no_ (some 29) ?_
 refine pu_ 12 (some 5) (tf_ 13 13) HT_ ?_
 refine done_ (done_of HT_.out (by kernel_rfl)) ?_
 try go_wp2
 go_roundg k1
 case measure => have := HK1.out; omega
 case rel => exact ⟨(y487), (wrap64 (x11_1 + 1)), el_, H', ⟨by have := HK1.out; omega⟩, ⟨ps_ (Kd.S_mono HO489.out (fun _ hk => hk.1))⟩, ⟨pk_ BK1.out⟩, ⟨pb1_ HB.out GE479.out⟩⟩

/-! ### impl_ForgetOld: function 11 -/
def impl_ForgetOld.f (k : Nat) (l0 : List (S61)) (a1 : Int) : Option ((List (S61))) := (impl_InRange.f a1 0 100000).bind fun t491 => (if t491 = true then ((impl_keptKnown_with_impl_ForgetOld_1.f k l0 a1).bind fun t492 => (some t492)) else (some ([] : List (S61))))
theorem impl_ForgetOld.mono : ∀ a0 a1 k, LeO (impl_ForgetOld.f k a0 a1) (impl_ForgetOld.f (k + 1) a0 a1) := by
 intro a0 a1 k
 unfold impl_ForgetOld.f
 exact mo1_ impl_keptKnown_with_impl_ForgetOld_1.mono
theorem impl_ForgetOld.calls (k : Nat) (A0 : Option Addr) (c0 : Nat) (l0 : List (S61)) (a1 : Int) (r : List (S61)) (w : World) (hr0 : Kd.C k61 w A0 l0.length l0) (hc0 : l0.length ≤ c0) (h : impl_ForgetOld.f k l0 a1 = some r) :
  Calls Try.prog 11 #[.slice A0 l0.length c0, .int .i64 a1] w fun e w' => ∃ v0_ : Value, e = .returned (v0_) ∧ Kd.S k61 61 w' w.heap.size (fun _ => True) v0_ r ∧ Below w.heap.size w w' := by
 have HR0 := Q_ hr0
 have HC0 := Q_ hc0
 clear hr0 hc0
 have HB := Q_ (Below.refl w.heap.size w)
 have H : ((impl_InRange.f a1 0 100000).bind fun t491 => (if t491 = true then ((impl_keptKnown_with_impl_ForgetOld_1.f k l0 a1).bind fun t492 => (some t492)) else (some ([] : List (S61))))) = some r := h
 clear h
 have HS_ := Q_ H
 clear H
 go_enter Try.func11, Try.ntmps11
 go_upto_region 1 with (first | ((with_reducible refine gate_dst (N := 3) rfl ?_); refine box_event ?hg (N := 3) ?hd (cs := #[.int .i64 a1]) (t := 3) ?hr ?_; (case hd => rfl); (case hg => rfl); (case hr => first | (go_simp; done) | (go_simp; rfl)); intro gb490 hg w3 hbox hb; have _ := Q_ (below_step (pb_ HB.out) hb); have BK490 := Q_ (hbox); have GW490 := Q_ ((by rw [hg]; exact (below_size (pb_ HB.out)) : w.heap.size ≤ gb490)); have GE490 := GW490; clear HB; rename_i HB; clear hb hbox hg))
 (try simp only [Act.put, List.setIfInBounds_toArray, List.set_cons_zero, List.set_cons_succ])
 have H := HS_.out
 clear HS_
 replace H := Option.bind_eq_some_iff.mp H
 obtain ⟨t491, A40, H⟩ := H
 (try dsimp only at H)
 have A4 := Q_ A40
 clear A40
 have HS_ := Q_ H
 clear H
 have hcz5_0 : w3.cell? ⟨gb490, 0, none⟩ = some (.int .i64 a1) := (blk_cell BK490.out 0).trans rfl
 have hfz5_0 := blk_frozen BK490.out 0
 go_upto_if 7 with (first | ((with_reducible refine gate_callee (f := 28) rfl ?_); refine gl_ (some 6) Try.func28 #[.int .i64 a1, .int .i64 0, .int .i64 100000] ?_; (with_reducible refine (impl_InRange.calls a1 0 100000 t491 _ A4.out).mono ?_); rintro e w' ⟨rfl, ⟨nd, rfl⟩⟩; refine ⟨_, rfl, ?_⟩))
 (try simp only [Act.put, List.setIfInBounds_toArray, List.set_cons_zero, List.set_cons_succ])
 have H := HS_.out
 clear HS_
 by_cases c6 : t491 = true
 rotate_left
 ·replace c6 := bf_ c6
  subst c6
  rw [if_neg ff_] at H
  obtain rfl := Option.some.inj H
  go_wp2
  go_ret
  exact ⟨_, er_, by first | exact Kd.S_nil _ _ _ _ _ | exact Kd.N_nil _ _ _ _ _ | exact Kd.V_nil _ _ _ _ _ | exact Kd.Q_nil _ _ _ _ _ | exact Kd.R_nil _ _ _ _ _, pb1_ HB.out GE490.out⟩
 subst c6
 rw [if_pos rfl] at H
 replace H := Option.bind_eq_some_iff.mp H
 obtain ⟨t492, A70, H⟩ := H
 replace H : (some t492) = some r := H
 have A7 := Q_ A70
 clear A70
 obtain rfl := Option.some.inj H
 go_wp2_with (first | (go_at_call 29; (with_reducible refine (impl_keptKnown_with_impl_ForgetOld_1.calls k _ _ l0 _ a1 t492 _ ?side1 ?side2 ?side3 A7.out).mono ?_); (case side1 => exact pc_ (Kd.C_below HR0.out (pb1_ HB.out GE490.out))); (case side2 => exact HC0.out); (case side3 => exact pk_ BK490.out); rintro e w8 ⟨v493, rfl, ho0, hb⟩; have _ := Q_ (Kd.S_lower (Kd.S_newB ho0 (g := gb490) (o := .cells #[.int .i64 a1] 3 (0, 0)) (pk_ BK490.out)) (below_size (pb1_ HB.out GE490.out))); have _ := Q_ (bb_ BK490.out hb); have _ := Q_ (below_step (pb1_ HB.out GE490.out) hb); clear BK490 HB; rename_i HO494 BK490 HB; (try clear hb); (try clear hb2); (try clear hk); (try clear hi); (try clear ho0)))
 go_ret
 exact ⟨_, er_, ps_ (Kd.S_mono HO494.out (fun _ hk => trivial)), pb1_ HB.out GE490.out⟩

/-! ### impl_Recall: function 9 -/
def impl_Recall.l0 : Nat → Int → List (S61) → Int → Int → Option (List Int)
 | 0, _, _, _, _ => none
 | k + 1, x1, x11, x12, x13 => if x13 < x12 then (if 0 ≤ x13 then (if x13 < (x11.length : Int) then (if ((rd_T61 x11 x13).f0) = x1 then (some ((rd_T61 x11 x13).f1)) else (impl_Recall.l0 k x1 x11 x12 (wrap64 (x13 + 1)))) else (none)) else (none)) else (some ([] : List Int))
def impl_Recall.f (k : Nat) (l0 : List (S61)) (a1 : Int) (a2 : Int) : Option (List Int) := (impl_ForgetOld.f k l0 a2).bind fun t495 => (impl_Recall.l0 k a1 t495 (t495.length : Int) 0)
theorem impl_Recall.mono_l : ∀ k, (∀ y0 y1 y2 y3, LeO (impl_Recall.l0 k y0 y1 y2 y3) (impl_Recall.l0 (k + 1) y0 y1 y2 y3))
 | 0 => fun _ _ _ _ r h => by simp [impl_Recall.l0] at h
 | k + 1 => by
  have ih0 := impl_Recall.mono_l k
  ·intro y0 y1 y2 y3
   unfold impl_Recall.l0
   exact mo2_ ih0 impl_ForgetOld.mono
theorem impl_Recall.mono : ∀ a0 a1 a2 k, LeO (impl_Recall.f k a0 a1 a2) (impl_Recall.f (k + 1) a0 a1 a2) := by
 intro a0 a1 a2 k
 have ih0 := impl_Recall.mono_l k
 unfold impl_Recall.f
 exact mo2_ ih0 impl_ForgetOld.mono
theorem impl_Recall.calls (k : Nat) (A0 : Option Addr) (c0 : Nat) (l0 : List (S61)) (a1 : Int) (a2 : Int) (r : List Int) (w : World) (hr0 : Kd.C k61 w A0 l0.length l0) (hc0 : l0.length ≤ c0) (h : impl_Recall.f k l0 a1 a2 = some r) :
  Calls Try.prog 9 #[.slice A0 l0.length c0, .int .i64 a1, .int .i64 a2] w fun e w' => ∃ v0_ : Value, e = .returned (v0_) ∧ Kd.R (Kd.int .i64) 3 w' w.heap.size (fun _ => True) v0_ r ∧ Below w.heap.size w w' := by
 have hu61 := Try.underlying61
 have HR0 := Q_ hr0
 have HC0 := Q_ hc0
 clear hr0 hc0
 have HB := Q_ (Below.refl w.heap.size w)
 have H : ((impl_ForgetOld.f k l0 a2).bind fun t495 => (impl_Recall.l0 k a1 t495 (t495.length : Int) 0)) = some r := h
 clear h
 replace H := Option.bind_eq_some_iff.mp H
 obtain ⟨t495, A40, H⟩ := H
 replace H : (impl_Recall.l0 k a1 t495 (t495.length : Int) 0) = some r := H
 have A4 := Q_ A40
 clear A40
 have H' := Q_ H
 clear H
 go_enter Try.func9, Try.ntmps9
 go_wp2_with (first | ((with_reducible refine gate_callee (f := 11) rfl ?_); refine gl_ (some 11) Try.func11 #[.slice A0 l0.length c0, .int .i64 a2] ?_; (with_reducible refine (impl_ForgetOld.calls k _ _ l0 a2 t495 _ ?side1 ?side2 A4.out).mono ?_); (case side1 => exact pc_ HR0.out); (case side2 => exact HC0.out); rintro e w5 ⟨v496, rfl, ho0, hb⟩; refine ⟨_, rfl, ?_⟩; have _ := Q_ (Kd.S_lower ho0 (below_size (pb_ HB.out))); have _ := Q_ (below_step (pb_ HB.out) hb); clear HB; rename_i HO497 HB; (try clear hb); (try clear hb2); (try clear hk); (try clear hi); (try clear ho0); obtain ⟨Ao6, co6, eo6⟩ := Kd.S_slice HO497.out; subst eo6))
 (try simp only [Act.put, List.setIfInBounds_toArray, List.set_cons_zero, List.set_cons_succ])
 go_loopg [13] k (fun kq v13 w' => ∃ (x13_1 : Int), v13 = .int .i64 x13_1 ∧ Aside0 (impl_Recall.l0 kq a1 t495 (t495.length : Int) x13_1 = some r) ∧ Aside0 (kq ≤ k) ∧ Aside0 (Kd.S k61 61 w' w.heap.size (fun _ => True) (.slice Ao6 t495.length co6) t495) ∧ Aside0 (Below w.heap.size w w'))
 case atStart => exact ⟨(0), el_, H', ⟨Nat.le_refl _⟩, ⟨ps_ HO497.out⟩, ⟨pb_ HB.out⟩⟩
 clear H'
 try clear c1
 try clear p2
 obtain ⟨x13_1, rfl, HA, HK1, HO_11, HB⟩ := hrel
 rcases gk with _ | k1
 ·exact absurd HA.out (by simp [impl_Recall.l0])
 have H := HA.out
 clear HA
 simp only [impl_Recall.l0] at H
 by_cases c7 : x13_1 < (t495.length : Int)
 rotate_left
 ·rw [if_neg c7] at H
  have c7b0 : decide (x13_1 < (t495.length : Int)) = false := decide_eq_false c7
  clear c7
  obtain rfl := Option.some.inj H
  go_wp2
  go_ret
  exact ⟨_, er_, by first | exact Kd.R_nil _ _ _ _ _ | exact Kd.N_nil _ _ _ _ _ | exact Kd.V_nil _ _ _ _ _ | exact Kd.Q_nil _ _ _ _ _ | exact Kd.S_nil _ _ _ _ _, pb_ HB.out⟩
 rw [if_pos c7] at H
 have c7b0 : decide (x13_1 < (t495.length : Int)) = true := decide_eq_true c7
 clear c7
 by_cases c8 : 0 ≤ x13_1
 rotate_left
 ·rw [if_neg c8] at H
  exact absurd H (by simp)
 rw [if_pos c8] at H
 have c8b0 : decide (0 ≤ x13_1) = true := decide_eq_true c8
 clear c8
 by_cases c9 : x13_1 < (t495.length : Int)
 rotate_left
 ·rw [if_neg c9] at H
  exact absurd H (by simp)
 rw [if_pos c9] at H
 have c9b0 : decide (x13_1 < (t495.length : Int)) = true := decide_eq_true c9
 clear c9
 have HS_ := Q_ H
 clear H
 have p498 : 0 ≤ (x13_1 : Int) := dt_
 have q498 : x13_1 < (t495.length : Int) := dt_
 obtain ⟨ad498, A498_1, c498_1, e498, hx498_0, hx498_1, hx498_2, hl498_1, hi498_1⟩ := at_T61 (Kd.S_reads' HO_11.out).2.2 x13_1 p498 q498
 cases e498
 obtain ⟨ce498, hce498, hMe498, hcc498⟩ := Kd.S_get HO_11.out z61 x13_1 p498 (by first | exact q498 | exact dt_ | (have e_ := (Kd.S_reads' HO_11.out).1; omega))
 obtain ⟨ve498_1, rfl, ge498_1⟩ := k61_openM hMe498
 have hv498_1 := hcc498 1 _ rfl
 rw [add_field _ _ 1 (by omega)] at hv498_1
 replace hv498_1 := Option.some.inj (hv498_1.symm.trans hx498_1)
 rw [hv498_1] at ge498_1
 have HL498_1 := Q_ (show Kd.R (Kd.int .i64) 3 _ _ _ _ ((rd_T61 t495 x13_1).f1) from ge498_1)
 clear hv498_1 ge498_1
 clear hcc498 hce498
 have HR498_1 := Q_ hi498_1
 have HC498_1 := Q_ hl498_1
 clear hi498_1 hl498_1
 replace p498 := eq_true p498
 replace q498 := eq_true q498
 go_upto_region 4 with (first | ((with_reducible refine gate_dst (N := 8) rfl ?_); refine box_event ?hg (N := 8) ?hd (cs := #[.int .i64 0, .slice none 0 0, .int .i64 0]) (t := 61) ?hr ?_; (case hd => rfl); (case hg => rfl); (case hr => first | (go_simp; done) | (go_simp; rfl)); intro gb499 hg w10 hbox hb; have _ := Q_ (Kd.S_below (Kd.S_elderB (ps_ HO_11.out) gb499 (Nat.le_of_eq hg.symm)) hb); have _ := Q_ (Kd.R_below (pr_ HL498_1.out) hb); have _ := Q_ (Kd.C_below (by repeat (first | (with_reducible exact HR498_1.out) | (with_reducible refine Kd.C_alloc ?_ _) | (with_reducible refine Kd.C_drewN ?_ _) | (with_reducible refine Kd.C_drew ?_) | exact HR498_1.out)) hb); have _ := Q_ (below_step (pb_ HB.out) hb); have BK499 := Q_ (hbox); have GW499 := Q_ ((by rw [hg]; exact (below_size (pb_ HB.out)) : w.heap.size ≤ gb499)); have GE499 := GW499; clear HO_11 HL498_1 HR498_1 HB; rename_i HO_11 HL498_1 HR498_1 HB; clear hb hbox hg; have hcz11 := bc3_ BK499.out))
 (try simp only [Act.put, List.setIfInBounds_toArray, List.set_cons_zero, List.set_cons_succ])
 have H := HS_.out
 clear HS_
 by_cases c12 : ((rd_T61 t495 x13_1).f0) = a1
 rotate_left
 ·rw [if_neg c12] at H
  have c12b0 : (((rd_T61 t495 x13_1).f0) == a1) = false := beq_eq_false_iff_ne.mpr c12
  have c12b1 : (((rd_T61 t495 x13_1).f0) != a1) = true := bne_iff_ne.mpr c12
  (first | rw [c12b0] | (simp only [i64_w, i32_w]; rw [c12b0]) | rw [c12b1] | (have c_ := c12b1; rw [bne] at c_; rw [c_]; clear c_) | skip)
  have H' := Q_ H
  clear H
  have hcz13 := bc3_ BK499.out
  go_wp2
  go_roundg k1
  case measure => have := HK1.out; omega
  case rel => exact ⟨(wrap64 (x13_1 + 1)), el_, H', ⟨by have := HK1.out; omega⟩, ⟨by (with_reducible repeat (first | apply Kd.S_alloc | apply Kd.S_drewN | apply Kd.S_drew)); exact Kd.S_mono (Kd.S_far (p := ⟨gb499, 2, none⟩) (Kd.S_far (p := ⟨gb499, 1, none⟩) (Kd.S_far (p := ⟨gb499, 0, none⟩) (Kd.S_mono HO_11.out (fun k_ hk => (⟨hk, hk.2⟩ : _ ∧ k_ ≠ gb499))) (fun _ hk => hk.2) (.int .i64 ((rd_T61 t495 x13_1).f0))) (fun _ hk => hk.2) (.slice A498_1 ((rd_T61 t495 x13_1).f1).length c498_1)) (fun _ hk => hk.2) (.int .i64 ((rd_T61 t495 x13_1).f2))) (fun _ hk => trivial)⟩, ⟨pb1_ HB.out GE499.out⟩⟩
 rw [if_pos c12] at H
 have c12b0 : (((rd_T61 t495 x13_1).f0) == a1) = true := beq_iff_eq.mpr c12
 have c12b1 : (((rd_T61 t495 x13_1).f0) != a1) = false := bne_eq_false_iff_eq.mpr c12
 clear c12
 (first | rw [c12b0] | (simp only [i64_w, i32_w]; rw [c12b0]) | rw [c12b1] | (have c_ := c12b1; rw [bne] at c_; rw [c_]; clear c_) | skip)
 obtain rfl := Option.some.inj H
 have hcz14 := bc3_ BK499.out
 go_wp2
 go_ret
 exact ⟨_, er_, pr_ (Kd.R_mono (rf3_ HL498_1.out BK499.out) (fun _ hk => trivial)), pb1_ HB.out GE499.out⟩

/-! ### spec_DrawRecall: function 33 -/
def spec_DrawRecall.f (k : Nat) (l0 : List Int) : Option ((List (S61)) × Int × Int) := (spec_l1New.f k l0).bind fun bt500 => ((spec_l23Any.f k bt500.1 bt500.2.1 bt500.2.2).bind fun bt504 => ((spec_l1Below.f bt500.1 bt504.2.1 bt504.2.2 7).bind fun bt509 => ((spec_l1Int.f bt500.1 bt509.2.1 bt509.2.2 (([0, 20, 30, 40, 60, 100000, 100001, (-1)] : List Int))).bind fun bt515 => (some (bt504.1, bt509.1, bt515.1)))))
theorem spec_DrawRecall.mono : ∀ a0 k, LeO (spec_DrawRecall.f k a0) (spec_DrawRecall.f (k + 1) a0) := by
 intro a0 k
 unfold spec_DrawRecall.f
 exact mo2_ spec_l1New.mono spec_l23Any.mono
theorem spec_DrawRecall.calls (k : Nat) (A0 : Option Addr) (c0 : Nat) (l0 : List Int) (r1 : List (S61)) (r2 : Int) (r3 : Int) (w : World) (hr0 : Kd.C (Kd.int .u8) w A0 l0.length l0) (hc0 : l0.length ≤ c0) (h : spec_DrawRecall.f k l0 = some (r1, r2, r3)) :
  Calls Try.prog 33 #[.slice A0 l0.length c0] w fun e w' => ∃ v0_ : Value, e = .returned (.tuple #[v0_, .int .i64 r2, .int .i64 r3]) ∧ Kd.S k61 61 w' w.heap.size (fun _ => True) v0_ r1 ∧ Below w.heap.size w w' := by
 have HR0 := Q_ hr0
 have HC0 := Q_ hc0
 clear hr0 hc0
 have HB := Q_ (Below.refl w.heap.size w)
 have H : ((spec_l1New.f k l0).bind fun bt500 => ((spec_l23Any.f k bt500.1 bt500.2.1 bt500.2.2).bind fun bt504 => ((spec_l1Below.f bt500.1 bt504.2.1 bt504.2.2 7).bind fun bt509 => ((spec_l1Int.f bt500.1 bt509.2.1 bt509.2.2 (([0, 20, 30, 40, 60, 100000, 100001, (-1)] : List Int))).bind fun bt515 => (some (bt504.1, bt509.1, bt515.1)))))) = some (r1, r2, r3) := h
 clear h
 replace H := Option.bind_eq_some_iff.mp H
 obtain ⟨⟨t500, t501, t502⟩, A20, H⟩ := H
 (try dsimp only at H)
 have A2 := Q_ A20
 clear A20
 replace H := Option.bind_eq_some_iff.mp H
 obtain ⟨⟨t504, t507, t508⟩, A30, H⟩ := H
 (try dsimp only at H)
 have A3 := Q_ A30
 clear A30
 replace H := Option.bind_eq_some_iff.mp H
 obtain ⟨⟨t509, t510, t511⟩, A40, H⟩ := H
 (try dsimp only at H)
 have A4 := Q_ A40
 clear A40
 obtain ⟨y512, hy512⟩ : ∃ y_ : List Int, y_ = (([0, 20, 30, 40, 60, 100000, 100001, (-1)] : List Int)) := ⟨_, rfl⟩
 replace H : ((spec_l1Int.f t500 t510 t511 y512).bind fun bt515 => (some (t504, t509, bt515.1))) = some (r1, r2, r3) := hb_ hy512 H
 have Ny512 := Q_ hy512
 clear hy512
 replace H := Option.bind_eq_some_iff.mp H
 obtain ⟨⟨t515, t516, t517⟩, A50, H⟩ := H
 replace H : (some (t504, t509, t515)) = some (r1, r2, r3) := H
 have A5 := Q_ A50
 clear A50
 simp only [Option.some.injEq, Prod.mk.injEq] at H
 obtain ⟨rfl, rfl, rfl⟩ := H
 go_enter Try.func33, Try.ntmps33
 go_wp2_with (first | ((with_reducible refine gate_callee (f := 23) rfl ?_); refine gl_ (some 9) Try.func23 #[.slice A0 l0.length c0] ?_; (with_reducible refine (spec_l1New.calls k _ _ l0 t500 t501 t502 w _ ?side1 ?side2 ?side3 A2.out).mono ?_); (case side1 => exact qb0_ HB.out); (case side2 => exact HR0.out); (case side3 => exact HC0.out); rintro e w6 ⟨g503, rfl, hi, hb, hb2⟩; refine ⟨_, rfl, ?_⟩; have _ := Q_ (hb); have _ := Q_ (hi); clear HB; rename_i HB HI503; (try clear hb); (try clear hb2); (try clear hk); (try clear hi)) | ((with_reducible refine gate_callee (f := 24) rfl ?_); refine gl_ (some 11) Try.func24 #[.pointer (some ⟨g503, 0, none⟩)] ?_; (with_reducible refine (spec_l23Any.calls k g503 t500 t501 t502 t504 t507 t508 w _ ?side1 ?side2 A3.out).mono ?_); (case side1 => exact qs77_0_ HI503.out); (case side2 => exact qb1_ HB.out (IsS77.ge HI503.out)); rintro e w7 ⟨v505, rfl, ho0, hi, hb, hk⟩; refine ⟨_, rfl, ?_⟩; have _ := Q_ (Kd.S_lower ho0 (below_size (qb1_ HB.out (IsS77.ge HI503.out)))); have _ := Q_ (hb); have _ := Q_ (hi); clear HB HI503; rename_i HO506 HB HI503; (try clear hb); (try clear hb2); (try clear hk); (try clear hi); (try clear ho0)) | ((with_reducible refine gate_callee (f := 25) rfl ?_); refine gl_ (some 13) Try.func25 #[.pointer (some ⟨g503, 0, none⟩), .int .i64 7] ?_; (with_reducible refine (spec_l1Below.calls g503 t500 t507 t508 7 t509 t510 t511 w _ ?side1 ?side2 A4.out).mono ?_); (case side1 => exact qs77_0_ HI503.out); (case side2 => exact qb1_ HB.out (IsS77.ge HI503.out)); rintro e w8 ⟨rfl, hi, hb, hk⟩; refine ⟨_, rfl, ?_⟩; have _ := Q_ (Kd.S_mono (Kd.S_keep (IsS77.apartS (show IsS77 w _ g503 t500 t507 t508 from qs77_0_ HI503.out) (ps_ HO506.out) (by decide)) hk (fun _ h => h.2)) (fun _ h => h.1)); have _ := Q_ (hb); have _ := Q_ (hi); clear HO506 HB HI503; rename_i HO506 HB HI503; (try clear hb); (try clear hb2); (try clear hk); (try clear hi)) | ((with_reducible refine gate_dst (N := 17) rfl ?_); refine Kd.R_lit (Kd.int .i64) _ 3 ?hg (N := 17) ?hd (xs := ([0, 20, 30, 40, 60, 100000, 100001, (-1)] : List Int)) (inner := [.int .i64 0, .int .i64 20, .int .i64 30, .int .i64 40, .int .i64 60, .int .i64 100000, .int .i64 100001, .int .i64 (-1)]) (ok := fun _ => True) (okp := fun _ => True) ?hr ?hp (fun _ hk => hk) trivial (Below.refl _ _) (Nat.le_refl _) (by simp) ?_; (case hd => rfl); (case hg => rfl); (case hr => first | (go_simp; done) | (go_simp; rfl)); (case hp => exact (Reps.one (show Kd.M (Kd.int .i64) _ _ _ 0 [.int .i64 0] from rfl) (Reps.one (show Kd.M (Kd.int .i64) _ _ _ 20 [.int .i64 20] from rfl) (Reps.one (show Kd.M (Kd.int .i64) _ _ _ 30 [.int .i64 30] from rfl) (Reps.one (show Kd.M (Kd.int .i64) _ _ _ 40 [.int .i64 40] from rfl) (Reps.one (show Kd.M (Kd.int .i64) _ _ _ 60 [.int .i64 60] from rfl) (Reps.one (show Kd.M (Kd.int .i64) _ _ _ 100000 [.int .i64 100000] from rfl) (Reps.one (show Kd.M (Kd.int .i64) _ _ _ 100001 [.int .i64 100001] from rfl) (Reps.one (show Kd.M (Kd.int .i64) _ _ _ (-1) [.int .i64 (-1)] from rfl) (Reps.none _ _)))))))))); intro v513 w9 ho10 hb hg_ hnew_; clear hg_ hnew_; (first | rw [← Ny512.out] at ho10 | (simp only [Int.reduceToNat] at ho10; rw [← Ny512.out] at ho10)); have _ := Q_ (Kd.S_elder' (ps_ HO506.out) (Kd.R_base ho10) hb); have _ := Q_ (Kd.R_lower ho10 (below_size (qb1_ HB.out (IsS77.ge HI503.out)))); have _ := Q_ (IsS77.below (qs77_0_ HI503.out) hb); have _ := Q_ (below_step (qb1_ HB.out (IsS77.ge HI503.out)) hb); clear HO506 HI503 HB; rename_i HO506 HO514 HI503 HB; clear hb ho10; obtain ⟨Ao11, co11, eo11⟩ := Kd.R_slice HO514.out; subst eo11) | ((with_reducible refine gate_callee (f := 27) rfl ?_); refine gl_ (some 18) Try.func27 #[.pointer (some ⟨g503, 0, none⟩), .slice Ao11 y512.length co11] ?_; (with_reducible refine (spec_l1Int.calls g503 t500 t510 t511 _ _ y512 t515 t516 t517 w _ ?side1 ?side2 ?side3 ?side4 ?side5 A5.out).mono ?_); (case side1 => exact qs77_0_ HI503.out); (case side2 => exact qb1_ HB.out (IsS77.ge HI503.out)); (case side3 => exact pc_ ((Kd.R_reads' HO514.out).2.2)); (case side4 => exact (Kd.R_reads' HO514.out).2.1); (case side5 => exact far_slice (IsS77.own_ne HI503.out HO514.out (by decide))); rintro e w12 ⟨rfl, hi, hb, hk⟩; refine ⟨_, rfl, ?_⟩; have _ := Q_ (Kd.S_mono (Kd.S_keep (IsS77.apartS (show IsS77 w _ g503 t500 t510 t511 from qs77_0_ HI503.out) (ps_ HO506.out) (by decide)) hk (fun _ h => h.2)) (fun _ h => h.1)); have _ := Q_ (Kd.R_mono (Kd.R_keep (IsS77.apart (show IsS77 w _ g503 t500 t510 t511 from qs77_0_ HI503.out) (pr_ HO514.out) (by decide)) hk (fun _ h => h.2)) (fun _ h => h.1)); have _ := Q_ (hb); have _ := Q_ (hi); clear HO506 HO514 HB HI503; rename_i HO506 HO514 HB HI503; (try clear hb); (try clear hb2); (try clear hk); (try clear hi)))
 go_ret3
 exact ⟨_, er_, ps_ (Kd.S_mono HO506.out (fun _ hk => trivial)), qb1_ HB.out (IsS77.ge HI503.out)⟩

/-! ### spec_DrawForgetOld: function 10 -/
def spec_DrawForgetOld.f (k : Nat) (l0 : List Int) : Option ((List (S61)) × Int) := (spec_DrawRecall.f k l0).bind fun bt518 => (some (bt518.1, bt518.2.2))
theorem spec_DrawForgetOld.mono : ∀ a0 k, LeO (spec_DrawForgetOld.f k a0) (spec_DrawForgetOld.f (k + 1) a0) := by
 intro a0 k
 unfold spec_DrawForgetOld.f
 exact mo1_ spec_DrawRecall.mono
theorem spec_DrawForgetOld.calls (k : Nat) (A0 : Option Addr) (c0 : Nat) (l0 : List Int) (r1 : List (S61)) (r2 : Int) (w : World) (hr0 : Kd.C (Kd.int .u8) w A0 l0.length l0) (hc0 : l0.length ≤ c0) (h : spec_DrawForgetOld.f k l0 = some (r1, r2)) :
  Calls Try.prog 10 #[.slice A0 l0.length c0] w fun e w' => ∃ v0_ : Value, e = .returned (.tuple #[v0_, .int .i64 r2]) ∧ Kd.S k61 61 w' w.heap.size (fun _ => True) v0_ r1 ∧ Below w.heap.size w w' := by
 have HR0 := Q_ hr0
 have HC0 := Q_ hc0
 clear hr0 hc0
 have HB := Q_ (Below.refl w.heap.size w)
 have H : ((spec_DrawRecall.f k l0).bind fun bt518 => (some (bt518.1, bt518.2.2))) = some (r1, r2) := h
 clear h
 replace H := Option.bind_eq_some_iff.mp H
 obtain ⟨⟨t518, t519, t520⟩, A20, H⟩ := H
 replace H : (some (t518, t520)) = some (r1, r2) := H
 have A2 := Q_ A20
 clear A20
 simp only [Option.some.injEq, Prod.mk.injEq] at H
 obtain ⟨rfl, rfl⟩ := H
 go_enter Try.func10, Try.ntmps10
 go_wp2_with (first | ((with_reducible refine gate_callee (f := 33) rfl ?_); refine gl_ (some 9) Try.func33 #[.slice A0 l0.length c0] ?_; (with_reducible refine (spec_DrawRecall.calls k _ _ l0 t518 t519 t520 _ ?side1 ?side2 A2.out).mono ?_); (case side1 => exact pc_ HR0.out); (case side2 => exact HC0.out); rintro e w3 ⟨v521, rfl, ho0, hb⟩; refine ⟨_, rfl, ?_⟩; have _ := Q_ (Kd.S_lower ho0 (below_size (pb_ HB.out))); have _ := Q_ (below_step (pb_ HB.out) hb); clear HB; rename_i HO522 HB; (try clear hb); (try clear hb2); (try clear hk); (try clear hi); (try clear ho0)))
 go_ret2
 exact ⟨_, er_, ps_ HO522.out, pb_ HB.out⟩

/-! ### spec_DrawIsMemory: function 12 -/
def spec_DrawIsMemory.f (k : Nat) (l0 : List Int) : Option ((List (S61)) × Int) := (spec_l1New.f k l0).bind fun bt523 => ((spec_l23Any.f k bt523.1 bt523.2.1 bt523.2.2).bind fun bt527 => ((spec_l1Int.f bt523.1 bt527.2.1 bt527.2.2 (([40, 40, 60, 5, (-1)] : List Int))).bind fun bt535 => (some (bt527.1, bt535.1))))
theorem spec_DrawIsMemory.mono : ∀ a0 k, LeO (spec_DrawIsMemory.f k a0) (spec_DrawIsMemory.f (k + 1) a0) := by
 intro a0 k
 unfold spec_DrawIsMemory.f
 exact mo2_ spec_l1New.mono spec_l23Any.mono
theorem spec_DrawIsMemory.calls (k : Nat) (A0 : Option Addr) (c0 : Nat) (l0 : List Int) (r1 : List (S61)) (r2 : Int) (w : World) (hr0 : Kd.C (Kd.int .u8) w A0 l0.length l0) (hc0 : l0.length ≤ c0) (h : spec_DrawIsMemory.f k l0 = some (r1, r2)) :
  Calls Try.prog 12 #[.slice A0 l0.length c0] w fun e w' => ∃ v0_ : Value, e = .returned (.tuple #[v0_, .int .i64 r2]) ∧ Kd.S k61 61 w' w.heap.size (fun _ => True) v0_ r1 ∧ Below w.heap.size w w' := by
 have HR0 := Q_ hr0
 have HC0 := Q_ hc0
 clear hr0 hc0
 have HB := Q_ (Below.refl w.heap.size w)
 have H : ((spec_l1New.f k l0).bind fun bt523 => ((spec_l23Any.f k bt523.1 bt523.2.1 bt523.2.2).bind fun bt527 => ((spec_l1Int.f bt523.1 bt527.2.1 bt527.2.2 (([40, 40, 60, 5, (-1)] : List Int))).bind fun bt535 => (some (bt527.1, bt535.1))))) = some (r1, r2) := h
 clear h
 replace H := Option.bind_eq_some_iff.mp H
 obtain ⟨⟨t523, t524, t525⟩, A20, H⟩ := H
 (try dsimp only at H)
 have A2 := Q_ A20
 clear A20
 replace H := Option.bind_eq_some_iff.mp H
 obtain ⟨⟨t527, t530, t531⟩, A30, H⟩ := H
 (try dsimp only at H)
 have A3 := Q_ A30
 clear A30
 obtain ⟨y532, hy532⟩ : ∃ y_ : List Int, y_ = (([40, 40, 60, 5, (-1)] : List Int)) := ⟨_, rfl⟩
 replace H : ((spec_l1Int.f t523 t530 t531 y532).bind fun bt535 => (some (t527, bt535.1))) = some (r1, r2) := hb_ hy532 H
 have Ny532 := Q_ hy532
 clear hy532
 replace H := Option.bind_eq_some_iff.mp H
 obtain ⟨⟨t535, t536, t537⟩, A40, H⟩ := H
 replace H : (some (t527, t535)) = some (r1, r2) := H
 have A4 := Q_ A40
 clear A40
 simp only [Option.some.injEq, Prod.mk.injEq] at H
 obtain ⟨rfl, rfl⟩ := H
 go_enter Try.func12, Try.ntmps12
 go_wp2_with (first | ((with_reducible refine gate_callee (f := 23) rfl ?_); refine gl_ (some 7) Try.func23 #[.slice A0 l0.length c0] ?_; (with_reducible refine (spec_l1New.calls k _ _ l0 t523 t524 t525 w _ ?side1 ?side2 ?side3 A2.out).mono ?_); (case side1 => exact qb0_ HB.out); (case side2 => exact HR0.out); (case side3 => exact HC0.out); rintro e w5 ⟨g526, rfl, hi, hb, hb2⟩; refine ⟨_, rfl, ?_⟩; have _ := Q_ (hb); have _ := Q_ (hi); clear HB; rename_i HB HI526; (try clear hb); (try clear hb2); (try clear hk); (try clear hi)) | ((with_reducible refine gate_callee (f := 24) rfl ?_); refine gl_ (some 9) Try.func24 #[.pointer (some ⟨g526, 0, none⟩)] ?_; (with_reducible refine (spec_l23Any.calls k g526 t523 t524 t525 t527 t530 t531 w _ ?side1 ?side2 A3.out).mono ?_); (case side1 => exact qs77_0_ HI526.out); (case side2 => exact qb1_ HB.out (IsS77.ge HI526.out)); rintro e w6 ⟨v528, rfl, ho0, hi, hb, hk⟩; refine ⟨_, rfl, ?_⟩; have _ := Q_ (Kd.S_lower ho0 (below_size (qb1_ HB.out (IsS77.ge HI526.out)))); have _ := Q_ (hb); have _ := Q_ (hi); clear HB HI526; rename_i HO529 HB HI526; (try clear hb); (try clear hb2); (try clear hk); (try clear hi); (try clear ho0)) | ((with_reducible refine gate_dst (N := 12) rfl ?_); refine Kd.R_lit (Kd.int .i64) _ 3 ?hg (N := 12) ?hd (xs := ([40, 40, 60, 5, (-1)] : List Int)) (inner := [.int .i64 40, .int .i64 40, .int .i64 60, .int .i64 5, .int .i64 (-1)]) (ok := fun _ => True) (okp := fun _ => True) ?hr ?hp (fun _ hk => hk) trivial (Below.refl _ _) (Nat.le_refl _) (by simp) ?_; (case hd => rfl); (case hg => rfl); (case hr => first | (go_simp; done) | (go_simp; rfl)); (case hp => exact (Reps.one (show Kd.M (Kd.int .i64) _ _ _ 40 [.int .i64 40] from rfl) (Reps.one (show Kd.M (Kd.int .i64) _ _ _ 40 [.int .i64 40] from rfl) (Reps.one (show Kd.M (Kd.int .i64) _ _ _ 60 [.int .i64 60] from rfl) (Reps.one (show Kd.M (Kd.int .i64) _ _ _ 5 [.int .i64 5] from rfl) (Reps.one (show Kd.M (Kd.int .i64) _ _ _ (-1) [.int .i64 (-1)] from rfl) (Reps.none _ _))))))); intro v533 w7 ho8 hb hg_ hnew_; clear hg_ hnew_; (first | rw [← Ny532.out] at ho8 | (simp only [Int.reduceToNat] at ho8; rw [← Ny532.out] at ho8)); have _ := Q_ (Kd.S_elder' (ps_ HO529.out) (Kd.R_base ho8) hb); have _ := Q_ (Kd.R_lower ho8 (below_size (qb1_ HB.out (IsS77.ge HI526.out)))); have _ := Q_ (IsS77.below (qs77_0_ HI526.out) hb); have _ := Q_ (below_step (qb1_ HB.out (IsS77.ge HI526.out)) hb); clear HO529 HI526 HB; rename_i HO529 HO534 HI526 HB; clear hb ho8; obtain ⟨Ao9, co9, eo9⟩ := Kd.R_slice HO534.out; subst eo9) | ((with_reducible refine gate_callee (f := 27) rfl ?_); refine gl_ (some 13) Try.func27 #[.pointer (some ⟨g526, 0, none⟩), .slice Ao9 y532.length co9] ?_; (with_reducible refine (spec_l1Int.calls g526 t523 t530 t531 _ _ y532 t535 t536 t537 w _ ?side1 ?side2 ?side3 ?side4 ?side5 A4.out).mono ?_); (case side1 => exact qs77_0_ HI526.out); (case side2 => exact qb1_ HB.out (IsS77.ge HI526.out)); (case side3 => exact pc_ ((Kd.R_reads' HO534.out).2.2)); (case side4 => exact (Kd.R_reads' HO534.out).2.1); (case side5 => exact far_slice (IsS77.own_ne HI526.out HO534.out (by decide))); rintro e w10 ⟨rfl, hi, hb, hk⟩; refine ⟨_, rfl, ?_⟩; have _ := Q_ (Kd.S_mono (Kd.S_keep (IsS77.apartS (show IsS77 w _ g526 t523 t530 t531 from qs77_0_ HI526.out) (ps_ HO529.out) (by decide)) hk (fun _ h => h.2)) (fun _ h => h.1)); have _ := Q_ (Kd.R_mono (Kd.R_keep (IsS77.apart (show IsS77 w _ g526 t523 t530 t531 from qs77_0_ HI526.out) (pr_ HO534.out) (by decide)) hk (fun _ h => h.2)) (fun _ h => h.1)); have _ := Q_ (hb); have _ := Q_ (hi); clear HO529 HO534 HB HI526; rename_i HO529 HO534 HB HI526; (try clear hb); (try clear hb2); (try clear hk); (try clear hi)))
 go_ret2
 exact ⟨_, er_, ps_ (Kd.S_mono HO529.out (fun _ hk => trivial)), qb1_ HB.out (IsS77.ge HI526.out)⟩

/-! ### impl_areNumbers_1: function 100008 -/
def impl_areNumbers_1.f (a0 : Int) (a1_0 : Int) (a2_0 : Int) : Option (Bool) := (impl_InRange.f a0 a1_0 a2_0).bind fun t538 => (some (!t538))
theorem impl_areNumbers_1.calls (a0 : Int) (B1 : Nat) (a1_0 : Int) (B2 : Nat) (a2_0 : Int) (r : Bool) (w : World) (hbv1 : w.heap[B1]? = some (.cells #[.int .i64 a1_0] 3 (0, 0))) (hbv2 : w.heap[B2]? = some (.cells #[.int .i64 a2_0] 3 (0, 0))) (hnv1_2 : B1 ≠ B2) (h : impl_areNumbers_1.f a0 a1_0 a2_0 = some r) :
  Calls Try.prog 48 #[.int .i64 a0, .pointer (some ⟨B1, 0, none⟩), .pointer (some ⟨B2, 0, none⟩)] w fun e w' => e = .returned (.bool r) ∧ Drawn0 w w' := by
 have BK1 := Q_ hbv1
 clear hbv1
 have BK2 := Q_ hbv2
 clear hbv2
 have NB1_2 := Q_ hnv1_2
 have NB2_1 := Q_ (Ne.symm hnv1_2)
 clear hnv1_2
 have H : ((impl_InRange.f a0 a1_0 a2_0).bind fun t538 => (some (!t538))) = some r := h
 clear h
 replace H := Option.bind_eq_some_iff.mp H
 obtain ⟨t538, A40, H⟩ := H
 replace H : (some (!t538)) = some r := H
 have A4 := Q_ A40
 clear A40
 obtain rfl := Option.some.inj H
 have hnb5 := NB1_2.out
 have hnc5 := NB2_1.out
 have hcz6_0 : w.cell? ⟨B1, 0, none⟩ = some (.int .i64 a1_0) := (blk_cell BK1.out 0).trans rfl
 have hfz6_0 := blk_frozen BK1.out 0
 have hcz7_0 : w.cell? ⟨B2, 0, none⟩ = some (.int .i64 a2_0) := (blk_cell BK2.out 0).trans rfl
 have hfz7_0 := blk_frozen BK2.out 0
 go_enter Try.func48, Try.ntmps48
 go_wp2_with (first | ((with_reducible refine gate_callee (f := 28) rfl ?_); refine gl_ (some 8) Try.func28 #[.int .i64 a0, .int .i64 a1_0, .int .i64 a2_0] ?_; (with_reducible refine (impl_InRange.calls a0 a1_0 a2_0 t538 _ A4.out).mono ?_); rintro e w' ⟨rfl, ⟨nd, rfl⟩⟩; refine ⟨_, rfl, ?_⟩))
 go_ret
 exact ⟨by first | rfl | (simp; done) | (simp [*]; done), by repeat (first | exact Drawn0.refl _ | apply Drawn0.step)⟩

/-! ### slices_IndexFunc_int_int_with_impl_areNumbers_1: function 100007 -/
def slices_IndexFunc_int_int_with_impl_areNumbers_1.l0 : Nat → List Int → Int → Int → Int → Int → Option (Int)
 | 0, _, _, _, _, _ => none
 | k + 1, x0, x7, x8, x2000, x3000 => if x8 < x7 then (if 0 ≤ x8 then (if x8 < (x0.length : Int) then ((impl_areNumbers_1.f (rd x0 x8) x2000 x3000).bind fun t540 => (if t540 = true then (some x8) else (slices_IndexFunc_int_int_with_impl_areNumbers_1.l0 k x0 x7 (wrap64 (x8 + 1)) x2000 x3000))) else (none)) else (none)) else (some (-1))
def slices_IndexFunc_int_int_with_impl_areNumbers_1.f (k : Nat) (l0 : List Int) (a1_0 : Int) (a2_0 : Int) : Option (Int) := slices_IndexFunc_int_int_with_impl_areNumbers_1.l0 k l0 (l0.length : Int) 0 a1_0 a2_0
theorem slices_IndexFunc_int_int_with_impl_areNumbers_1.mono_l : ∀ k, (∀ y0 y1 y2 y3 y4, LeO (slices_IndexFunc_int_int_with_impl_areNumbers_1.l0 k y0 y1 y2 y3 y4) (slices_IndexFunc_int_int_with_impl_areNumbers_1.l0 (k + 1) y0 y1 y2 y3 y4))
 | 0 => fun _ _ _ _ _ r h => by simp [slices_IndexFunc_int_int_with_impl_areNumbers_1.l0] at h
 | k + 1 => by
  have ih0 := slices_IndexFunc_int_int_with_impl_areNumbers_1.mono_l k
  ·intro y0 y1 y2 y3 y4
   unfold slices_IndexFunc_int_int_with_impl_areNumbers_1.l0
   exact mo1_ ih0
theorem slices_IndexFunc_int_int_with_impl_areNumbers_1.mono : ∀ a0 a1 a2 k, LeO (slices_IndexFunc_int_int_with_impl_areNumbers_1.f k a0 a1 a2) (slices_IndexFunc_int_int_with_impl_areNumbers_1.f (k + 1) a0 a1 a2) := by
 intro a0 a1 a2 k
 have ih0 := slices_IndexFunc_int_int_with_impl_areNumbers_1.mono_l k
 unfold slices_IndexFunc_int_int_with_impl_areNumbers_1.f
 exact mo1_ ih0
theorem slices_IndexFunc_int_int_with_impl_areNumbers_1.calls (k : Nat) (A0 : Option Addr) (c0 : Nat) (l0 : List Int) (B1 : Nat) (a1_0 : Int) (B2 : Nat) (a2_0 : Int) (r : Int) (w : World) (hr0 : Kd.C (Kd.int .i64) w A0 l0.length l0) (hc0 : l0.length ≤ c0) (hbv1 : w.heap[B1]? = some (.cells #[.int .i64 a1_0] 3 (0, 0))) (hbv2 : w.heap[B2]? = some (.cells #[.int .i64 a2_0] 3 (0, 0))) (hnv1_2 : B1 ≠ B2) (h : slices_IndexFunc_int_int_with_impl_areNumbers_1.f k l0 a1_0 a2_0 = some r) :
  Calls Try.prog 58 #[.slice A0 l0.length c0, .func (.func 48) #[] #[.pointer (some ⟨B1, 0, none⟩), .pointer (some ⟨B2, 0, none⟩)]] w fun e w' => e = .returned (.int .i64 r) ∧ Below w.heap.size w w' := by
 have HR0 := Q_ hr0
 have HC0 := Q_ hc0
 clear hr0 hc0
 have BK1 := Q_ hbv1
 clear hbv1
 have BK2 := Q_ hbv2
 clear hbv2
 have NB1_2 := Q_ hnv1_2
 have NB2_1 := Q_ (Ne.symm hnv1_2)
 clear hnv1_2
 have HB := Q_ (Below.refl w.heap.size w)
 have H : (slices_IndexFunc_int_int_with_impl_areNumbers_1.l0 k l0 (l0.length : Int) 0 a1_0 a2_0) = some r := h
 clear h
 have H' := Q_ H
 clear H
 go_enter Try.func58, Try.ntmps58
 go_wp2
 go_loopg [8] k (fun kq v8 w' => ∃ (x8_1 : Int), v8 = .int .i64 x8_1 ∧ Aside0 (slices_IndexFunc_int_int_with_impl_areNumbers_1.l0 kq l0 (l0.length : Int) x8_1 a1_0 a2_0 = some r) ∧ Aside0 (kq ≤ k) ∧ Aside0 (w'.heap[B1]? = some (.cells #[.int .i64 a1_0] 3 (0, 0))) ∧ Aside0 (w'.heap[B2]? = some (.cells #[.int .i64 a2_0] 3 (0, 0))) ∧ Aside0 (Below w.heap.size w w'))
 case atStart => exact ⟨(0), el_, H', ⟨Nat.le_refl _⟩, ⟨pk_ BK1.out⟩, ⟨pk_ BK2.out⟩, ⟨pb_ HB.out⟩⟩
 clear H'
 try clear p2
 obtain ⟨x8_1, rfl, HA, HK1, BK1, BK2, HB⟩ := hrel
 rcases gk with _ | k1
 ·exact absurd HA.out (by simp [slices_IndexFunc_int_int_with_impl_areNumbers_1.l0])
 have H := HA.out
 clear HA
 simp only [slices_IndexFunc_int_int_with_impl_areNumbers_1.l0] at H
 by_cases c4 : x8_1 < (l0.length : Int)
 rotate_left
 ·rw [if_neg c4] at H
  have c4b0 : decide (x8_1 < (l0.length : Int)) = false := decide_eq_false c4
  clear c4
  obtain rfl := Option.some.inj H
  go_wp2
  go_ret
  exact ⟨er_, pb_ HB.out⟩
 rw [if_pos c4] at H
 have c4b0 : decide (x8_1 < (l0.length : Int)) = true := decide_eq_true c4
 clear c4
 by_cases c5 : 0 ≤ x8_1
 rotate_left
 ·rw [if_neg c5] at H
  exact absurd H (by simp)
 rw [if_pos c5] at H
 have c5b0 : decide (0 ≤ x8_1) = true := decide_eq_true c5
 clear c5
 by_cases c6 : x8_1 < (l0.length : Int)
 rotate_left
 ·rw [if_neg c6] at H
  exact absurd H (by simp)
 rw [if_pos c6] at H
 have c6b0 : decide (x8_1 < (l0.length : Int)) = true := decide_eq_true c6
 clear c6
 replace H := Option.bind_eq_some_iff.mp H
 obtain ⟨t540, A70, H⟩ := H
 (try dsimp only at H)
 have A7 := Q_ A70
 clear A70
 have HS_ := Q_ H
 clear H
 have p539 : 0 ≤ (x8_1 : Int) := dt_
 have q539 : x8_1 < (l0.length : Int) := dt_
 obtain ⟨ad539, e539, hx539_0⟩ := Kd.at_int HR0.out x8_1 p539 q539
 cases e539
 replace hx539_0 := bt_ HB hx539_0
 replace p539 := eq_true p539
 replace q539 := eq_true q539
 go_upto_if 16 with (first | (go_at_call 48; (with_reducible refine (impl_areNumbers_1.calls (rd l0 x8_1) _ a1_0 _ a2_0 t540 _ ?side1 ?side2 ?side3 A7.out).mono ?_); (case side1 => exact pk_ BK1.out); (case side2 => exact pk_ BK2.out); (case side3 => exact NB1_2.out); rintro e w' ⟨rfl, ⟨nd, rfl⟩⟩))
 (try simp only [Act.put, List.setIfInBounds_toArray, List.set_cons_zero, List.set_cons_succ])
 have H := HS_.out
 clear HS_
 by_cases c8 : t540 = true
 rotate_left
 ·replace c8 := bf_ c8
  subst c8
  rw [if_neg ff_] at H
  have H' := Q_ H
  clear H
  go_wp2
  go_roundg k1
  case measure => have := HK1.out; omega
  case rel => exact ⟨(wrap64 (x8_1 + 1)), el_, H', ⟨by have := HK1.out; omega⟩, ⟨pk_ BK1.out⟩, ⟨pk_ BK2.out⟩, ⟨pb_ HB.out⟩⟩
 subst c8
 rw [if_pos rfl] at H
 obtain rfl := Option.some.inj H
 go_wp2
 go_ret
 exact ⟨er_, pb_ HB.out⟩

/-! ### slices_ContainsFunc_int_int_with_impl_areNumbers_1: function 100006 -/
def slices_ContainsFunc_int_int_with_impl_areNumbers_1.f (k : Nat) (l0 : List Int) (a1_0 : Int) (a2_0 : Int) : Option (Bool) := (slices_IndexFunc_int_int_with_impl_areNumbers_1.f k l0 a1_0 a2_0).bind fun t541 => (some (decide (t541 ≥ 0)))
theorem slices_ContainsFunc_int_int_with_impl_areNumbers_1.mono : ∀ a0 a1 a2 k, LeO (slices_ContainsFunc_int_int_with_impl_areNumbers_1.f k a0 a1 a2) (slices_ContainsFunc_int_int_with_impl_areNumbers_1.f (k + 1) a0 a1 a2) := by
 intro a0 a1 a2 k
 unfold slices_ContainsFunc_int_int_with_impl_areNumbers_1.f
 exact mo1_ slices_IndexFunc_int_int_with_impl_areNumbers_1.mono
theorem slices_ContainsFunc_int_int_with_impl_areNumbers_1.calls (k : Nat) (A0 : Option Addr) (c0 : Nat) (l0 : List Int) (B1 : Nat) (a1_0 : Int) (B2 : Nat) (a2_0 : Int) (r : Bool) (w : World) (hr0 : Kd.C (Kd.int .i64) w A0 l0.length l0) (hc0 : l0.length ≤ c0) (hbv1 : w.heap[B1]? = some (.cells #[.int .i64 a1_0] 3 (0, 0))) (hbv2 : w.heap[B2]? = some (.cells #[.int .i64 a2_0] 3 (0, 0))) (hnv1_2 : B1 ≠ B2) (h : slices_ContainsFunc_int_int_with_impl_areNumbers_1.f k l0 a1_0 a2_0 = some r) :
  Calls Try.prog 47 #[.slice A0 l0.length c0, .func (.func 48) #[] #[.pointer (some ⟨B1, 0, none⟩), .pointer (some ⟨B2, 0, none⟩)]] w fun e w' => e = .returned (.bool r) ∧ Below w.heap.size w w' := by
 have HR0 := Q_ hr0
 have HC0 := Q_ hc0
 clear hr0 hc0
 have BK1 := Q_ hbv1
 clear hbv1
 have BK2 := Q_ hbv2
 clear hbv2
 have NB1_2 := Q_ hnv1_2
 have NB2_1 := Q_ (Ne.symm hnv1_2)
 clear hnv1_2
 have HB := Q_ (Below.refl w.heap.size w)
 have H : ((slices_IndexFunc_int_int_with_impl_areNumbers_1.f k l0 a1_0 a2_0).bind fun t541 => (some (decide (t541 ≥ 0)))) = some r := h
 clear h
 replace H := Option.bind_eq_some_iff.mp H
 obtain ⟨t541, A40, H⟩ := H
 replace H : (some (decide (t541 ≥ 0))) = some r := H
 have A4 := Q_ A40
 clear A40
 obtain rfl := Option.some.inj H
 go_enter Try.func47, Try.ntmps47
 go_wp2_with (first | (go_at_call 58; (with_reducible refine (slices_IndexFunc_int_int_with_impl_areNumbers_1.calls k _ _ l0 _ a1_0 _ a2_0 t541 _ ?side1 ?side2 ?side3 ?side4 ?side5 A4.out).mono ?_); (case side1 => exact pc_ HR0.out); (case side2 => exact HC0.out); (case side3 => exact pk_ BK1.out); (case side4 => exact pk_ BK2.out); (case side5 => exact NB1_2.out); rintro e w5 ⟨rfl, hb⟩; have _ := Q_ (bb_ BK1.out hb); have _ := Q_ (bb_ BK2.out hb); have _ := Q_ (below_step (pb_ HB.out) hb); clear BK1 BK2 HB; rename_i BK1 BK2 HB; (try clear hb); (try clear hb2); (try clear hk); (try clear hi)))
 go_ret
 exact ⟨er_, pb_ HB.out⟩

/-! ### impl_areNumbers: function 35 -/
def impl_areNumbers.f (k : Nat) (l0 : List Int) (a1 : Int) (a2 : Int) : Option (Bool) := (slices_ContainsFunc_int_int_with_impl_areNumbers_1.f k l0 a1 a2).bind fun t544 => (some (!t544))
theorem impl_areNumbers.mono : ∀ a0 a1 a2 k, LeO (impl_areNumbers.f k a0 a1 a2) (impl_areNumbers.f (k + 1) a0 a1 a2) := by
 intro a0 a1 a2 k
 unfold impl_areNumbers.f
 exact mo1_ slices_ContainsFunc_int_int_with_impl_areNumbers_1.mono
theorem impl_areNumbers.calls (k : Nat) (A0 : Option Addr) (c0 : Nat) (l0 : List Int) (a1 : Int) (a2 : Int) (r : Bool) (w : World) (hr0 : Kd.C (Kd.int .i64) w A0 l0.length l0) (hc0 : l0.length ≤ c0) (h : impl_areNumbers.f k l0 a1 a2 = some r) :
  Calls Try.prog 35 #[.slice A0 l0.length c0, .int .i64 a1, .int .i64 a2] w fun e w' => e = .returned (.bool r) ∧ Below w.heap.size w w' := by
 have HR0 := Q_ hr0
 have HC0 := Q_ hc0
 clear hr0 hc0
 have HB := Q_ (Below.refl w.heap.size w)
 have H : ((slices_ContainsFunc_int_int_with_impl_areNumbers_1.f k l0 a1 a2).bind fun t544 => (some (!t544))) = some r := h
 clear h
 replace H := Option.bind_eq_some_iff.mp H
 obtain ⟨t544, A40, H⟩ := H
 replace H : (some (!t544)) = some r := H
 have A4 := Q_ A40
 clear A40
 obtain rfl := Option.some.inj H
 go_enter Try.func35, Try.ntmps35
 go_wp2_with (first | ((with_reducible refine gate_dst (N := 4) rfl ?_); refine box_event ?hg (N := 4) ?hd (cs := #[.int .i64 a1]) (t := 3) ?hr ?_; (case hd => rfl); (case hg => rfl); (case hr => first | (go_simp; done) | (go_simp; rfl)); intro gb542 hg w5 hbox hb; have _ := Q_ (below_step (pb_ HB.out) hb); have BK542 := Q_ (hbox); have GW542 := Q_ ((by rw [hg]; exact (below_size (pb_ HB.out)) : w.heap.size ≤ gb542)); have GE542 := GW542; clear HB; rename_i HB; clear hb hbox hg) | ((with_reducible refine gate_dst (N := 5) rfl ?_); refine box_event ?hg (N := 5) ?hd (cs := #[.int .i64 a2]) (t := 3) ?hr ?_; (case hd => rfl); (case hg => rfl); (case hr => first | (go_simp; done) | (go_simp; rfl)); intro gb543 hg w6 hbox hb; have _ := Q_ (bb_ BK542.out hb); have _ := Q_ (below_step (pb1_ HB.out GE542.out) hb); have BK543 := Q_ (hbox); have GW543 := Q_ ((by rw [hg]; exact (below_size (pb1_ HB.out GE542.out)) : w.heap.size ≤ gb543)); have GE543 := GW543; have NB542_543 := Q_ ((by rw [hg]; exact Nat.ne_of_lt (blk_lt (pk_ BK542.out)) : gb542 ≠ gb543)); have NB543_542 := Q_ NB542_543.out.symm; clear BK542 HB; rename_i BK542 HB; clear hb hbox hg) | (go_at_call 47; (with_reducible refine (slices_ContainsFunc_int_int_with_impl_areNumbers_1.calls k _ _ l0 _ a1 _ a2 t544 _ ?side1 ?side2 ?side3 ?side4 ?side5 A4.out).mono ?_); (case side1 => exact cb_ HR0 HB); (case side2 => exact HC0.out); (case side3 => exact pk_ BK542.out); (case side4 => exact pk_ BK543.out); (case side5 => exact NB542_543.out); rintro e w7 ⟨rfl, hb⟩; have _ := Q_ (bb_ BK542.out hb); have _ := Q_ (bb_ BK543.out hb); have _ := Q_ (below_step (pb2_ HB.out GE542.out GE543.out) hb); clear BK542 BK543 HB; rename_i BK542 BK543 HB; (try clear hb); (try clear hb2); (try clear hk); (try clear hi)))
 go_ret
 exact ⟨er_, pb2_ HB.out GE542.out GE543.out⟩

/-! ### impl_IsMemory_1: function 100011 -/
def impl_IsMemory_1.f (a0_0 : Int) (l0_1 : List Int) (a0_2 : Int) (a1_0 : Int) (l1_1 : List Int) (a1_2 : Int) : Option (Bool) := some (a0_0 == a1_0)
theorem impl_IsMemory_1.calls (a0_0 : Int) (A0_1 : Option Addr) (c0_1 : Nat) (l0_1 : List Int) (a0_2 : Int) (B1 : Nat) (a1_0 : Int) (A1_1 : Option Addr) (c1_1 : Nat) (l1_1 : List Int) (a1_2 : Int) (r : Bool) (w : World) (hr0_1 : Kd.C (Kd.int .i64) w A0_1 l0_1.length l0_1) (hc0_1 : l0_1.length ≤ c0_1) (hr1_1 : Kd.C (Kd.int .i64) w A1_1 l1_1.length l1_1) (hc1_1 : l1_1.length ≤ c1_1) (hbv1 : w.heap[B1]? = some (.cells #[.int .i64 a1_0, .slice A1_1 l1_1.length c1_1, .int .i64 a1_2] 61 (0, 0))) (h : impl_IsMemory_1.f a0_0 l0_1 a0_2 a1_0 l1_1 a1_2 = some r) :
  Calls Try.prog 37 #[.agg #[.int .i64 a0_0, .slice A0_1 l0_1.length c0_1, .int .i64 a0_2], .pointer (some ⟨B1, 0, none⟩)] w fun e w' => e = .returned (.bool r) ∧ Below w.heap.size w w' := by
 have hu61 := Try.underlying61
 have HR0_1 := Q_ hr0_1
 have HC0_1 := Q_ hc0_1
 clear hr0_1 hc0_1
 have HR1_1 := Q_ hr1_1
 have HC1_1 := Q_ hc1_1
 clear hr1_1 hc1_1
 have BK1 := Q_ hbv1
 clear hbv1
 have HB := Q_ (Below.refl w.heap.size w)
 have H : (some (a0_0 == a1_0)) = some r := h
 clear h
 obtain rfl := Option.some.inj H
 go_enter Try.func37, Try.ntmps37
 go_wp2_with (first | ((with_reducible refine gate_dst (N := 2) rfl ?_); refine box_event ?hg (N := 2) ?hd (cs := #[.int .i64 a0_0, .slice A0_1 l0_1.length c0_1, .int .i64 a0_2]) (t := 61) ?hr ?_; (case hd => rfl); (case hg => rfl); (case hr => first | (go_simp; done) | (go_simp; rfl)); intro gb545 hg w3 hbox hb; have _ := Q_ (bb_ BK1.out hb); have _ := Q_ (below_step (pb_ HB.out) hb); have BK545 := Q_ (hbox); have GW545 := Q_ ((by rw [hg]; exact (below_size (pb_ HB.out)) : w.heap.size ≤ gb545)); have GE545 := GW545; have NB1_545 := Q_ ((by rw [hg]; exact Nat.ne_of_lt (blk_lt (pk_ BK1.out)) : B1 ≠ gb545)); have NB545_1 := Q_ NB1_545.out.symm; clear BK1 HB; rename_i BK1 HB; clear hb hbox hg; have hnb4 := NB545_1.out; have hnc4 := NB1_545.out; have hcz5 := bc3_ BK545.out; have hcz6 := bc3_ BK1.out))
 go_ret
 exact ⟨er_, pb1_ HB.out GE545.out⟩

end Go.Proofs.Ytlcpaebidnaolaa.Print
