-- Written by a program of this session (printx.py) out of the translation; Lean checks it.
import Derived.Test.YtlcpaebidnaolaaPrint0
import Derived.Test.YtlcpaebidnaolaaPrint8
namespace Go.Proofs.Ytlcpaebidnaolaa.Print
open Go.RowKit Go.Proofs.YtlcpaebidnaolaaW.PrintWords Go.Proofs.YtlcpaebidnaolaaW.PrintLast Go.Proofs.YtlcpaebidnaolaaW.PrintMore Go.Proofs.Ytlcpaebidnaolaa.Short
attribute [local go_sem] max2_int min2_int max_two min_two max_three min_three max_four min_four   -- for this text's walks alone
set_option linter.unusedVariables false
set_option maxHeartbeats 8000000
set_option maxRecDepth 100000
set_option linter.unusedSimpArgs false

/-! ### impl_keptKnown_with_impl_Remember_2: function 100002 -/
def impl_keptKnown_with_impl_Remember_2.l0 : Nat → List (S61) → List (S61) → Int → Int → Int → Option ((List (S61)))
 | 0, _, _, _, _, _ => none
 | k + 1, x5, x9, x10, x11, x2000 => if x11 < x10 then (if 0 ≤ x11 then (if x11 < (x9.length : Int) then ((impl_Remember_2.f ((rd_T61 x9 x11).f0) ((rd_T61 x9 x11).f1) ((rd_T61 x9 x11).f2) x2000).bind fun t443 => (if t443 = true then ((some (([] : List Int) : List Int)).bind fun y444 => (if y444.length + ((rd_T61 x9 x11).f1).length < 17592186044416 then (if x5.length < 3518437208883 then (impl_keptKnown_with_impl_Remember_2.l0 k (x5 ++ [(⟨(rd_T61 x9 x11).f0, (y444 ++ ((rd_T61 x9 x11).f1)), (rd_T61 x9 x11).f2⟩ : S61)]) x9 x10 (wrap64 (x11 + 1)) x2000) else (none)) else (none))) else (impl_keptKnown_with_impl_Remember_2.l0 k x5 x9 x10 (wrap64 (x11 + 1)) x2000))) else (none)) else (none)) else (some x5)
def impl_keptKnown_with_impl_Remember_2.f (k : Nat) (l0 : List (S61)) (a1_0 : Int) : Option ((List (S61))) := impl_keptKnown_with_impl_Remember_2.l0 k (([] : List (S61))) l0 (l0.length : Int) 0 a1_0
theorem impl_keptKnown_with_impl_Remember_2.mono_l : ∀ k, (∀ y0 y1 y2 y3 y4, LeO (impl_keptKnown_with_impl_Remember_2.l0 k y0 y1 y2 y3 y4) (impl_keptKnown_with_impl_Remember_2.l0 (k + 1) y0 y1 y2 y3 y4))
 | 0 => fun _ _ _ _ _ r h => by simp [impl_keptKnown_with_impl_Remember_2.l0] at h
 | k + 1 => by
  have ih0 := impl_keptKnown_with_impl_Remember_2.mono_l k
  ·intro y0 y1 y2 y3 y4
   unfold impl_keptKnown_with_impl_Remember_2.l0
   exact mo1_ ih0
theorem impl_keptKnown_with_impl_Remember_2.mono : ∀ a0 a1 k, LeO (impl_keptKnown_with_impl_Remember_2.f k a0 a1) (impl_keptKnown_with_impl_Remember_2.f (k + 1) a0 a1) := by
 intro a0 a1 k
 have ih0 := impl_keptKnown_with_impl_Remember_2.mono_l k
 unfold impl_keptKnown_with_impl_Remember_2.f
 exact mo1_ ih0
def impl_keptKnown_with_impl_Remember_2.T6 : Bool × List (List Nat × List Nat) := (true, [([], []), ([], []), ([1], [1]), ([], []), ([], []), ([4], [4]), ([3, 5], [3, 5]), ([], []), ([7], [7]), ([2, 6, 8], [2, 6, 8]), ([9], [9]), ([0, 10, 6], [0, 10]), ([11, 11, 0, 1, 2, 3, 4, 5, 6, 7, 8, 9, 10, 11], [0, 11])])
def impl_keptKnown_with_impl_Remember_2.B6 : List Nat := [0, 0, 2, 0, 0, 16, 56, 0, 128, 510, 1022, 2047, 4095]
theorem impl_keptKnown_with_impl_Remember_2.tab6 : rtab .any (opsOf Try.f29 6) = impl_keptKnown_with_impl_Remember_2.T6 := by kernel_rfl
theorem impl_keptKnown_with_impl_Remember_2.bits6 : waitsOk impl_keptKnown_with_impl_Remember_2.T6.2 impl_keptKnown_with_impl_Remember_2.B6 = true := by kernel_rfl
theorem impl_keptKnown_with_impl_Remember_2.calls (k : Nat) (A0 : Option Addr) (c0 : Nat) (l0 : List (S61)) (B1 : Nat) (a1_0 : Int) (r : List (S61)) (w : World) (hr0 : Kd.C k61 w A0 l0.length l0) (hc0 : l0.length ≤ c0) (hbv1 : w.heap[B1]? = some (.cells #[.int .i64 a1_0] 3 (0, 0))) (h : impl_keptKnown_with_impl_Remember_2.f k l0 a1_0 = some r) :
  Calls Try.prog 29 #[.slice A0 l0.length c0, .func (.func 31) #[] #[.pointer (some ⟨B1, 0, none⟩)]] w fun e w' => ∃ v0_ : Value, e = .returned (v0_) ∧ Kd.S k61 61 w' w.heap.size (fun _ => True) v0_ r ∧ Below w.heap.size w w' := by
 have hu61 := Try.underlying61
 have HR0 := Q_ hr0
 have HC0 := Q_ hc0
 clear hr0 hc0
 have BK1 := Q_ hbv1
 clear hbv1
 have HB := Q_ (Below.refl w.heap.size w)
 have H : (impl_keptKnown_with_impl_Remember_2.l0 k (([] : List (S61))) l0 (l0.length : Int) 0 a1_0) = some r := h
 clear h
 obtain ⟨y438, hy438⟩ : ∃ y_ : List (S61), y_ = (([] : List (S61))) := ⟨_, rfl⟩
 replace H : (impl_keptKnown_with_impl_Remember_2.l0 k y438 l0 (l0.length : Int) 0 a1_0) = some r := hb_ hy438 H
 have Ny438 := Q_ hy438
 clear hy438
 have H' := Q_ H
 clear H
 go_enter Try.func29, Try.ntmps29
 go_wp2_with (first | ((with_reducible refine gate_dst (N := 8) rfl ?_); refine Kd.S_lit k61 _ 61 ?hg (N := 8) ?hd (xs := ([] : List (S61))) (inner := []) (ok := fun _ => True) (okp := fun _ => True) ?hr ?hp (fun _ hk => hk) trivial (Below.refl _ _) (Nat.le_refl _) (by simp) ?_; (case hd => rfl); (case hg => rfl); (case hr => first | (go_simp; done) | (go_simp; rfl)); (case hp => exact (Reps.none _ _)); intro v439 w3 ho4 hb hg_ hnew_; clear hg_ hnew_; (first | rw [← Ny438.out] at ho4 | (simp only [Int.reduceToNat] at ho4; rw [← Ny438.out] at ho4)); have _ := Q_ (Kd.S_lower (Kd.S_newB ho4 (g := B1) (o := .cells #[.int .i64 a1_0] 3 (0, 0)) (pk_ BK1.out)) (below_size (pb_ HB.out))); have _ := Q_ (bb_ BK1.out hb); have _ := Q_ (below_step (pb_ HB.out) hb); clear BK1 HB; rename_i HO440 BK1 HB; clear hb ho4))
 (try simp only [Act.put, List.setIfInBounds_toArray, List.set_cons_zero, List.set_cons_succ])
 go_loopg [5, 11] k (fun kq v5 v11 w' => ∃ (x5_1 : List (S61)) (x11_1 : Int), v11 = .int .i64 x11_1 ∧ Aside0 (impl_keptKnown_with_impl_Remember_2.l0 kq x5_1 l0 (l0.length : Int) x11_1 a1_0 = some r) ∧ Aside0 (kq ≤ k) ∧ Aside0 (Kd.S k61 61 w' w.heap.size (fun k_ => k_ ≠ B1) v5 x5_1) ∧ Aside0 (w'.heap[B1]? = some (.cells #[.int .i64 a1_0] 3 (0, 0))) ∧ Aside0 (Below w.heap.size w w'))
 case atStart => exact ⟨(y438), (0), el_, H', ⟨Nat.le_refl _⟩, ⟨ps_ (Kd.S_mono HO440.out (fun _ hk => hk.2))⟩, ⟨pk_ BK1.out⟩, ⟨pb_ HB.out⟩⟩
 clear H'
 try clear c2
 try clear p2
 obtain ⟨x5_1, x11_1, rfl, HA, HK1, HO_5, BK1, HB⟩ := hrel
 rcases gk with _ | k1
 ·exact absurd HA.out (by simp [impl_keptKnown_with_impl_Remember_2.l0])
 have H := HA.out
 clear HA
 simp only [impl_keptKnown_with_impl_Remember_2.l0] at H
 by_cases c5 : x11_1 < (l0.length : Int)
 rotate_left
 ·rw [if_neg c5] at H
  have c5b0 : decide (x11_1 < (l0.length : Int)) = false := decide_eq_false c5
  clear c5
  obtain rfl := Option.some.inj H
  go_wp2
  go_ret
  exact ⟨_, er_, ps_ (Kd.S_mono HO_5.out (fun _ hk => trivial)), pb_ HB.out⟩
 rw [if_pos c5] at H
 have c5b0 : decide (x11_1 < (l0.length : Int)) = true := decide_eq_true c5
 clear c5
 by_cases c6 : 0 ≤ x11_1
 rotate_left
 ·rw [if_neg c6] at H
  exact absurd H (by simp)
 rw [if_pos c6] at H
 have c6b0 : decide (0 ≤ x11_1) = true := decide_eq_true c6
 clear c6
 by_cases c7 : x11_1 < (l0.length : Int)
 rotate_left
 ·rw [if_neg c7] at H
  exact absurd H (by simp)
 rw [if_pos c7] at H
 have c7b0 : decide (x11_1 < (l0.length : Int)) = true := decide_eq_true c7
 clear c7
 have HS_ := Q_ H
 clear H
 have p441 : 0 ≤ (x11_1 : Int) := dt_
 have q441 : x11_1 < (l0.length : Int) := dt_
 obtain ⟨ad441, A441_1, c441_1, e441, hx441_0, hx441_1, hx441_2, hl441_1, hi441_1⟩ := at_T61 HR0.out x11_1 p441 q441
 cases e441
 replace hx441_0 := bt_ HB hx441_0
 replace hx441_1 := bt_ HB hx441_1
 replace hx441_2 := bt_ HB hx441_2
 have HR441_1 := Q_ hi441_1
 have HC441_1 := Q_ hl441_1
 clear hi441_1 hl441_1
 replace p441 := eq_true p441
 replace q441 := eq_true q441
 go_upto_region 5 with (first | ((with_reducible refine gate_dst (N := 7) rfl ?_); refine box_event ?hg (N := 7) ?hd (cs := #[.int .i64 0, .slice none 0 0, .int .i64 0]) (t := 61) ?hr ?_; (case hd => rfl); (case hg => rfl); (case hr => first | (go_simp; done) | (go_simp; rfl)); intro gb442 hg w8 hbox hb; have _ := Q_ (Kd.S_below (Kd.S_elderB (ps_ HO_5.out) gb442 (Nat.le_of_eq hg.symm)) hb); have _ := Q_ (bb_ BK1.out hb); have _ := Q_ (below_step (pb_ HB.out) hb); have BK442 := Q_ (hbox); have GW442 := Q_ ((by rw [hg]; exact (below_size (pb_ HB.out)) : w.heap.size ≤ gb442)); have GE442 := GW442; have NB1_442 := Q_ ((by rw [hg]; exact Nat.ne_of_lt (blk_lt (pk_ BK1.out)) : B1 ≠ gb442)); have NB442_1 := Q_ NB1_442.out.symm; clear HO_5 BK1 HB; rename_i HO_5 BK1 HB; clear hb hbox hg; have hnb9 := NB442_1.out; have hnc9 := NB1_442.out; have hcz10 := bc3_ BK442.out))
 (try simp only [Act.put, List.setIfInBounds_toArray, List.set_cons_zero, List.set_cons_succ])
 have H := HS_.out
 clear HS_
 replace H := Option.bind_eq_some_iff.mp H
 obtain ⟨t443, A110, H⟩ := H
 (try dsimp only at H)
 have A11 := Q_ A110
 clear A110
 have HS_ := Q_ H
 clear H
 have hnb12 := NB442_1.out
 have hnc12 := NB1_442.out
 have hcz13 := bc3_ BK442.out
 go_upto_if 17 with (first | (go_at_call 31; (with_reducible refine (impl_Remember_2.calls ((rd_T61 l0 x11_1).f0) _ _ ((rd_T61 l0 x11_1).f1) ((rd_T61 l0 x11_1).f2) _ a1_0 t443 _ ?side1 ?side2 ?side3 A11.out).mono ?_); (case side1 => exact Kd.C_below HR441_1.out (pb1_ HB.out GE442.out)); (case side2 => exact HC441_1.out); (case side3 => (with_reducible repeat (first | refine blk_drewN ?_ _ | refine blk_drew ?_ | refine blk_alloc ?_ _)); refine blk_far ?_ NB1_442.out _; (with_reducible repeat (first | refine blk_drewN ?_ _ | refine blk_drew ?_ | refine blk_alloc ?_ _)); refine blk_far ?_ NB1_442.out _; (with_reducible repeat (first | refine blk_drewN ?_ _ | refine blk_drew ?_ | refine blk_alloc ?_ _)); refine blk_far ?_ NB1_442.out _; exact pk_ BK1.out); rintro e w14 ⟨rfl, hb⟩; have _ := Q_ (Kd.S_below (by (with_reducible repeat (first | apply Kd.S_alloc | apply Kd.S_drewN | apply Kd.S_drew)); exact (Kd.S_mono (Kd.S_far (p := ⟨gb442, 2, none⟩) (Kd.S_far (p := ⟨gb442, 1, none⟩) (Kd.S_far (p := ⟨gb442, 0, none⟩) (Kd.S_mono HO_5.out (fun k_ hk => (⟨hk, hk.2⟩ : _ ∧ k_ ≠ gb442))) (fun _ hk => hk.2) (.int .i64 ((rd_T61 l0 x11_1).f0))) (fun _ hk => hk.2) (.slice A441_1 ((rd_T61 l0 x11_1).f1).length c441_1)) (fun _ hk => hk.2) (.int .i64 ((rd_T61 l0 x11_1).f2))) (fun _ h_ => h_.1))) hb); have _ := Q_ (blk_below (g := B1) (o := .cells #[.int .i64 a1_0] 3 (0, 0)) (pp_ BK1.out) hb); have _ := Q_ (blk_below (g := gb442) (o := .cells #[.int .i64 ((rd_T61 l0 x11_1).f0), .slice A441_1 ((rd_T61 l0 x11_1).f1).length c441_1, .int .i64 ((rd_T61 l0 x11_1).f2)] 61 (0, 0)) (pp_ BK442.out) hb); have _ := Q_ (below_step (pb1_ HB.out GE442.out) hb); clear HO_5 BK1 BK442 HB; rename_i HO_5 BK1 BK442 HB; (try clear hb); (try clear hb2); (try clear hk); (try clear hi)))
 (try simp only [Act.put, List.setIfInBounds_toArray, List.set_cons_zero, List.set_cons_succ])
 have H := HS_.out
 clear HS_
 by_cases c15 : t443 = true
 rotate_left
 ·replace c15 := bf_ c15
  subst c15
  rw [if_neg ff_] at H
  have H' := Q_ H
  clear H
  go_wp2
  go_roundg k1
  case measure => have := HK1.out; omega
  case rel => exact ⟨(x5_1), (wrap64 (x11_1 + 1)), el_, H', ⟨by have := HK1.out; omega⟩, ⟨ps_ (Kd.S_mono HO_5.out (fun _ hk => hk.1))⟩, ⟨pk_ BK1.out⟩, ⟨pb1_ HB.out GE442.out⟩⟩
 subst c15
 rw [if_pos rfl] at H
 obtain ⟨y444, hy444⟩ : ∃ y_ : List Int, y_ = (([] : List Int)) := ⟨_, rfl⟩
 replace H : (if y444.length + ((rd_T61 l0 x11_1).f1).length < 17592186044416 then (if x5_1.length < 3518437208883 then (impl_keptKnown_with_impl_Remember_2.l0 k1 (x5_1 ++ [(⟨(rd_T61 l0 x11_1).f0, (y444 ++ ((rd_T61 l0 x11_1).f1)), (rd_T61 l0 x11_1).f2⟩ : S61)]) l0 (l0.length : Int) (wrap64 (x11_1 + 1)) a1_0) else (none)) else (none)) = some r := hb_ hy444 H
 have Ny444 := Q_ hy444
 clear hy444
 by_cases c16 : y444.length + ((rd_T61 l0 x11_1).f1).length < 17592186044416
 rotate_left
 ·rw [if_neg c16] at H
  exact absurd H (by simp)
 rw [if_pos c16] at H
 have LMc16 := Q_ c16
 clear c16
 obtain ⟨y447, hy447⟩ : ∃ y_ : List Int, y_ = (y444 ++ ((rd_T61 l0 x11_1).f1)) := ⟨_, rfl⟩
 replace H : (if x5_1.length < 3518437208883 then (impl_keptKnown_with_impl_Remember_2.l0 k1 (x5_1 ++ [(⟨(rd_T61 l0 x11_1).f0, y447, (rd_T61 l0 x11_1).f2⟩ : S61)]) l0 (l0.length : Int) (wrap64 (x11_1 + 1)) a1_0) else (none)) = some r := hb_ hy447 H
 have Ny447 := Q_ hy447
 clear hy447
 by_cases c17 : x5_1.length < 3518437208883
 rotate_left
 ·rw [if_neg c17] at H
  exact absurd H (by simp)
 rw [if_pos c17] at H
 have LMc17 := Q_ c17
 clear c17
 obtain ⟨y450, hy450⟩ : ∃ y_ : List (S61), y_ = (x5_1 ++ [(⟨(rd_T61 l0 x11_1).f0, y447, (rd_T61 l0 x11_1).f2⟩ : S61)]) := ⟨_, rfl⟩
 replace H : (impl_keptKnown_with_impl_Remember_2.l0 k1 y450 l0 (l0.length : Int) (wrap64 (x11_1 + 1)) a1_0) = some r := hb_ hy450 H
 have Ny450 := Q_ hy450
 clear hy450
 have H' := Q_ H
 clear H
 try go_wp2
 have _ := Q_ (Kd.S_drew HO_5.out)
 have _ := Q_ (blk_drew BK1.out)
 have _ := Q_ (blk_drew BK442.out)
 have _ := Q_ (below_drew1 HB.out)
 clear HO_5 BK1 BK442 HB
 rename_i HO_5 BK1 BK442 HB
 refine start_ (n := 13) (S := fun w' => w'.cell? ⟨gb442, 0, none⟩ = some (.int .i64 ((rd_T61 l0 x11_1).f0)) ∧ w'.cell? ⟨gb442, 1, none⟩ = some (.slice A441_1 ((rd_T61 l0 x11_1).f1).length c441_1) ∧ w'.cell? ⟨gb442, 2, none⟩ = some (.int .i64 ((rd_T61 l0 x11_1).f2))) (ds := []) (tf_ 0 13) (by kernel_rfl) rfl rfl (sb_ BK442.out) (fun hHeld => ?_); refine with_tabW impl_keptKnown_with_impl_Remember_2.tab6 impl_keptKnown_with_impl_Remember_2.bits6 (fun HT_ HW_ => ?_)
 generalize w14.drew = w18 at HO_5 BK1 BK442 HB hHeld ⊢
 refine pu_ 0 (some 18) (tf_ 1 13) HT_ ?_
 refine pu_ 1 (some 19) (tf_ 2 13) HT_ ?_
 refine pu_ 4 (some 22) (tm_ 13 19) HT_ ?_
 refine pu_ 7 (some 25) (tm_ 13 147) HT_ ?_
 refine ta_ 2 (some 20) (tm_ 13 151) HT_ HW_ hHeld ?_
 refine ta_ 5 (some 23) (tm_ 13 183) HT_ HW_ hHeld ?_
 refine ta_ 8 (some 26) (tm_ 13 439) HT_ HW_ hHeld ?_
 refine on_ 3 (some 21) (tm_ 13 447) HT_ (fun K hK => ?_)
 refine Kd.R_lit_step (Kd.int .i64) _ 3 ?hg (N := 21) ?hd (xs := ([] : List Int)) (inner := []) (ok := fun _ => True) (okp := fun _ => True) ?hr ?hp (fun _ hk => hk) trivial (Below.refl _ _) (Nat.le_refl _) (by simp) ?_; (case hd => rfl); (case hg => rfl); (case hr => first | (go_simp; done) | (go_simp; rfl)); (case hp => exact (Reps.none _ _))
 intro v445 w19 ho20 hb hg_ hnew_
 clear hg_ hnew_
 (first | rw [← Ny444.out] at ho20 | (simp only [Int.reduceToNat] at ho20; rw [← Ny444.out] at ho20))
 have _ := Q_ (Kd.S_elder' (ps_ HO_5.out) (Kd.R_base ho20) hb)
 have _ := Q_ (Kd.R_lower (Kd.R_newB ho20 (g := B1) (o := .cells #[.int .i64 a1_0] 3 (0, 0)) (pk_ BK1.out)) (below_size (pb1_ HB.out GE442.out)))
 have _ := Q_ (bb_ BK1.out hb)
 have _ := Q_ (bb_ BK442.out hb)
 have _ := Q_ (below_step (pb1_ HB.out GE442.out) hb)
 clear HO_5 BK1 BK442 HB
 rename_i HO_5 HO446 BK1 BK442 HB
 clear hb ho20
 refine hK.out _ _ (sb_ BK442.out) (fun hHeld => ?_)
 clear hK K
 refine no_ (some 21) ?_
 refine on_ 6 (some 24) (tf_ 9 13) HT_ (fun K hK => ?_)
 refine Kd.R_append_rows_step (Kd.int .i64) (w0 := w) w.heap.size (by rfl) (.tmp 21) (.tmp 23) 25 3 (.int .i64 0) 8 rfl Try.underlying25 info3 rfl (by decide) (by omega) v445 y444 ((rd_T61 l0 x11_1).f1) _ _ _ (fun k_ => k_ ≠ B1) (fun _ => False) rfl rfl ?aO ?aR (fun _ _ h => h) (fun _ h => h.elim) ?aF ?aB ?aS ?aL ?_
 (case aR => exact cb_ HR441_1 HB)
 (case aB => exact (pb1_ HB.out GE442.out))
 (case aF => exact (fun k_ hk => Kd.freshB (g := B1) (o := .cells #[.int .i64 a1_0] 3 (0, 0)) (pk_ BK1.out) k_ hk))
 (case aO => exact (pr_ (Kd.R_mono HO446.out (fun _ hk => hk.2))))
 (case aS => exact (below_size (pb1_ HB.out GE442.out)))
 (case aL => have := LMc16.out; omega)
 intro v448 w21 ho hb hg hat
 rw [← Ny447.out] at ho
 have _ := Q_ (Kd.S_after (ok := (fun k_ => k_ ≠ B1 ∧ k_ ≠ gb442)) (ps_ HO_5.out) hg hat)
 have _ := Q_ (blk_grown (g := B1) (o := .cells #[.int .i64 a1_0] 3 (0, 0)) (pk_ BK1.out) hg (Kd.R_away HO446.out (fun _ hk => hk.2)))
 have _ := Q_ (blk_grown (g := gb442) (o := .cells #[.int .i64 ((rd_T61 l0 x11_1).f0), .slice A441_1 ((rd_T61 l0 x11_1).f1).length c441_1, .int .i64 ((rd_T61 l0 x11_1).f2)] 61 (0, 0)) (pk_ BK442.out) hg (Kd.R_ne HO446.out BK442.out (by decide)))
 have _ := Q_ (hb)
 have _ := Q_ (ho)
 clear HO_5 BK1 BK442 HB HO446
 rename_i HO_5 BK1 BK442 HB HO449
 clear ho hb hg hat
 obtain ⟨Ao22, co22, eo22⟩ := Kd.R_slice HO449.out
 (first | subst eo22 | (injection eo22 with f1_ f2_ f3_; have f4_ := f1_.symm; have f5_ := f3_.symm; clear f1_ f2_ f3_; subst f4_; subst f5_))
 refine hK.out _ _ (sb_ BK442.out) (fun hHeld => ?_)
 clear hK K
 refine no_ (some 24) ?_
 refine pu_ 9 (some 27) (tf_ 10 13) HT_ ?_
 refine on_ 10 (some 28) (tf_ 11 13) HT_ (fun K hK => ?_)
 refine value_ (w1 := ?_) (v := ?_) (by rfl) rfl ?_ ?_
 rotate_left 2
 ·go_simp
  constructor
  ·rfl
  ·rfl
 refine hK.out _ _ ⟨(blk_cell (blk_alloc BK442.out _) 0).trans rfl, (blk_cell (blk_alloc BK442.out _) 1).trans rfl, (blk_cell (blk_alloc BK442.out _) 2).trans rfl⟩ (fun hHeld => ?_)
 clear hK K
 refine no_ (some 28) ?_
 refine on_ 11 (some 29) (tf_ 12 13) HT_ (fun K hK => ?_)
 refine Kd.S_append_step k61 (w0 := w) w.heap.size (by rfl) (.tmp 18) (.tmp 28) 24 61 (.agg #[(.int .i64 0), (.slice none 0 0), (.int .i64 0)]) 40 rfl Try.underlying24 info61 rfl (by decide) (by omega) u5 x5_1 (⟨(rd_T61 l0 x11_1).f0, y447, (rd_T61 l0 x11_1).f2⟩ : S61) [.int .i64 ((rd_T61 l0 x11_1).f0), .slice Ao22 y447.length co22, .int .i64 ((rd_T61 l0 x11_1).f2)] (fun k_ => k_ ≠ B1 ∧ k_ ≠ gb442) (fun k_ => some k_ = (.slice Ao22 y447.length co22 : Value).ownBlock) rfl rfl ?aP (fun k_ hk_ => ((Kd.R_mono (ok' := fun k_ => ((fun k_ => k_ ≠ B1 ∧ k_ ≠ gb442)) k_ ∧ some k_ ≠ (u5 : Value).ownBlock) (Kd.R_types (Kd.R_apart' (HO449.out) (Kd.S_typed HO_5.out) (by decide)) BK442.out (by decide)) (fun k_ hk => ⟨⟨hk.1.1, hk.2⟩, hk.1.2⟩))).1 k_ hk_.symm) ?aF ?aO ?aB ?aS ?aL ?_
 (case aP => exact k61_mkM _ _ _ (⟨(rd_T61 l0 x11_1).f0, y447, (rd_T61 l0 x11_1).f2⟩ : S61) (Kd.R_mono (Kd.R_tight rfl (Kd.R_mono (ok' := fun k_ => ((fun k_ => k_ ≠ B1 ∧ k_ ≠ gb442)) k_ ∧ some k_ ≠ (u5 : Value).ownBlock) (Kd.R_types (Kd.R_apart' (HO449.out) (Kd.S_typed HO_5.out) (by decide)) BK442.out (by decide)) (fun k_ hk => ⟨⟨hk.1.1, hk.2⟩, hk.1.2⟩))) (fun _ h_ => h_)))
 (case aB => exact (pb1_ HB.out GE442.out))
 (case aF => exact (fun k_ hk => ⟨Kd.freshB (g := B1) (o := .cells #[.int .i64 a1_0] 3 (0, 0)) (pk_ BK1.out) k_ hk, Kd.freshB (g := gb442) (o := .cells #[.int .i64 ((rd_T61 l0 x11_1).f0), .slice A441_1 ((rd_T61 l0 x11_1).f1).length c441_1, .int .i64 ((rd_T61 l0 x11_1).f2)] 61 (0, 0)) (pk_ BK442.out) k_ hk⟩))
 (case aO => exact (by (with_reducible repeat (first | apply Kd.S_alloc | apply Kd.S_drewN | apply Kd.S_drew)); exact Kd.S_mono HO_5.out (fun k_ hk => ⟨⟨hk.1.1, hk.1.2⟩, fun e_ => hk.2 e_⟩)))
 (case aS => exact (below_size (pb1_ HB.out GE442.out)))
 (case aL => have := LMc17.out; omega)
 intro v451 w23 ho hb hg hat
 rw [← Ny450.out] at ho
 have _ := Q_ (blk_grown (g := B1) (o := .cells #[.int .i64 a1_0] 3 (0, 0)) (pk_ BK1.out) hg (Kd.S_ne HO_5.out BK1.out (by decide)))
 have _ := Q_ (blk_grown (g := gb442) (o := .cells #[.int .i64 ((rd_T61 l0 x11_1).f0), .slice A441_1 ((rd_T61 l0 x11_1).f1).length c441_1, .int .i64 ((rd_T61 l0 x11_1).f2)] 61 (0, 0)) (pk_ BK442.out) hg (Kd.S_away HO_5.out (fun _ hk => hk.1.2)))
 have _ := Q_ (hb)
 have _ := Q_ (ho)
 clear BK1 BK442 HB HO_5 HO449
 rename_i BK1 BK442 HB HO452
 clear ho hb hg hat
 refine hK.out _ _ (sb_ BK442.out) (fun hHeld => ?_)
 clear hK K
 refine no_ (some 29) ?_
 refine pu_ 12 (some 5) (tf_ 13 13) HT_ ?_
 refine done_ (done_of HT_.out (by kernel_rfl)) ?_
 try go_wp2
 go_roundg k1
 case measure => have := HK1.out; omega
 case rel => exact ⟨(y450), (wrap64 (x11_1 + 1)), el_, H', ⟨by have := HK1.out; omega⟩, ⟨ps_ (Kd.S_mono HO452.out (fun _ hk => hk.1))⟩, ⟨pk_ BK1.out⟩, ⟨pb1_ HB.out GE442.out⟩⟩

/-! ### impl_Remember: function 7 -/
def impl_Remember.j0 : Nat → List (S61) → List Int → Int → Bool → Int → Option ((List (S61)))
 | 0, _, _, _, _, _ => none
 | k + 1, x0, x2, x3, x16, x454000 => if x16 = true then ((impl_keptKnown_with_impl_Remember_1.f k x0).bind fun t455 => (some t455)) else ((impl_keptKnown_with_impl_Remember_2.f k x0 x454000).bind fun t458 => ((some (([] : List Int) : List Int)).bind fun y461 => (if y461.length + x2.length < 17592186044416 then (if t458.length < 3518437208883 then (some (t458 ++ [(⟨x454000, (y461 ++ x2), x3⟩ : S61)])) else (none)) else (none))))
def impl_Remember.f (k : Nat) (l0 : List (S61)) (a1 : Int) (l2 : List Int) (a3 : Int) : Option ((List (S61))) := (impl_InRange.f a1 0 5).bind fun t454 => (if t454 = true then (impl_Remember.j0 k l0 l2 a3 (decide (a3 < 0)) a1) else (impl_Remember.j0 k l0 l2 a3 true a1))
theorem impl_Remember.mono_l : ∀ k, (∀ y0 y1 y2 y3 y4, LeO (impl_Remember.j0 k y0 y1 y2 y3 y4) (impl_Remember.j0 (k + 1) y0 y1 y2 y3 y4))
 | 0 => fun _ _ _ _ _ r h => by simp [impl_Remember.j0] at h
 | k + 1 => by
  have ih0 := impl_Remember.mono_l k
  ·intro y0 y1 y2 y3 y4
   unfold impl_Remember.j0
   exact mo3_ ih0 impl_keptKnown_with_impl_Remember_1.mono impl_keptKnown_with_impl_Remember_2.mono
theorem impl_Remember.mono : ∀ a0 a1 a2 a3 k, LeO (impl_Remember.f k a0 a1 a2 a3) (impl_Remember.f (k + 1) a0 a1 a2 a3) := by
 intro a0 a1 a2 a3 k
 have ih0 := impl_Remember.mono_l k
 unfold impl_Remember.f
 exact mo3_ ih0 impl_keptKnown_with_impl_Remember_1.mono impl_keptKnown_with_impl_Remember_2.mono
def impl_Remember.T4 : Bool × List (List Nat × List Nat) := (true, [([], []), ([], []), ([], []), ([], []), ([2, 3], [2, 3]), ([], []), ([1, 4, 5], [1, 4, 5]), ([6], [6]), ([0, 7, 4], [0, 7]), ([8, 8, 0, 1, 2, 3, 4, 5, 6, 7, 8], [8])])
def impl_Remember.B4 : List Nat := [0, 0, 0, 0, 12, 0, 62, 126, 255, 511]
theorem impl_Remember.tab4 : rtab .any (opsOf Try.f7 4) = impl_Remember.T4 := by kernel_rfl
theorem impl_Remember.bits4 : waitsOk impl_Remember.T4.2 impl_Remember.B4 = true := by kernel_rfl
theorem impl_Remember.calls (k : Nat) (A0 : Option Addr) (c0 : Nat) (l0 : List (S61)) (a1 : Int) (A2 : Option Addr) (c2 : Nat) (l2 : List Int) (a3 : Int) (r : List (S61)) (w : World) (hr0 : Kd.C k61 w A0 l0.length l0) (hc0 : l0.length ≤ c0) (hr2 : Kd.C (Kd.int .i64) w A2 l2.length l2) (hc2 : l2.length ≤ c2) (h : impl_Remember.f k l0 a1 l2 a3 = some r) :
  Calls Try.prog 7 #[.slice A0 l0.length c0, .int .i64 a1, .slice A2 l2.length c2, .int .i64 a3] w fun e w' => ∃ v0_ : Value, e = .returned (v0_) ∧ Kd.S k61 61 w' w.heap.size (fun _ => True) v0_ r ∧ Below w.heap.size w w' := by
 have hu61 := Try.underlying61
 have HR0 := Q_ hr0
 have HC0 := Q_ hc0
 clear hr0 hc0
 have HR2 := Q_ hr2
 have HC2 := Q_ hc2
 clear hr2 hc2
 have HB := Q_ (Below.refl w.heap.size w)
 have H : ((impl_InRange.f a1 0 5).bind fun t454 => (if t454 = true then (impl_Remember.j0 k l0 l2 a3 (decide (a3 < 0)) a1) else (impl_Remember.j0 k l0 l2 a3 true a1))) = some r := h
 clear h
 have HC5 := Q_ H
 clear H
 go_enter Try.func7, Try.ntmps7
 go_upto_region 1 with (first | ((with_reducible refine gate_dst (N := 5) rfl ?_); refine box_event ?hg (N := 5) ?hd (cs := #[.int .i64 a1]) (t := 3) ?hr ?_; (case hd => rfl); (case hg => rfl); (case hr => first | (go_simp; done) | (go_simp; rfl)); intro gb453 hg w6 hbox hb; have _ := Q_ (below_step (pb_ HB.out) hb); have BK453 := Q_ (hbox); have GW453 := Q_ ((by rw [hg]; exact (below_size (pb_ HB.out)) : w.heap.size ≤ gb453)); have GE453 := GW453; clear HB; rename_i HB; clear hb hbox hg))
 (try simp only [Act.put, List.setIfInBounds_toArray, List.set_cons_zero, List.set_cons_succ])
 go_cut [16] (fun v16 wc => ∃ (kq : Nat) (x16_4 : Bool), v16 = .bool x16_4 ∧ Aside0 (impl_Remember.j0 kq l0 l2 a3 x16_4 a1 = some r) ∧ Aside0 (kq ≤ k) ∧ Aside0 (wc.heap[gb453]? = some (.cells #[.int .i64 a1] 3 (0, 0))) ∧ Aside0 (Below w.heap.size w wc))
 case first =>
  have H := HC5.out
  clear HC5
  replace H := Option.bind_eq_some_iff.mp H
  obtain ⟨t454, A70, H⟩ := H
  (try dsimp only at H)
  have A7 := Q_ A70
  clear A70
  by_cases c8 : t454 = true
  rotate_left
  ·replace c8 := bf_ c8
   subst c8
   rw [if_neg ff_] at H
   have H' := Q_ H
   clear H
   have hcz9_0 : w6.cell? ⟨gb453, 0, none⟩ = some (.int .i64 a1) := (blk_cell BK453.out 0).trans rfl
   have hfz9_0 := blk_frozen BK453.out 0
   go_wp2_with (first | ((with_reducible refine gate_callee (f := 28) rfl ?_); refine gl_ (some 11) Try.func28 #[.int .i64 a1, .int .i64 0, .int .i64 5] ?_; (with_reducible refine (impl_InRange.calls a1 0 5 false _ A7.out).mono ?_); rintro e w' ⟨rfl, ⟨nd, rfl⟩⟩; refine ⟨_, rfl, ?_⟩))
   go_meet
   case rel => exact ⟨_, (true), el_, H', ⟨by first | omega | exact Nat.le_refl _⟩, ⟨pk_ BK453.out⟩, ⟨pb1_ HB.out GE453.out⟩⟩
  subst c8
  rw [if_pos rfl] at H
  have H' := Q_ H
  clear H
  have hcz10_0 : w6.cell? ⟨gb453, 0, none⟩ = some (.int .i64 a1) := (blk_cell BK453.out 0).trans rfl
  have hfz10_0 := blk_frozen BK453.out 0
  go_wp2_with (first | ((with_reducible refine gate_callee (f := 28) rfl ?_); refine gl_ (some 11) Try.func28 #[.int .i64 a1, .int .i64 0, .int .i64 5] ?_; (with_reducible refine (impl_InRange.calls a1 0 5 true _ A7.out).mono ?_); rintro e w' ⟨rfl, ⟨nd, rfl⟩⟩; refine ⟨_, rfl, ?_⟩))
  go_meet
  case rel => exact ⟨_, (decide (a3 < 0)), el_, H', ⟨by first | omega | exact Nat.le_refl _⟩, ⟨pk_ BK453.out⟩, ⟨pb1_ HB.out GE453.out⟩⟩
 clear HC5
 try clear c2
 try clear p2
 try clear c7
 try clear c8
 try clear hcz10_0
 try clear hcz9_0
 try clear hfz10_0
 try clear hfz9_0
 obtain ⟨kq, x16_4, rfl, HA, HJ4, BK453, HB⟩ := hcut
 rcases kq with _ | kj4
 ·exact absurd HA.out (by simp [impl_Remember.j0])
 have H := HA.out
 clear HA
 simp only [impl_Remember.j0] at H
 by_cases c11 : x16_4 = true
 ·subst c11
  rw [if_pos rfl] at H
  replace H := Option.bind_eq_some_iff.mp H
  obtain ⟨t455, A120, H⟩ := H
  replace H : (some t455) = some r := H
  have A12 := Q_ A120
  clear A120
  obtain rfl := Option.some.inj H
  go_wp2_with (first | (go_at_call 29; (with_reducible refine (impl_keptKnown_with_impl_Remember_1.calls kj4 _ _ l0 t455 _ ?side1 ?side2 A12.out).mono ?_); (case side1 => exact cb_ HR0 HB); (case side2 => exact HC0.out); rintro e w13 ⟨v456, rfl, ho0, hb⟩; have _ := Q_ (Kd.S_lower (Kd.S_newB ho0 (g := gb453) (o := .cells #[.int .i64 a1] 3 (0, 0)) (pk_ BK453.out)) (below_size (pb1_ HB.out GE453.out))); have _ := Q_ (bb_ BK453.out hb); have _ := Q_ (below_step (pb1_ HB.out GE453.out) hb); clear BK453 HB; rename_i HO457 BK453 HB; (try clear hb); (try clear hb2); (try clear hk); (try clear hi); (try clear ho0)))
  go_ret
  exact ⟨_, er_, ps_ (Kd.S_mono HO457.out (fun _ hk => trivial)), pb1_ HB.out GE453.out⟩
 replace c11 := bf_ c11
 subst c11
 rw [if_neg ff_] at H
 replace H := Option.bind_eq_some_iff.mp H
 obtain ⟨t458, A140, H⟩ := H
 (try dsimp only at H)
 have A14 := Q_ A140
 clear A140
 obtain ⟨y461, hy461⟩ : ∃ y_ : List Int, y_ = (([] : List Int)) := ⟨_, rfl⟩
 replace H : (if y461.length + l2.length < 17592186044416 then (if t458.length < 3518437208883 then (some (t458 ++ [(⟨a1, (y461 ++ l2), a3⟩ : S61)])) else (none)) else (none)) = some r := hb_ hy461 H
 have Ny461 := Q_ hy461
 clear hy461
 by_cases c15 : y461.length + l2.length < 17592186044416
 rotate_left
 ·rw [if_neg c15] at H
  exact absurd H (by simp)
 rw [if_pos c15] at H
 have LMc15 := Q_ c15
 clear c15
 obtain ⟨y464, hy464⟩ : ∃ y_ : List Int, y_ = (y461 ++ l2) := ⟨_, rfl⟩
 replace H : (if t458.length < 3518437208883 then (some (t458 ++ [(⟨a1, y464, a3⟩ : S61)])) else (none)) = some r := hb_ hy464 H
 have Ny464 := Q_ hy464
 clear hy464
 by_cases c16 : t458.length < 3518437208883
 rotate_left
 ·rw [if_neg c16] at H
  exact absurd H (by simp)
 rw [if_pos c16] at H
 have LMc16 := Q_ c16
 clear c16
 obtain ⟨y467, hy467⟩ : ∃ y_ : List (S61), y_ = (t458 ++ [(⟨a1, y464, a3⟩ : S61)]) := ⟨_, rfl⟩
 replace H : (some y467) = some r := hb_ hy467 H
 have Ny467 := Q_ hy467
 clear hy467
 obtain rfl := Option.some.inj H
 try go_wp2_with (first | (go_at_call 29; (with_reducible refine (impl_keptKnown_with_impl_Remember_2.calls kj4 _ _ l0 _ a1 t458 _ ?side1 ?side2 ?side3 A14.out).mono ?_); (case side1 => exact cb_ HR0 HB); (case side2 => exact HC0.out); (case side3 => exact pk_ BK453.out); rintro e w17 ⟨v459, rfl, ho0, hb⟩; have _ := Q_ (Kd.S_lower (Kd.S_newB ho0 (g := gb453) (o := .cells #[.int .i64 a1] 3 (0, 0)) (pk_ BK453.out)) (below_size (pb1_ HB.out GE453.out))); have _ := Q_ (bb_ BK453.out hb); have _ := Q_ (below_step (pb1_ HB.out GE453.out) hb); clear BK453 HB; rename_i HO460 BK453 HB; (try clear hb); (try clear hb2); (try clear hk); (try clear hi); (try clear ho0)))
 have _ := Q_ (Kd.S_drew HO460.out)
 have _ := Q_ (blk_drew BK453.out)
 have _ := Q_ (below_drew1 HB.out)
 clear HO460 BK453 HB
 rename_i HO460 BK453 HB
 refine start_ (n := 10) (S := fun w' => w'.cell? ⟨gb453, 0, none⟩ = some (.int .i64 a1)) (ds := []) (tf_ 0 10) (by kernel_rfl) rfl rfl ((blk_cell BK453.out 0).trans rfl) (fun hHeld => ?_); refine with_tabW impl_Remember.tab4 impl_Remember.bits4 (fun HT_ HW_ => ?_)
 generalize w17.drew = w18 at HO460 BK453 HB hHeld ⊢
 refine pu_ 0 (some 22) (tf_ 1 10) HT_ ?_
 refine pu_ 3 (some 25) (tm_ 10 9) HT_ ?_
 refine pu_ 5 (some 27) (tm_ 10 41) HT_ ?_
 refine take_ (i := 1) (N := some 23) (v := ?_) (a' := ?_) #[true, true, false, true, false, true, false, false, false, false] rfl rfl (take_ofW HT_.out HW_.out (by kernel_rfl)) (fun _ _ _ h => h) (Or.inl ⟨by rfl, ?_⟩) hHeld ?_ ?_
 rotate_left
 ·intro w' s0
  go_simp
  (try (simp only [Instr.field]; simp only [underlying, hu61]; go_simp; simp only [asAgg]; go_simp))
  with_reducible rfl
 rotate_left
 ·simp only [Act.put, List.setIfInBounds_toArray, List.set_cons_zero, List.set_cons_succ, i64_w, i32_w]
  rfl
 refine on_ 2 (some 24) (tm_ 10 47) HT_ (fun K hK => ?_)
 refine Kd.R_lit_step (Kd.int .i64) _ 3 ?hg (N := 24) ?hd (xs := ([] : List Int)) (inner := []) (ok := fun _ => True) (okp := fun _ => True) ?hr ?hp (fun _ hk => hk) trivial (Below.refl _ _) (Nat.le_refl _) (by simp) ?_; (case hd => rfl); (case hg => rfl); (case hr => first | (go_simp; done) | (go_simp; rfl)); (case hp => exact (Reps.none _ _))
 intro v462 w19 ho20 hb hg_ hnew_
 clear hg_ hnew_
 (first | rw [← Ny461.out] at ho20 | (simp only [Int.reduceToNat] at ho20; rw [← Ny461.out] at ho20))
 have _ := Q_ (Kd.S_elder' (ps_ HO460.out) (Kd.R_base ho20) hb)
 have _ := Q_ (Kd.R_lower (Kd.R_newB ho20 (g := gb453) (o := .cells #[.int .i64 a1] 3 (0, 0)) (pk_ BK453.out)) (below_size (pb1_ HB.out GE453.out)))
 have _ := Q_ (bb_ BK453.out hb)
 have _ := Q_ (below_step (pb1_ HB.out GE453.out) hb)
 clear HO460 BK453 HB
 rename_i HO460 HO463 BK453 HB
 clear hb ho20
 refine hK.out _ _ ((blk_cell BK453.out 0).trans rfl) (fun hHeld => ?_)
 clear hK K
 refine no_ (some 24) ?_
 refine on_ 4 (some 26) (tf_ 6 10) HT_ (fun K hK => ?_)
 refine Kd.R_append_rows_step (Kd.int .i64) (w0 := w) w.heap.size (by rfl) (.tmp 24) (.tmp 25) 25 3 (.int .i64 0) 8 rfl Try.underlying25 info3 rfl (by decide) (by omega) v462 y461 l2 _ _ _ (fun k_ => k_ ≠ gb453) (fun _ => False) rfl rfl ?aO ?aR (fun _ _ h => h) (fun _ h => h.elim) ?aF ?aB ?aS ?aL ?_
 (case aR => exact cb_ HR2 HB)
 (case aB => exact (pb1_ HB.out GE453.out))
 (case aF => exact (fun k_ hk => Kd.freshB (g := gb453) (o := .cells #[.int .i64 a1] 3 (0, 0)) (pk_ BK453.out) k_ hk))
 (case aO => exact (pr_ (Kd.R_mono HO463.out (fun _ hk => hk.2))))
 (case aS => exact (below_size (pb1_ HB.out GE453.out)))
 (case aL => have := LMc15.out; omega)
 intro v465 w21 ho hb hg hat
 rw [← Ny464.out] at ho
 have _ := Q_ (blk_grown (g := gb453) (o := .cells #[.int .i64 a1] 3 (0, 0)) (pk_ BK453.out) hg (Kd.R_away HO463.out (fun _ hk => hk.2)))
 have _ := Q_ (Kd.S_after (ok := (fun k_ => k_ ≠ gb453)) (by (with_reducible repeat (first | apply Kd.S_alloc | apply Kd.S_drewN | apply Kd.S_drew)); exact Kd.S_mono HO460.out (fun _ hk => ⟨hk.1.2, hk.2⟩)) hg hat)
 have _ := Q_ (hb)
 have _ := Q_ (ho)
 clear BK453 HO460 HB HO463
 rename_i BK453 HO460 HB HO466
 clear ho hb hg hat
 obtain ⟨Ao22, co22, eo22⟩ := Kd.R_slice HO466.out
 (first | subst eo22 | (injection eo22 with f1_ f2_ f3_; have f4_ := f1_.symm; have f5_ := f3_.symm; clear f1_ f2_ f3_; subst f4_; subst f5_))
 refine hK.out _ _ ((blk_cell BK453.out 0).trans rfl) (fun hHeld => ?_)
 clear hK K
 refine no_ (some 26) ?_
 refine pu_ 6 (some 28) (tf_ 7 10) HT_ ?_
 refine on_ 7 (some 29) (tf_ 8 10) HT_ (fun K hK => ?_)
 refine value_ (w1 := ?_) (v := ?_) (by rfl) rfl ?_ ?_
 rotate_left 2
 ·go_simp
  constructor
  ·rfl
  ·rfl
 refine hK.out _ _ ((blk_cell (blk_alloc BK453.out _) 0).trans rfl) (fun hHeld => ?_)
 clear hK K
 refine no_ (some 29) ?_
 refine on_ 8 (some 30) (tf_ 9 10) HT_ (fun K hK => ?_)
 refine Kd.S_append_step k61 (w0 := w) w.heap.size (by rfl) (.tmp 22) (.tmp 29) 24 61 (.agg #[(.int .i64 0), (.slice none 0 0), (.int .i64 0)]) 40 rfl Try.underlying24 info61 rfl (by decide) (by omega) v459 t458 (⟨a1, y464, a3⟩ : S61) [.int .i64 a1, .slice Ao22 y464.length co22, .int .i64 a3] (fun k_ => k_ ≠ gb453) (fun k_ => some k_ = (.slice Ao22 y464.length co22 : Value).ownBlock) rfl rfl ?aP (fun k_ hk_ => ((Kd.R_mono (ok' := fun k_ => ((fun k_ => k_ ≠ gb453)) k_ ∧ some k_ ≠ (v459 : Value).ownBlock) (Kd.R_apart' (HO466.out) (Kd.S_typed HO460.out) (by decide)) (fun k_ hk => ⟨hk.1, hk.2⟩))).1 k_ hk_.symm) ?aF ?aO ?aB ?aS ?aL ?_
 (case aP => exact k61_mkM _ _ _ (⟨a1, y464, a3⟩ : S61) (Kd.R_mono (Kd.R_tight rfl (Kd.R_mono (ok' := fun k_ => ((fun k_ => k_ ≠ gb453)) k_ ∧ some k_ ≠ (v459 : Value).ownBlock) (Kd.R_apart' (HO466.out) (Kd.S_typed HO460.out) (by decide)) (fun k_ hk => ⟨hk.1, hk.2⟩))) (fun _ h_ => h_)))
 (case aB => exact (pb1_ HB.out GE453.out))
 (case aF => exact (fun k_ hk => Kd.freshB (g := gb453) (o := .cells #[.int .i64 a1] 3 (0, 0)) (pk_ BK453.out) k_ hk))
 (case aO => exact (by (with_reducible repeat (first | apply Kd.S_alloc | apply Kd.S_drewN | apply Kd.S_drew)); exact Kd.S_mono HO460.out (fun k_ hk => ⟨hk.1, fun e_ => hk.2 e_⟩)))
 (case aS => exact (below_size (pb1_ HB.out GE453.out)))
 (case aL => have := LMc16.out; omega)
 intro v468 w23 ho hb hg hat
 rw [← Ny467.out] at ho
 have _ := Q_ (blk_grown (g := gb453) (o := .cells #[.int .i64 a1] 3 (0, 0)) (pk_ BK453.out) hg (Kd.S_ne HO460.out BK453.out (by decide)))
 have _ := Q_ (hb)
 have _ := Q_ (ho)
 clear BK453 HB HO460 HO466
 rename_i BK453 HB HO469
 clear ho hb hg hat
 refine hK.out _ _ ((blk_cell BK453.out 0).trans rfl) (fun hHeld => ?_)
 clear hK K
 refine no_ (some 30) ?_
 refine pu_ 9 (some 8) (tf_ 10 10) HT_ ?_
 refine done_ (done_of HT_.out (by kernel_rfl)) ?_
 try go_wp2
 go_ret
 exact ⟨_, er_, ps_ (Kd.S_mono HO469.out (fun _ hk => trivial)), pb1_ HB.out GE453.out⟩

/-! ### slices_Equal_int_int: function 32 -/
def slices_Equal_int_int.l0 : Nat → List Int → List Int → Int → Int → Option (Bool)
 | 0, _, _, _, _ => none
 | k + 1, x0, x1, x12, x13 => if x13 < x12 then (if 0 ≤ x13 then (if x13 < (x0.length : Int) then (if x13 < (x1.length : Int) then (if (rd x0 x13) = (rd x1 x13) then (slices_Equal_int_int.l0 k x0 x1 x12 (wrap64 (x13 + 1))) else (some false)) else (none)) else (none)) else (none)) else (some true)
def slices_Equal_int_int.f (k : Nat) (l0 : List Int) (l1 : List Int) : Option (Bool) := if (l0.length : Int) = (l1.length : Int) then (slices_Equal_int_int.l0 k l0 l1 (l0.length : Int) 0) else (some false)
theorem slices_Equal_int_int.mono_l : ∀ k, (∀ y0 y1 y2 y3, LeO (slices_Equal_int_int.l0 k y0 y1 y2 y3) (slices_Equal_int_int.l0 (k + 1) y0 y1 y2 y3))
 | 0 => fun _ _ _ _ r h => by simp [slices_Equal_int_int.l0] at h
 | k + 1 => by
  have ih0 := slices_Equal_int_int.mono_l k
  ·intro y0 y1 y2 y3
   unfold slices_Equal_int_int.l0
   exact mo1_ ih0
theorem slices_Equal_int_int.mono : ∀ a0 a1 k, LeO (slices_Equal_int_int.f k a0 a1) (slices_Equal_int_int.f (k + 1) a0 a1) := by
 intro a0 a1 k
 have ih0 := slices_Equal_int_int.mono_l k
 unfold slices_Equal_int_int.f
 exact mo1_ ih0
theorem slices_Equal_int_int.calls (k : Nat) (A0 : Option Addr) (c0 : Nat) (l0 : List Int) (A1 : Option Addr) (c1 : Nat) (l1 : List Int) (r : Bool) (w : World) (hr0 : Kd.C (Kd.int .i64) w A0 l0.length l0) (hc0 : l0.length ≤ c0) (hr1 : Kd.C (Kd.int .i64) w A1 l1.length l1) (hc1 : l1.length ≤ c1) (h : slices_Equal_int_int.f k l0 l1 = some r) :
  Calls Try.prog 32 #[.slice A0 l0.length c0, .slice A1 l1.length c1] w fun e w' => e = .returned (.bool r) ∧ Drawn0 w w' := by
 have HR0 := Q_ hr0
 have HC0 := Q_ hc0
 clear hr0 hc0
 have HR1 := Q_ hr1
 have HC1 := Q_ hc1
 clear hr1 hc1
 have H : (if (l0.length : Int) = (l1.length : Int) then (slices_Equal_int_int.l0 k l0 l1 (l0.length : Int) 0) else (some false)) = some r := h
 clear h
 by_cases c3 : (l0.length : Int) = (l1.length : Int)
 rotate_left
 ·rw [if_neg c3] at H
  have c3b0 : ((l0.length : Int) == (l1.length : Int)) = false := beq_eq_false_iff_ne.mpr c3
  have c3b1 : ((l0.length : Int) != (l1.length : Int)) = true := bne_iff_ne.mpr c3
  have c3b2 : (l0.length == l1.length) = false := by first | simpa using c3 | (simp at c3 ⊢; omega)
  obtain rfl := Option.some.inj H
  go_enter Try.func32, Try.ntmps32
  go_wp2
  repeat (go_quiet (fail); try go_wp2)
  go_ret
  exact ⟨by first | rfl | (simp; done) | (simp [*]; done), by repeat (first | exact Drawn0.refl _ | apply Drawn0.step)⟩
 rw [if_pos c3] at H
 have c3b0 : ((l0.length : Int) == (l1.length : Int)) = true := beq_iff_eq.mpr c3
 have c3b1 : ((l0.length : Int) != (l1.length : Int)) = false := bne_eq_false_iff_eq.mpr c3
 have c3b2 : (l0.length == l1.length) = true := by first | simpa using c3 | (simp at c3 ⊢; omega)
 clear c3
 have H' := Q_ H
 clear H
 go_enter Try.func32, Try.ntmps32
 go_wp2
 repeat (go_quiet (fail); try go_wp2)
 go_loopg [13] k (fun kq v13 w' => ∃ (x13_1 : Int), v13 = .int .i64 x13_1 ∧ Aside0 (slices_Equal_int_int.l0 kq l0 l1 (l0.length : Int) x13_1 = some r) ∧ Aside0 (kq ≤ k) ∧ Drawn0 w w')
 case atStart => exact ⟨(0), el_, H', ⟨Nat.le_refl _⟩, by repeat (first | exact Drawn0.refl _ | apply Drawn0.step)⟩
 clear H'
 try clear c1
 try clear p2
 try clear c3
 try clear c3b0
 try clear c3b1
 try clear c3b2
 obtain ⟨x13_1, rfl, HA, HK1, ⟨m1, rfl⟩⟩ := hrel
 rcases gk with _ | k1
 ·exact absurd HA.out (by simp [slices_Equal_int_int.l0])
 have H := HA.out
 clear HA
 simp only [slices_Equal_int_int.l0] at H
 by_cases c4 : x13_1 < (l0.length : Int)
 rotate_left
 ·rw [if_neg c4] at H
  have c4b0 : decide (x13_1 < (l0.length : Int)) = false := decide_eq_false c4
  clear c4
  obtain rfl := Option.some.inj H
  go_wp2
  repeat (go_quiet (fail); try go_wp2)
  go_ret
  exact ⟨by first | rfl | (simp; done) | (simp [*]; done), by repeat (first | exact Drawn0.refl _ | apply Drawn0.step)⟩
 rw [if_pos c4] at H
 have c4b0 : decide (x13_1 < (l0.length : Int)) = true := decide_eq_true c4
 clear c4
 by_cases c5 : 0 ≤ x13_1
 rotate_left
 ·rw [if_neg c5] at H
  exact absurd H (by simp)
 rw [if_pos c5] at H
 have c5b0 : decide (0 ≤ x13_1) = true := decide_eq_true c5
 clear c5
 by_cases c6 : x13_1 < (l0.length : Int)
 rotate_left
 ·rw [if_neg c6] at H
  exact absurd H (by simp)
 rw [if_pos c6] at H
 have c6b0 : decide (x13_1 < (l0.length : Int)) = true := decide_eq_true c6
 clear c6
 by_cases c7 : x13_1 < (l1.length : Int)
 rotate_left
 ·rw [if_neg c7] at H
  exact absurd H (by simp)
 rw [if_pos c7] at H
 have c7b0 : decide (x13_1 < (l1.length : Int)) = true := decide_eq_true c7
 clear c7
 by_cases c8 : (rd l0 x13_1) = (rd l1 x13_1)
 rotate_left
 ·rw [if_neg c8] at H
  have c8b0 : ((rd l0 x13_1) == (rd l1 x13_1)) = false := beq_eq_false_iff_ne.mpr c8
  have c8b1 : ((rd l0 x13_1) != (rd l1 x13_1)) = true := bne_iff_ne.mpr c8
  obtain rfl := Option.some.inj H
  have p470 : 0 ≤ (x13_1 : Int) := dt_
  have q470 : x13_1 < (l0.length : Int) := dt_
  obtain ⟨ad470, e470, hx470_0⟩ := Kd.at_int HR0.out x13_1 p470 q470
  cases e470
  replace p470 := eq_true p470
  replace q470 := eq_true q470
  have p471 : 0 ≤ (x13_1 : Int) := dt_
  have q471 : x13_1 < (l1.length : Int) := dt_
  obtain ⟨ad471, e471, hx471_0⟩ := Kd.at_int HR1.out x13_1 p471 q471
  cases e471
  replace p471 := eq_true p471
  replace q471 := eq_true q471
  go_wp2
  repeat (go_quiet (fail); try go_wp2)
  go_ret
  exact ⟨by first | rfl | (simp; done) | (simp [*]; done), by repeat (first | exact Drawn0.refl _ | apply Drawn0.step)⟩
 rw [if_pos c8] at H
 have c8b0 : ((rd l0 x13_1) == (rd l1 x13_1)) = true := beq_iff_eq.mpr c8
 have c8b1 : ((rd l0 x13_1) != (rd l1 x13_1)) = false := bne_eq_false_iff_eq.mpr c8
 clear c8
 have H' := Q_ H
 clear H
 have p470 : 0 ≤ (x13_1 : Int) := dt_
 have q470 : x13_1 < (l0.length : Int) := dt_
 obtain ⟨ad470, e470, hx470_0⟩ := Kd.at_int HR0.out x13_1 p470 q470
 cases e470
 replace p470 := eq_true p470
 replace q470 := eq_true q470
 have p471 : 0 ≤ (x13_1 : Int) := dt_
 have q471 : x13_1 < (l1.length : Int) := dt_
 obtain ⟨ad471, e471, hx471_0⟩ := Kd.at_int HR1.out x13_1 p471 q471
 cases e471
 replace p471 := eq_true p471
 replace q471 := eq_true q471
 go_wp2
 repeat (go_quiet (fail); try go_wp2)
 go_roundg k1
 case measure => have := HK1.out; omega
 case rel => exact ⟨(wrap64 (x13_1 + 1)), el_, H', ⟨by have := HK1.out; omega⟩, by repeat (first | exact Drawn0.refl _ | apply Drawn0.step)⟩

/-! ### impl_EqualInts: function 8 -/
def impl_EqualInts.f (k : Nat) (l0 : List Int) (l1 : List Int) : Option (Bool) := (slices_Equal_int_int.f k l0 l1).bind fun t472 => (some t472)
theorem impl_EqualInts.mono : ∀ a0 a1 k, LeO (impl_EqualInts.f k a0 a1) (impl_EqualInts.f (k + 1) a0 a1) := by
 intro a0 a1 k
 unfold impl_EqualInts.f
 exact mo1_ slices_Equal_int_int.mono
theorem impl_EqualInts.calls (k : Nat) (A0 : Option Addr) (c0 : Nat) (l0 : List Int) (A1 : Option Addr) (c1 : Nat) (l1 : List Int) (r : Bool) (w : World) (hr0 : Kd.C (Kd.int .i64) w A0 l0.length l0) (hc0 : l0.length ≤ c0) (hr1 : Kd.C (Kd.int .i64) w A1 l1.length l1) (hc1 : l1.length ≤ c1) (h : impl_EqualInts.f k l0 l1 = some r) :
  Calls Try.prog 8 #[.slice A0 l0.length c0, .slice A1 l1.length c1] w fun e w' => e = .returned (.bool r) ∧ Drawn0 w w' := by
 have HR0 := Q_ hr0
 have HC0 := Q_ hc0
 clear hr0 hc0
 have HR1 := Q_ hr1
 have HC1 := Q_ hc1
 clear hr1 hc1
 have H : ((slices_Equal_int_int.f k l0 l1).bind fun t472 => (some t472)) = some r := h
 clear h
 replace H := Option.bind_eq_some_iff.mp H
 obtain ⟨t472, A30, H⟩ := H
 replace H : (some t472) = some r := H
 have A3 := Q_ A30
 clear A30
 obtain rfl := Option.some.inj H
 go_enter Try.func8, Try.ntmps8
 go_wp2_with (first | ((with_reducible refine gate_callee (f := 32) rfl ?_); refine gl_ (some 7) Try.func32 #[.slice A0 l0.length c0, .slice A1 l1.length c1] ?_; (with_reducible refine (slices_Equal_int_int.calls k _ _ l0 _ _ l1 t472 _ ?side1 ?side2 ?side3 ?side4 A3.out).mono ?_); (case side1 => exact pc_ HR0.out); (case side2 => exact HC0.out); (case side3 => exact pc_ HR1.out); (case side4 => exact HC1.out); rintro e w' ⟨rfl, ⟨nd, rfl⟩⟩; refine ⟨_, rfl, ?_⟩))
 go_ret
 exact ⟨by first | rfl | (simp; done) | (simp [*]; done), by repeat (first | exact Drawn0.refl _ | apply Drawn0.step)⟩

/-! ### impl_ForgetOld_1: function 100005 -/
def impl_ForgetOld_1.f (a0_0 : Int) (l0_1 : List Int) (a0_2 : Int) (a1_0 : Int) : Option (Bool) := (impl_InRange.f a0_2 (wrap64 (a1_0 - 20)) a1_0).bind fun t474 => (some t474)
theorem impl_ForgetOld_1.calls (a0_0 : Int) (A0_1 : Option Addr) (c0_1 : Nat) (l0_1 : List Int) (a0_2 : Int) (B1 : Nat) (a1_0 : Int) (r : Bool) (w : World) (hr0_1 : Kd.C (Kd.int .i64) w A0_1 l0_1.length l0_1) (hc0_1 : l0_1.length ≤ c0_1) (hbv1 : w.heap[B1]? = some (.cells #[.int .i64 a1_0] 3 (0, 0))) (h : impl_ForgetOld_1.f a0_0 l0_1 a0_2 a1_0 = some r) :
  Calls Try.prog 34 #[.agg #[.int .i64 a0_0, .slice A0_1 l0_1.length c0_1, .int .i64 a0_2], .pointer (some ⟨B1, 0, none⟩)] w fun e w' => e = .returned (.bool r) ∧ Below w.heap.size w w' := by
 have hu61 := Try.underlying61
 have HR0_1 := Q_ hr0_1
 have HC0_1 := Q_ hc0_1
 clear hr0_1 hc0_1
 have BK1 := Q_ hbv1
 clear hbv1
 have HB := Q_ (Below.refl w.heap.size w)
 have H : ((impl_InRange.f a0_2 (wrap64 (a1_0 - 20)) a1_0).bind fun t474 => (some t474)) = some r := h
 clear h
 replace H := Option.bind_eq_some_iff.mp H
 obtain ⟨t474, A30, H⟩ := H
 replace H : (some t474) = some r := H
 have A3 := Q_ A30
 clear A30
 obtain rfl := Option.some.inj H
 go_enter Try.func34, Try.ntmps34
 go_wp2_with (first | ((with_reducible refine gate_dst (N := 2) rfl ?_); refine box_event ?hg (N := 2) ?hd (cs := #[.int .i64 a0_0, .slice A0_1 l0_1.length c0_1, .int .i64 a0_2]) (t := 61) ?hr ?_; (case hd => rfl); (case hg => rfl); (case hr => first | (go_simp; done) | (go_simp; rfl)); intro gb473 hg w4 hbox hb; have _ := Q_ (bb_ BK1.out hb); have _ := Q_ (below_step (pb_ HB.out) hb); have BK473 := Q_ (hbox); have GW473 := Q_ ((by rw [hg]; exact (below_size (pb_ HB.out)) : w.heap.size ≤ gb473)); have GE473 := GW473; have NB1_473 := Q_ ((by rw [hg]; exact Nat.ne_of_lt (blk_lt (pk_ BK1.out)) : B1 ≠ gb473)); have NB473_1 := Q_ NB1_473.out.symm; clear BK1 HB; rename_i BK1 HB; clear hb hbox hg; have hnb5 := NB473_1.out; have hnc5 := NB1_473.out; have hcz6 := bc3_ BK473.out; have hcz7_0 : w4.cell? ⟨B1, 0, none⟩ = some (.int .i64 a1_0) := (blk_cell BK1.out 0).trans rfl; have hfz7_0 := blk_frozen BK1.out 0) | ((with_reducible refine gate_callee (f := 28) rfl ?_); refine gl_ (some 9) Try.func28 #[.int .i64 a0_2, .int .i64 (wrap64 (a1_0 - 20)), .int .i64 a1_0] ?_; (with_reducible refine (impl_InRange.calls a0_2 (wrap64 (a1_0 - 20)) a1_0 t474 _ A3.out).mono ?_); rintro e w' ⟨rfl, ⟨nd, rfl⟩⟩; refine ⟨_, rfl, ?_⟩))
 go_ret
 exact ⟨er_, pb1_ HB.out GE473.out⟩

end Go.Proofs.Ytlcpaebidnaolaa.Print
