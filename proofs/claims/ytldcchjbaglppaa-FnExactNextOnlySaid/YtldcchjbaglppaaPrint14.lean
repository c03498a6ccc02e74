-- Written by a program of this session (printx.py) out of the translation; Lean checks it.
import Derived.Test.YtldcchjbaglppaaPrint0
import Derived.Test.YtldcchjbaglppaaPrint13
namespace Go.Proofs.Ytldcchjbaglppaa.Print
open Go.RowKit Go.Proofs.YtldcchjbaglppaaW.PrintWords Go.Proofs.YtldcchjbaglppaaW.PrintLast Go.Proofs.YtldcchjbaglppaaW.PrintMore Go.Proofs.Ytldcchjbaglppaa.Short
attribute [local go_sem] max2_int min2_int max_two min_two max_three min_three max_four min_four   -- for this text's walks alone
set_option linter.unusedVariables false
set_option linter.unusedSimpArgs false

/-! ### impl_WorksWith: function 18 -/
def impl_WorksWith.l0 : Nat → List Int → List (S34) → Int → Int → Int → List Bool → List (S78) → Option (List Int)
  | 0, _, _, _, _, _, _, _ => none
  | k + 1, x5, x9, x10, x11, x473000, x473001, x473002 => if x11 < x10 then (if 0 ≤ x11 then (if x11 < (x9.length : Int) then ((impl_IsSafe.f k ((rd_T34 x9 x11).f0) ((rd_T34 x9 x11).f1) ((rd_T34 x9 x11).f2) x473000 x473001 x473002).bind fun t478 => (if t478 = true then (if x5.length < 17592186044416 then (impl_WorksWith.l0 k (x5 ++ [x11]) x9 x10 (wrap64 (x11 + 1)) x473000 x473001 x473002) else (none)) else (impl_WorksWith.l0 k x5 x9 x10 (wrap64 (x11 + 1)) x473000 x473001 x473002))) else (none)) else (none)) else (some x5)
def impl_WorksWith.f (k : Nat) (l0 : List (S34)) (a1_0 : Int) (l1_1 : List Bool) (l1_2 : List (S78)) : Option (List Int) := impl_WorksWith.l0 k (([] : List Int)) l0 (l0.length : Int) 0 a1_0 l1_1 l1_2
theorem impl_WorksWith.mono_l : ∀ k, (∀ y0 y1 y2 y3 y4 y5 y6, LeO (impl_WorksWith.l0 k y0 y1 y2 y3 y4 y5 y6) (impl_WorksWith.l0 (k + 1) y0 y1 y2 y3 y4 y5 y6))
  | 0 => fun _ _ _ _ _ _ _ r h => by simp [impl_WorksWith.l0] at h
  | k + 1 => by
    have ih0 := impl_WorksWith.mono_l k
    · intro y0 y1 y2 y3 y4 y5 y6
      unfold impl_WorksWith.l0
      exact mo2_ ih0 impl_IsSafe.mono
theorem impl_WorksWith.mono : ∀ a0 a1 a2 a3 k, LeO (impl_WorksWith.f k a0 a1 a2 a3) (impl_WorksWith.f (k + 1) a0 a1 a2 a3) := by
  intro a0 a1 a2 a3 k
  have ih0 := impl_WorksWith.mono_l k
  unfold impl_WorksWith.f
  exact mo2_ ih0 impl_IsSafe.mono
set_option maxHeartbeats 8000000 in
set_option maxRecDepth 100000 in
theorem impl_WorksWith.calls (k : Nat) (A0 : Option Addr) (c0 : Nat) (l0 : List (S34)) (a1_0 : Int) (A1_1 : Option Addr) (c1_1 : Nat) (l1_1 : List Bool) (A1_2 : Option Addr) (c1_2 : Nat) (l1_2 : List (S78)) (r : List Int) (w : World) (hr0 : Kd.C k34 w A0 l0.length l0) (hc0 : l0.length ≤ c0) (hr1_1 : Kd.C Kd.bool w A1_1 l1_1.length l1_1) (hc1_1 : l1_1.length ≤ c1_1) (hr1_2 : Kd.C k78 w A1_2 l1_2.length l1_2) (hc1_2 : l1_2.length ≤ c1_2) (h : impl_WorksWith.f k l0 a1_0 l1_1 l1_2 = some r) :
    Calls Try.prog 18 #[.slice A0 l0.length c0, .agg #[.int .i64 a1_0, .slice A1_1 l1_1.length c1_1, .slice A1_2 l1_2.length c1_2]] w fun e w' => ∃ v0_ : Value, e = .returned (v0_) ∧ Kd.R (Kd.int .i64) 3 w' w.heap.size (fun _ => True) v0_ r ∧ Below w.heap.size w w' := by
  have hu34 := Try.underlying34
  have HR0 := Q_ hr0
  have HC0 := Q_ hc0
  clear hr0 hc0
  have HR1_1 := Q_ hr1_1
  have HC1_1 := Q_ hc1_1
  clear hr1_1 hc1_1
  have HR1_2 := Q_ hr1_2
  have HC1_2 := Q_ hc1_2
  clear hr1_2 hc1_2
  have HB := Q_ (Below.refl w.heap.size w)
  have H : (impl_WorksWith.l0 k (([] : List Int)) l0 (l0.length : Int) 0 a1_0 l1_1 l1_2) = some r := h
  clear h
  obtain ⟨y473, hy473⟩ : ∃ y_ : List Int, y_ = (([] : List Int)) := ⟨_, rfl⟩
  replace H : (impl_WorksWith.l0 k y473 l0 (l0.length : Int) 0 a1_0 l1_1 l1_2) = some r := by first | (rw [hy473]; with_reducible exact H) | (have H2_ := (Option.bind_some _ _).symm.trans H; rw [hy473]; with_reducible exact H2_) | (have H2_ := (Option.bind_some _ _).symm.trans H; with_reducible exact H2_) | with_reducible exact H | (rw [hy473]; exact H) | exact H
  have Ny473 := Q_ hy473
  clear hy473
  have H' := Q_ H
  clear H
  go_enter Try.func18, Try.ntmps18
  go_wp2_with (first | ((with_reducible refine gate_dst (N := 3) rfl ?_); refine box_event ?hg (N := 3) ?hd (cs := #[.int .i64 a1_0, .slice A1_1 l1_1.length c1_1, .slice A1_2 l1_2.length c1_2]) (t := 34) ?hr ?_; (case hd => rfl); (case hg => rfl); (case hr => first | (go_simp; done) | (go_simp; rfl)); intro gb472 hg w3 hbox hb; have n0_ := Q_ (below_step (pb_ HB.out) hb); have n1_ := Q_ (hbox); have n2_ := Q_ ((by rw [hg]; exact (below_size (pb_ HB.out)) : w.heap.size ≤ gb472)); have n3_ := n2_; clear HB; have HB := n0_; have BK472 := n1_; have GW472 := n2_; have GE472 := n3_; clear n0_ n1_ n2_ n3_; clear hb hbox hg) | ((with_reducible refine gate_dst (N := 8) rfl ?_); refine Kd.R_lit (Kd.int .i64) _ 3 ?hg (N := 8) ?hd (xs := ([] : List Int)) (inner := []) (ok := fun _ => True) (okp := fun _ => True) ?hr ?hp (fun _ hk => hk) trivial (Below.refl _ _) (Nat.le_refl _) (by simp) ?_; (case hd => rfl); (case hg => rfl); (case hr => first | (go_simp; done) | (go_simp; rfl)); (case hp => exact (Reps.none _ _)); intro v474 w4 ho5 hb hg_ hnew_; clear hg_ hnew_; (first | rw [← Ny473.out] at ho5 | (simp only [Int.reduceToNat] at ho5; rw [← Ny473.out] at ho5)); have _ := Q_ (Kd.R_lower ho5 (below_size (pb1_ HB.out GE472.out))); have _ := Q_ (bb_ BK472.out hb); have _ := Q_ (below_step (pb1_ HB.out GE472.out) hb); clear BK472 HB; rename_i HO475 BK472 HB; clear hb ho5))
  (try simp only [Act.put, List.setIfInBounds_toArray, List.set_cons_zero, List.set_cons_succ])
  go_loopg [5, 11] k (fun kq v5 v11 w' => ∃ (x5_1 : List Int) (x11_1 : Int), v11 = .int .i64 x11_1 ∧ Aside0 (impl_WorksWith.l0 kq x5_1 l0 (l0.length : Int) x11_1 a1_0 l1_1 l1_2 = some r) ∧ Aside0 (kq ≤ k) ∧ Aside0 (Kd.R (Kd.int .i64) 3 w' w.heap.size (fun _ => True) v5 x5_1) ∧ Aside0 (w'.heap[gb472]? = some (.cells #[.int .i64 a1_0, (.slice A1_1 l1_1.length c1_1), (.slice A1_2 l1_2.length c1_2)] 34 (0, 0))) ∧ Aside0 (Below w.heap.size w w'))
  case atStart => exact ⟨(y473), (0), el_, H', ⟨Nat.le_refl _⟩, ⟨pr_ HO475.out⟩, ⟨pk_ BK472.out⟩, ⟨pb1_ HB.out GE472.out⟩⟩
  clear H'
  try clear c1
  try clear p2
  obtain ⟨x5_1, x11_1, rfl, HA, HK1, HO_5, BK472, HB⟩ := hrel
  rcases gk with _ | k1
  · exact absurd HA.out (by simp [impl_WorksWith.l0])
  have H := HA.out
  clear HA
  simp only [impl_WorksWith.l0] at H
  by_cases c6 : x11_1 < (l0.length : Int)
  rotate_left
  · rw [if_neg c6] at H
    have c6b0 : decide (x11_1 < (l0.length : Int)) = false := decide_eq_false c6
    clear c6
    obtain rfl := Option.some.inj H
    go_wp2
    go_ret
    exact ⟨_, er_, pr_ HO_5.out, pb1_ HB.out GE472.out⟩
  rw [if_pos c6] at H
  have c6b0 : decide (x11_1 < (l0.length : Int)) = true := decide_eq_true c6
  clear c6
  by_cases c7 : 0 ≤ x11_1
  rotate_left
  · rw [if_neg c7] at H
    exact absurd H (by simp)
  rw [if_pos c7] at H
  have c7b0 : decide (0 ≤ x11_1) = true := decide_eq_true c7
  clear c7
  by_cases c8 : x11_1 < (l0.length : Int)
  rotate_left
  · rw [if_neg c8] at H
    exact absurd H (by simp)
  rw [if_pos c8] at H
  have c8b0 : decide (x11_1 < (l0.length : Int)) = true := decide_eq_true c8
  clear c8
  have HS_ := Q_ H
  clear H
  have p476 : 0 ≤ (x11_1 : Int) := dt_
  have q476 : x11_1 < (l0.length : Int) := dt_
  obtain ⟨ad476, A476_1, c476_1, A476_2, c476_2, e476, hx476_0, hx476_1, hx476_2, hl476_1, hi476_1, hl476_2, hi476_2⟩ := at_T34 HR0.out x11_1 p476 q476
  cases e476
  replace hx476_0 := bt_ HB hx476_0
  replace hx476_1 := bt_ HB hx476_1
  replace hx476_2 := bt_ HB hx476_2
  have HR476_1 := Q_ hi476_1
  have HC476_1 := Q_ hl476_1
  clear hi476_1 hl476_1
  have HR476_2 := Q_ hi476_2
  have HC476_2 := Q_ hl476_2
  clear hi476_2 hl476_2
  replace p476 := eq_true p476
  replace q476 := eq_true q476
  go_upto_region 5 with (first | ((with_reducible refine gate_dst (N := 7) rfl ?_); refine box_event ?hg (N := 7) ?hd (cs := #[.int .i64 0, .slice none 0 0, .slice none 0 0]) (t := 34) ?hr ?_; (case hd => rfl); (case hg => rfl); (case hr => first | (go_simp; done) | (go_simp; rfl)); intro gb477 hg w9 hbox hb; have n0_ := Q_ (Kd.R_below (pr_ HO_5.out) hb); have n1_ := Q_ (bb_ BK472.out hb); have n2_ := Q_ (below_step (pb1_ HB.out GE472.out) hb); have n3_ := Q_ (hbox); have n4_ := Q_ ((by rw [hg]; exact (below_size (pb1_ HB.out GE472.out)) : w.heap.size ≤ gb477)); have n5_ := n4_; have n6_ := Q_ ((by rw [hg]; exact Nat.ne_of_lt (blk_lt (pk_ BK472.out)) : gb472 ≠ gb477)); have n7_ := Q_ ((by rw [hg]; exact Nat.ne_of_gt (blk_lt (pk_ BK472.out)) : gb477 ≠ gb472)); clear HO_5; clear BK472; clear HB; have HO_5 := n0_; have BK472 := n1_; have HB := n2_; have BK477 := n3_; have GW477 := n4_; have GE477 := n5_; have NB472_477 := n6_; have NB477_472 := n7_; clear n0_ n1_ n2_ n3_ n4_ n5_ n6_ n7_; clear hb hbox hg; have hnb10 := NB477_472.out; have hnc10 := NB472_477.out; have hcz11 := bc3_ BK477.out))
  (try simp only [Act.put, List.setIfInBounds_toArray, List.set_cons_zero, List.set_cons_succ])
  have H := HS_.out
  clear HS_
  replace H := Option.bind_eq_some_iff.mp H
  obtain ⟨t478, A120, H⟩ := H
  (try dsimp only at H)
  have A12 := Q_ A120
  clear A120
  have HS_ := Q_ H
  clear H
  have hnb13 := NB477_472.out
  have hnc13 := NB472_477.out
  have hcz14 := bc3_ BK477.out
  have hcz15 := bc3_ BK472.out
  go_upto_if 18 with (first | ((with_reducible refine gate_callee (f := 42) rfl ?_); refine gl_ (some 18) Try.func42 #[.agg #[.int .i64 ((rd_T34 l0 x11_1).f0), .slice A476_1 ((rd_T34 l0 x11_1).f1).length c476_1, .slice A476_2 ((rd_T34 l0 x11_1).f2).length c476_2], .agg #[.int .i64 a1_0, .slice A1_1 l1_1.length c1_1, .slice A1_2 l1_2.length c1_2]] ?_; (with_reducible refine (impl_IsSafe.calls k1 ((rd_T34 l0 x11_1).f0) _ _ ((rd_T34 l0 x11_1).f1) _ _ ((rd_T34 l0 x11_1).f2) a1_0 _ _ l1_1 _ _ l1_2 t478 _ ?side1 ?side2 ?side3 ?side4 ?side5 ?side6 ?side7 ?side8 A12.out).mono ?_); (case side1 => exact Kd.C_below HR476_1.out (pb2_ HB.out GE472.out GE477.out)); (case side2 => exact HC476_1.out); (case side3 => exact Kd.C_below HR476_2.out (pb2_ HB.out GE472.out GE477.out)); (case side4 => exact HC476_2.out); (case side5 => exact Kd.C_below HR1_1.out (pb2_ HB.out GE472.out GE477.out)); (case side6 => exact HC1_1.out); (case side7 => exact Kd.C_below HR1_2.out (pb2_ HB.out GE472.out GE477.out)); (case side8 => exact HC1_2.out); rintro e w16 ⟨rfl, hb⟩; refine ⟨_, rfl, ?_⟩; have _ := Q_ (Kd.R_below (pr_ (rf3_ HO_5.out BK477.out)) hb); have _ := Q_ (blk_below (g := gb472) (o := .cells #[.int .i64 a1_0, .slice A1_1 l1_1.length c1_1, .slice A1_2 l1_2.length c1_2] 34 (0, 0)) (pp_ BK472.out) hb); have _ := Q_ (blk_below (g := gb477) (o := .cells #[.int .i64 ((rd_T34 l0 x11_1).f0), .slice A476_1 ((rd_T34 l0 x11_1).f1).length c476_1, .slice A476_2 ((rd_T34 l0 x11_1).f2).length c476_2] 34 (0, 0)) (pp_ BK477.out) hb); have _ := Q_ (below_step (pb2_ HB.out GE472.out GE477.out) hb); clear HO_5 BK472 BK477 HB; rename_i HO_5 BK472 BK477 HB; (try clear hb); (try clear hb2); (try clear hk); (try clear hi)))
  (try simp only [Act.put, List.setIfInBounds_toArray, List.set_cons_zero, List.set_cons_succ])
  have H := HS_.out
  clear HS_
  by_cases c17 : t478 = true
  rotate_left
  · replace c17 := Bool.eq_false_iff.mpr c17
    subst c17
    rw [if_neg (show ¬ (false = true) by decide)] at H
    have H' := Q_ H
    clear H
    go_wp2
    go_roundg k1
    case measure => have := HK1.out; omega
    case rel => exact ⟨(x5_1), (wrap64 (x11_1 + 1)), el_, H', ⟨by have := HK1.out; omega⟩, ⟨pr_ HO_5.out⟩, ⟨pk_ BK472.out⟩, ⟨pb2_ HB.out GE472.out GE477.out⟩⟩
  subst c17
  rw [if_pos rfl] at H
  by_cases c18 : x5_1.length < 17592186044416
  rotate_left
  · rw [if_neg c18] at H
    exact absurd H (by simp)
  rw [if_pos c18] at H
  have LMc18 := Q_ c18
  clear c18
  obtain ⟨y479, hy479⟩ : ∃ y_ : List Int, y_ = (x5_1 ++ [x11_1]) := ⟨_, rfl⟩
  replace H : (impl_WorksWith.l0 k1 y479 l0 (l0.length : Int) (wrap64 (x11_1 + 1)) a1_0 l1_1 l1_2) = some r := by first | (rw [hy479]; with_reducible exact H) | (have H2_ := (Option.bind_some _ _).symm.trans H; rw [hy479]; with_reducible exact H2_) | (have H2_ := (Option.bind_some _ _).symm.trans H; with_reducible exact H2_) | with_reducible exact H | (rw [hy479]; exact H) | exact H
  have Ny479 := Q_ hy479
  clear hy479
  have H' := Q_ H
  clear H
  go_wp2_with (first | ((with_reducible refine gate_builtin (b := .append) (xs := #[.tmp 19, .tmp 21]) rfl ?_); at_builtin; refine Kd.R_append (Kd.int .i64) (w0 := w) w.heap.size rfl (.tmp 19) (.tmp 21) 39 3 (.int .i64 0) 8 rfl Try.underlying39 info3 rfl (by decide) (by omega) u5 x5_1 x11_1 [.int .i64 x11_1] (fun _ => True) (fun _ => False) rfl rfl ?aP (fun _ hk => hk.elim) ?aF ?aO ?aB ?aS ?aL ?_; (case aP => exact rfl); (case aB => exact (pb2_ HB.out GE472.out GE477.out)); (case aF => exact (fun _ _ => trivial)); (case aO => exact (pr_ HO_5.out)); (case aS => exact (below_size (pb2_ HB.out GE472.out GE477.out))); (case aL => have := LMc18.out; omega); intro v480 w19 ho hb hg hat; rw [← Ny479.out] at ho; have _ := Q_ (blk_grown (g := gb472) (o := .cells #[.int .i64 a1_0, .slice A1_1 l1_1.length c1_1, .slice A1_2 l1_2.length c1_2] 34 (0, 0)) (pk_ BK472.out) hg (Kd.R_ne HO_5.out BK472.out (by decide))); have _ := Q_ (blk_grown (g := gb477) (o := .cells #[.int .i64 ((rd_T34 l0 x11_1).f0), .slice A476_1 ((rd_T34 l0 x11_1).f1).length c476_1, .slice A476_2 ((rd_T34 l0 x11_1).f2).length c476_2] 34 (0, 0)) (pk_ BK477.out) hg (Kd.R_ne HO_5.out BK477.out (by decide))); have _ := Q_ (hb); have _ := Q_ (ho); clear BK472 BK477 HB HO_5; rename_i BK472 BK477 HB HO481; clear ho hb hg hat))
  go_roundg k1
  case measure => have := HK1.out; omega
  case rel => exact ⟨(y479), (wrap64 (x11_1 + 1)), el_, H', ⟨by have := HK1.out; omega⟩, ⟨pr_ HO481.out⟩, ⟨pk_ BK472.out⟩, ⟨pb2_ HB.out GE472.out GE477.out⟩⟩

/-! ### impl_LatestFor: function 14 -/
def impl_LatestFor.f (k : Nat) (l0 : List (S34)) (a1_0 : Int) (l1_1 : List Bool) (l1_2 : List (S78)) : Option (Int) := (impl_WorksWith.f k l0 a1_0 l1_1 l1_2).bind fun t483 => (if (t483.length : Int) = 0 then (some (-1)) else (if 0 ≤ (wrap64 ((t483.length : Int) - 1)) then (if (wrap64 ((t483.length : Int) - 1)) < (t483.length : Int) then (some (rd t483 (wrap64 ((t483.length : Int) - 1)))) else (none)) else (none)))
theorem impl_LatestFor.mono : ∀ a0 a1 a2 a3 k, LeO (impl_LatestFor.f k a0 a1 a2 a3) (impl_LatestFor.f (k + 1) a0 a1 a2 a3) := by
  intro a0 a1 a2 a3 k
  unfold impl_LatestFor.f
  exact mo1_ impl_WorksWith.mono
set_option maxHeartbeats 8000000 in
set_option maxRecDepth 100000 in
theorem impl_LatestFor.calls (k : Nat) (A0 : Option Addr) (c0 : Nat) (l0 : List (S34)) (a1_0 : Int) (A1_1 : Option Addr) (c1_1 : Nat) (l1_1 : List Bool) (A1_2 : Option Addr) (c1_2 : Nat) (l1_2 : List (S78)) (r : Int) (w : World) (hr0 : Kd.C k34 w A0 l0.length l0) (hc0 : l0.length ≤ c0) (hr1_1 : Kd.C Kd.bool w A1_1 l1_1.length l1_1) (hc1_1 : l1_1.length ≤ c1_1) (hr1_2 : Kd.C k78 w A1_2 l1_2.length l1_2) (hc1_2 : l1_2.length ≤ c1_2) (h : impl_LatestFor.f k l0 a1_0 l1_1 l1_2 = some r) :
    Calls Try.prog 14 #[.slice A0 l0.length c0, .agg #[.int .i64 a1_0, .slice A1_1 l1_1.length c1_1, .slice A1_2 l1_2.length c1_2]] w fun e w' => e = .returned (.int .i64 r) ∧ Below w.heap.size w w' := by
  have hu34 := Try.underlying34
  have HR0 := Q_ hr0
  have HC0 := Q_ hc0
  clear hr0 hc0
  have HR1_1 := Q_ hr1_1
  have HC1_1 := Q_ hc1_1
  clear hr1_1 hc1_1
  have HR1_2 := Q_ hr1_2
  have HC1_2 := Q_ hc1_2
  clear hr1_2 hc1_2
  have HB := Q_ (Below.refl w.heap.size w)
  have H : ((impl_WorksWith.f k l0 a1_0 l1_1 l1_2).bind fun t483 => (if (t483.length : Int) = 0 then (some (-1)) else (if 0 ≤ (wrap64 ((t483.length : Int) - 1)) then (if (wrap64 ((t483.length : Int) - 1)) < (t483.length : Int) then (some (rd t483 (wrap64 ((t483.length : Int) - 1)))) else (none)) else (none)))) = some r := h
  clear h
  have HS_ := Q_ H
  clear H
  go_enter Try.func14, Try.ntmps14
  go_upto_region 1 with (first | ((with_reducible refine gate_dst (N := 3) rfl ?_); refine box_event ?hg (N := 3) ?hd (cs := #[.int .i64 a1_0, .slice A1_1 l1_1.length c1_1, .slice A1_2 l1_2.length c1_2]) (t := 34) ?hr ?_; (case hd => rfl); (case hg => rfl); (case hr => first | (go_simp; done) | (go_simp; rfl)); intro gb482 hg w3 hbox hb; have n0_ := Q_ (below_step (pb_ HB.out) hb); have n1_ := Q_ (hbox); have n2_ := Q_ ((by rw [hg]; exact (below_size (pb_ HB.out)) : w.heap.size ≤ gb482)); have n3_ := n2_; clear HB; have HB := n0_; have BK482 := n1_; have GW482 := n2_; have GE482 := n3_; clear n0_ n1_ n2_ n3_; clear hb hbox hg))
  (try simp only [Act.put, List.setIfInBounds_toArray, List.set_cons_zero, List.set_cons_succ])
  have H := HS_.out
  clear HS_
  replace H := Option.bind_eq_some_iff.mp H
  obtain ⟨t483, A40, H⟩ := H
  (try dsimp only at H)
  have A4 := Q_ A40
  clear A40
  have HS_ := Q_ H
  clear H
  have hcz5 := bc3_ BK482.out
  go_upto_region 2 with (first | ((with_reducible refine gate_callee (f := 18) rfl ?_); refine gl_ (some 8) Try.func18 #[.slice A0 l0.length c0, .agg #[.int .i64 a1_0, .slice A1_1 l1_1.length c1_1, .slice A1_2 l1_2.length c1_2]] ?_; (with_reducible refine (impl_WorksWith.calls k _ _ l0 a1_0 _ _ l1_1 _ _ l1_2 t483 _ ?side1 ?side2 ?side3 ?side4 ?side5 ?side6 A4.out).mono ?_); (case side1 => exact cb_ HR0 HB); (case side2 => exact HC0.out); (case side3 => exact cb_ HR1_1 HB); (case side4 => exact HC1_1.out); (case side5 => exact cb_ HR1_2 HB); (case side6 => exact HC1_2.out); rintro e w6 ⟨v484, rfl, ho0, hb⟩; refine ⟨_, rfl, ?_⟩; have _ := Q_ (Kd.R_lower ho0 (below_size (pb1_ HB.out GE482.out))); have _ := Q_ (bb_ BK482.out hb); have _ := Q_ (below_step (pb1_ HB.out GE482.out) hb); clear BK482 HB; rename_i HO485 BK482 HB; (try clear hb); (try clear hb2); (try clear hk); (try clear hi); (try clear ho0)))
  (try simp only [Act.put, List.setIfInBounds_toArray, List.set_cons_zero, List.set_cons_succ])
  have H := HS_.out
  clear HS_
  by_cases c7 : (t483.length : Int) = 0
  · rw [if_pos c7] at H
    have c7b0 : ((t483.length : Int) == 0) = true := beq_iff_eq.mpr c7
    have c7b1 : ((t483.length : Int) != 0) = false := bne_eq_false_iff_eq.mpr c7
    clear c7
    (first | rw [c7b0] | (simp only [i64_w, i32_w]; rw [c7b0]) | rw [c7b1] | (have c_ := c7b1; rw [bne] at c_; rw [c_]; clear c_) | skip)
    obtain rfl := Option.some.inj H
    obtain ⟨Ao8, co8, eo8⟩ := Kd.R_slice HO485.out
    subst eo8
    go_wp2
    go_ret
    exact ⟨er_, pb1_ HB.out GE482.out⟩
  rw [if_neg c7] at H
  have c7b0 : ((t483.length : Int) == 0) = false := beq_eq_false_iff_ne.mpr c7
  have c7b1 : ((t483.length : Int) != 0) = true := bne_iff_ne.mpr c7
  have c7b2 : ¬ (t483 = []) := fun h_ => c7 (by rw [h_]; rfl)
  (first | rw [c7b0] | (simp only [i64_w, i32_w]; rw [c7b0]) | rw [c7b1] | (have c_ := c7b1; rw [bne] at c_; rw [c_]; clear c_) | skip)
  obtain ⟨ji9, hji9⟩ : ∃ j_ : Int, (wrap64 ((t483.length : Int) - 1)) = j_ := ⟨_, rfl⟩
  replace H : (if 0 ≤ (ji9) then (if (ji9) < (t483.length : Int) then (some (rd t483 (ji9))) else (none)) else (none)) = some r := by first | (rw [hji9] at H; exact H) | (simp only [hji9] at H ⊢; exact H)
  have hji9w : (IntKind.i64.wrap ((t483.length : Int) - 1)) = ji9 := (i64_w _).trans hji9
  by_cases c10 : 0 ≤ (ji9)
  rotate_left
  · rw [if_neg c10] at H
    exact absurd H (by simp)
  rw [if_pos c10] at H
  have c10b0 : decide (0 ≤ (ji9)) = true := decide_eq_true c10
  clear c10
  by_cases c11 : (ji9) < (t483.length : Int)
  rotate_left
  · rw [if_neg c11] at H
    exact absurd H (by simp)
  rw [if_pos c11] at H
  have c11b0 : decide ((ji9) < (t483.length : Int)) = true := decide_eq_true c11
  clear c11
  obtain rfl := Option.some.inj H
  obtain ⟨Ao12, co12, eo12⟩ := Kd.R_slice HO485.out
  subst eo12
  have p486 : 0 ≤ ((ji9) : Int) := dt_
  have q486 : (ji9) < (t483.length : Int) := dt_
  obtain ⟨ad486, e486, hx486_0⟩ := Kd.at_int (Kd.R_reads' HO485.out).2.2 (ji9) p486 q486
  cases e486
  replace p486 := eq_true p486
  replace q486 := eq_true q486
  go_wp2
  go_ret
  exact ⟨by first | rfl | (simp [errW_none, errW_some] <;> rfl) | (simp only [← hji9]; first | rfl | (simp [errW_none, errW_some] <;> rfl)) | (simp [*, errW_none, errW_some] <;> rfl), pb1_ HB.out GE482.out⟩

/-! ### laws_eqBoolS: function 39 -/
def laws_eqBoolS.l0 : Nat → List Bool → List Bool → Int → Option (Bool)
  | 0, _, _, _ => none
  | k + 1, x0, x1, x5 => if x5 < (x0.length : Int) then (if 0 ≤ x5 then (if x5 < (x1.length : Int) then (if rdOf false x0 x5 = true then (if rdOf false x1 x5 = true then (laws_eqBoolS.l0 k x0 x1 (wrap64 (x5 + 1))) else (some false)) else (if rdOf false x1 x5 = true then (some false) else (laws_eqBoolS.l0 k x0 x1 (wrap64 (x5 + 1))))) else (none)) else (none)) else (some true)
def laws_eqBoolS.f (k : Nat) (l0 : List Bool) (l1 : List Bool) : Option (Bool) := if (l0.length : Int) = (l1.length : Int) then (laws_eqBoolS.l0 k l0 l1 0) else (some false)
theorem laws_eqBoolS.mono_l : ∀ k, (∀ y0 y1 y2, LeO (laws_eqBoolS.l0 k y0 y1 y2) (laws_eqBoolS.l0 (k + 1) y0 y1 y2))
  | 0 => fun _ _ _ r h => by simp [laws_eqBoolS.l0] at h
  | k + 1 => by
    have ih0 := laws_eqBoolS.mono_l k
    · intro y0 y1 y2
      unfold laws_eqBoolS.l0
      exact mo1_ ih0
theorem laws_eqBoolS.mono : ∀ a0 a1 k, LeO (laws_eqBoolS.f k a0 a1) (laws_eqBoolS.f (k + 1) a0 a1) := by
  intro a0 a1 k
  have ih0 := laws_eqBoolS.mono_l k
  unfold laws_eqBoolS.f
  exact mo1_ ih0
set_option maxHeartbeats 8000000 in
set_option maxRecDepth 100000 in
theorem laws_eqBoolS.calls (k : Nat) (A0 : Option Addr) (c0 : Nat) (l0 : List Bool) (A1 : Option Addr) (c1 : Nat) (l1 : List Bool) (r : Bool) (w : World) (hr0 : Kd.C Kd.bool w A0 l0.length l0) (hc0 : l0.length ≤ c0) (hr1 : Kd.C Kd.bool w A1 l1.length l1) (hc1 : l1.length ≤ c1) (h : laws_eqBoolS.f k l0 l1 = some r) :
    Calls Try.prog 39 #[.slice A0 l0.length c0, .slice A1 l1.length c1] w fun e w' => e = .returned (.bool r) ∧ Drawn0 w w' := by
  have HR0 := Q_ hr0
  have HC0 := Q_ hc0
  clear hr0 hc0
  have HR1 := Q_ hr1
  have HC1 := Q_ hc1
  clear hr1 hc1
  have H : (if (l0.length : Int) = (l1.length : Int) then (laws_eqBoolS.l0 k l0 l1 0) else (some false)) = some r := h
  clear h
  by_cases c3 : (l0.length : Int) = (l1.length : Int)
  rotate_left
  · rw [if_neg c3] at H
    have c3b0 : ((l0.length : Int) == (l1.length : Int)) = false := beq_eq_false_iff_ne.mpr c3
    have c3b1 : ((l0.length : Int) != (l1.length : Int)) = true := bne_iff_ne.mpr c3
    have c3b2 : (l0.length == l1.length) = false := by first | simpa using c3 | (simp at c3 ⊢; omega)
    obtain rfl := Option.some.inj H
    go_enter Try.func39, Try.ntmps39
    go_wp2
    repeat (go_quiet (fail); try go_wp2)
    go_ret
    exact ⟨by first | rfl | (simp; done) | (simp [*]; done), by repeat (first | exact Drawn0.refl _ | apply Drawn0.step)⟩
  rw [if_pos c3] at H
  have c3b0 : ((l0.length : Int) == (l1.length : Int)) = true := beq_iff_eq.mpr c3
  have c3b1 : ((l0.length : Int) != (l1.length : Int)) = false := bne_eq_false_iff_eq.mpr c3
  have c3b2 : (l0.length == l1.length) = true := by first | simpa using c3 | (simp at c3 ⊢; omega)
  clear c3
  have H' := Q_ H
  clear H
  go_enter Try.func39, Try.ntmps39
  go_wp2
  repeat (go_quiet (fail); try go_wp2)
  go_loopg [5] k (fun kq v5 w' => ∃ (x5_1 : Int), v5 = .int .i64 x5_1 ∧ Aside0 (laws_eqBoolS.l0 kq l0 l1 x5_1 = some r) ∧ Aside0 (kq ≤ k) ∧ Drawn0 w w')
  case atStart => exact ⟨(0), el_, H', ⟨Nat.le_refl _⟩, by repeat (first | exact Drawn0.refl _ | apply Drawn0.step)⟩
  clear H'
  try clear c1
  try clear p2
  try clear c3
  try clear c3b0
  try clear c3b1
  try clear c3b2
  obtain ⟨x5_1, rfl, HA, HK1, ⟨m1, rfl⟩⟩ := hrel
  rcases gk with _ | k1
  · exact absurd HA.out (by simp [laws_eqBoolS.l0])
  have H := HA.out
  clear HA
  simp only [laws_eqBoolS.l0] at H
  by_cases c4 : x5_1 < (l0.length : Int)
  rotate_left
  · rw [if_neg c4] at H
    have c4b0 : decide (x5_1 < (l0.length : Int)) = false := decide_eq_false c4
    clear c4
    obtain rfl := Option.some.inj H
    go_wp2
    repeat (go_quiet (fail); try go_wp2)
    go_ret
    exact ⟨by first | rfl | (simp; done) | (simp [*]; done), by repeat (first | exact Drawn0.refl _ | apply Drawn0.step)⟩
  rw [if_pos c4] at H
  have c4b0 : decide (x5_1 < (l0.length : Int)) = true := decide_eq_true c4
  clear c4
  by_cases c5 : 0 ≤ x5_1
  rotate_left
  · rw [if_neg c5] at H
    exact absurd H (by simp)
  rw [if_pos c5] at H
  have c5b0 : decide (0 ≤ x5_1) = true := decide_eq_true c5
  clear c5
  by_cases c6 : x5_1 < (l1.length : Int)
  rotate_left
  · rw [if_neg c6] at H
    exact absurd H (by simp)
  rw [if_pos c6] at H
  have c6b0 : decide (x5_1 < (l1.length : Int)) = true := decide_eq_true c6
  clear c6
  obtain ⟨bq7, hbq7⟩ : ∃ b_ : Bool, b_ = (rdOf false l0 x5_1) := ⟨_, rfl⟩
  replace H : (if bq7 = true then (if rdOf false l1 x5_1 = true then (laws_eqBoolS.l0 k1 l0 l1 (wrap64 (x5_1 + 1))) else (some false)) else (if rdOf false l1 x5_1 = true then (some false) else (laws_eqBoolS.l0 k1 l0 l1 (wrap64 (x5_1 + 1))))) = some r := by rw [← hbq7] at H; exact H
  have Nbq7 := Q_ hbq7
  clear hbq7
  by_cases c8 : bq7 = true
  rotate_left
  · replace c8 := Bool.eq_false_iff.mpr c8
    subst c8
    rw [if_neg (show ¬ (false = true) by decide)] at H
    obtain ⟨bq9, hbq9⟩ : ∃ b_ : Bool, b_ = (rdOf false l1 x5_1) := ⟨_, rfl⟩
    replace H : (if bq9 = true then (some false) else (laws_eqBoolS.l0 k1 l0 l1 (wrap64 (x5_1 + 1)))) = some r := by rw [← hbq9] at H; exact H
    have Nbq9 := Q_ hbq9
    clear hbq9
    by_cases c10 : bq9 = true
    rotate_left
    · replace c10 := Bool.eq_false_iff.mpr c10
      subst c10
      rw [if_neg (show ¬ (false = true) by decide)] at H
      have H' := Q_ H
      clear H
      have p487 : 0 ≤ (x5_1 : Int) := dt_
      have q487 : x5_1 < (l0.length : Int) := dt_
      obtain ⟨ad487, e487, hx487_0⟩ := Kd.at_bool HR0.out x5_1 p487 q487
      (try rw [← Nbq7.out] at hx487_0)
      (try rw [← Nbq9.out] at hx487_0)
      cases e487
      replace p487 := eq_true p487
      replace q487 := eq_true q487
      have p488 : 0 ≤ (x5_1 : Int) := dt_
      have q488 : x5_1 < (l1.length : Int) := dt_
      obtain ⟨ad488, e488, hx488_0⟩ := Kd.at_bool HR1.out x5_1 p488 q488
      (try rw [← Nbq7.out] at hx488_0)
      (try rw [← Nbq9.out] at hx488_0)
      cases e488
      replace p488 := eq_true p488
      replace q488 := eq_true q488
      go_wp2
      repeat (go_quiet (fail); try go_wp2)
      go_roundg k1
      case measure => have := HK1.out; omega
      case rel => (try rw [← Nbq7.out]); (try rw [← Nbq9.out]); exact ⟨(wrap64 (x5_1 + 1)), el_, H', ⟨by have := HK1.out; omega⟩, by repeat (first | exact Drawn0.refl _ | apply Drawn0.step)⟩
    subst c10
    rw [if_pos rfl] at H
    obtain rfl := Option.some.inj H
    have p487 : 0 ≤ (x5_1 : Int) := dt_
    have q487 : x5_1 < (l0.length : Int) := dt_
    obtain ⟨ad487, e487, hx487_0⟩ := Kd.at_bool HR0.out x5_1 p487 q487
    (try rw [← Nbq7.out] at hx487_0)
    (try rw [← Nbq9.out] at hx487_0)
    cases e487
    replace p487 := eq_true p487
    replace q487 := eq_true q487
    have p488 : 0 ≤ (x5_1 : Int) := dt_
    have q488 : x5_1 < (l1.length : Int) := dt_
    obtain ⟨ad488, e488, hx488_0⟩ := Kd.at_bool HR1.out x5_1 p488 q488
    (try rw [← Nbq7.out] at hx488_0)
    (try rw [← Nbq9.out] at hx488_0)
    cases e488
    replace p488 := eq_true p488
    replace q488 := eq_true q488
    go_wp2
    repeat (go_quiet (fail); try go_wp2)
    go_ret
    exact ⟨by first | rfl | (simp; done) | (simp [*]; done), by repeat (first | exact Drawn0.refl _ | apply Drawn0.step)⟩
  subst c8
  rw [if_pos rfl] at H
  obtain ⟨bq11, hbq11⟩ : ∃ b_ : Bool, b_ = (rdOf false l1 x5_1) := ⟨_, rfl⟩
  replace H : (if bq11 = true then (laws_eqBoolS.l0 k1 l0 l1 (wrap64 (x5_1 + 1))) else (some false)) = some r := by rw [← hbq11] at H; exact H
  have Nbq11 := Q_ hbq11
  clear hbq11
  by_cases c12 : bq11 = true
  rotate_left
  · replace c12 := Bool.eq_false_iff.mpr c12
    subst c12
    rw [if_neg (show ¬ (false = true) by decide)] at H
    obtain rfl := Option.some.inj H
    have p487 : 0 ≤ (x5_1 : Int) := dt_
    have q487 : x5_1 < (l0.length : Int) := dt_
    obtain ⟨ad487, e487, hx487_0⟩ := Kd.at_bool HR0.out x5_1 p487 q487
    (try rw [← Nbq7.out] at hx487_0)
    (try rw [← Nbq11.out] at hx487_0)
    cases e487
    replace p487 := eq_true p487
    replace q487 := eq_true q487
    have p488 : 0 ≤ (x5_1 : Int) := dt_
    have q488 : x5_1 < (l1.length : Int) := dt_
    obtain ⟨ad488, e488, hx488_0⟩ := Kd.at_bool HR1.out x5_1 p488 q488
    (try rw [← Nbq7.out] at hx488_0)
    (try rw [← Nbq11.out] at hx488_0)
    cases e488
    replace p488 := eq_true p488
    replace q488 := eq_true q488
    go_wp2
    repeat (go_quiet (fail); try go_wp2)
    go_ret
    exact ⟨by first | rfl | (simp; done) | (simp [*]; done), by repeat (first | exact Drawn0.refl _ | apply Drawn0.step)⟩
  subst c12
  rw [if_pos rfl] at H
  have H' := Q_ H
  clear H
  have p487 : 0 ≤ (x5_1 : Int) := dt_
  have q487 : x5_1 < (l0.length : Int) := dt_
  obtain ⟨ad487, e487, hx487_0⟩ := Kd.at_bool HR0.out x5_1 p487 q487
  (try rw [← Nbq7.out] at hx487_0)
  (try rw [← Nbq11.out] at hx487_0)
  cases e487
  replace p487 := eq_true p487
  replace q487 := eq_true q487
  have p488 : 0 ≤ (x5_1 : Int) := dt_
  have q488 : x5_1 < (l1.length : Int) := dt_
  obtain ⟨ad488, e488, hx488_0⟩ := Kd.at_bool HR1.out x5_1 p488 q488
  (try rw [← Nbq7.out] at hx488_0)
  (try rw [← Nbq11.out] at hx488_0)
  cases e488
  replace p488 := eq_true p488
  replace q488 := eq_true q488
  go_wp2
  repeat (go_quiet (fail); try go_wp2)
  go_roundg k1
  case measure => have := HK1.out; omega
  case rel => (try rw [← Nbq7.out]); (try rw [← Nbq11.out]); exact ⟨(wrap64 (x5_1 + 1)), el_, H', ⟨by have := HK1.out; omega⟩, by repeat (first | exact Drawn0.refl _ | apply Drawn0.step)⟩

/-! ### laws_eqMove: function 58 -/
def laws_eqMove.f (a0_0 : Int) (a0_1 : Bool) (a0_2 : Int) (a0_3 : Int) (a1_0 : Int) (a1_1 : Bool) (a1_2 : Int) (a1_3 : Int) : Option (Bool) := if a0_0 = a1_0 then (if a0_1 = true then (if a1_1 = true then (if a0_2 = a1_2 then (if a0_3 = a1_3 then (some true) else (some false)) else (some false)) else (some false)) else (if a1_1 = true then (some false) else (if a0_2 = a1_2 then (if a0_3 = a1_3 then (some true) else (some false)) else (some false)))) else (some false)
set_option maxHeartbeats 8000000 in
set_option maxRecDepth 100000 in
theorem laws_eqMove.calls (a0_0 : Int) (a0_1 : Bool) (a0_2 : Int) (a0_3 : Int) (a1_0 : Int) (a1_1 : Bool) (a1_2 : Int) (a1_3 : Int) (r : Bool) (w : World) (h : laws_eqMove.f a0_0 a0_1 a0_2 a0_3 a1_0 a1_1 a1_2 a1_3 = some r) :
    Calls Try.prog 58 #[.agg #[.int .i64 a0_0, .bool a0_1, .int .i64 a0_2, .int .i64 a0_3], .agg #[.int .i64 a1_0, .bool a1_1, .int .i64 a1_2, .int .i64 a1_3]] w fun e w' => e = .returned (.bool r) ∧ Below w.heap.size w w' := by
  have hu78 := Try.underlying78
  have HB := Q_ (Below.refl w.heap.size w)
  have H : (if a0_0 = a1_0 then (if a0_1 = true then (if a1_1 = true then (if a0_2 = a1_2 then (if a0_3 = a1_3 then (some true) else (some false)) else (some false)) else (some false)) else (if a1_1 = true then (some false) else (if a0_2 = a1_2 then (if a0_3 = a1_3 then (some true) else (some false)) else (some false)))) else (some false)) = some r := h
  clear h
  have HS_ := Q_ H
  clear H
  go_enter Try.func58, Try.ntmps58
  go_upto_region 1 with (first | ((with_reducible refine gate_dst (N := 2) rfl ?_); refine box_event ?hg (N := 2) ?hd (cs := #[.int .i64 a0_0, .bool a0_1, .int .i64 a0_2, .int .i64 a0_3]) (t := 78) ?hr ?_; (case hd => rfl); (case hg => rfl); (case hr => first | (go_simp; done) | (go_simp; rfl)); intro gb489 hg w3 hbox hb; have n0_ := Q_ (below_step (pb_ HB.out) hb); have n1_ := Q_ (hbox); have n2_ := Q_ ((by rw [hg]; exact (below_size (pb_ HB.out)) : w.heap.size ≤ gb489)); have n3_ := n2_; clear HB; have HB := n0_; have BK489 := n1_; have GW489 := n2_; have GE489 := n3_; clear n0_ n1_ n2_ n3_; clear hb hbox hg) | ((with_reducible refine gate_dst (N := 3) rfl ?_); refine box_event ?hg (N := 3) ?hd (cs := #[.int .i64 a1_0, .bool a1_1, .int .i64 a1_2, .int .i64 a1_3]) (t := 78) ?hr ?_; (case hd => rfl); (case hg => rfl); (case hr => first | (go_simp; done) | (go_simp; rfl)); intro gb490 hg w4 hbox hb; have n0_ := Q_ (bb_ BK489.out hb); have n1_ := Q_ (below_step (pb1_ HB.out GE489.out) hb); have n2_ := Q_ (hbox); have n3_ := Q_ ((by rw [hg]; exact (below_size (pb1_ HB.out GE489.out)) : w.heap.size ≤ gb490)); have n4_ := n3_; have n5_ := Q_ ((by rw [hg]; exact Nat.ne_of_lt (blk_lt (pk_ BK489.out)) : gb489 ≠ gb490)); have n6_ := Q_ ((by rw [hg]; exact Nat.ne_of_gt (blk_lt (pk_ BK489.out)) : gb490 ≠ gb489)); clear BK489; clear HB; have BK489 := n0_; have HB := n1_; have BK490 := n2_; have GW490 := n3_; have GE490 := n4_; have NB489_490 := n5_; have NB490_489 := n6_; clear n0_ n1_ n2_ n3_ n4_ n5_ n6_; clear hb hbox hg))
  (try simp only [Act.put, List.setIfInBounds_toArray, List.set_cons_zero, List.set_cons_succ])
  have H := HS_.out
  clear HS_
  by_cases c5 : a0_0 = a1_0
  rotate_left
  · rw [if_neg c5] at H
    have c5b0 : (a0_0 == a1_0) = false := beq_eq_false_iff_ne.mpr c5
    have c5b1 : (a0_0 != a1_0) = true := bne_iff_ne.mpr c5
    (first | rw [c5b0] | (simp only [i64_w, i32_w]; rw [c5b0]) | rw [c5b1] | (have c_ := c5b1; rw [bne] at c_; rw [c_]; clear c_) | skip)
    obtain rfl := Option.some.inj H
    have hnb6 := NB489_490.out
    have hnc6 := NB490_489.out
    have hcz7 := bc4_ BK489.out
    have hcz8 := bc4_ BK490.out
    go_wp2
    go_ret
    exact ⟨er_, pb2_ HB.out GE489.out GE490.out⟩
  rw [if_pos c5] at H
  have c5b0 : (a0_0 == a1_0) = true := beq_iff_eq.mpr c5
  have c5b1 : (a0_0 != a1_0) = false := bne_eq_false_iff_eq.mpr c5
  clear c5
  (first | rw [c5b0] | (simp only [i64_w, i32_w]; rw [c5b0]) | rw [c5b1] | (have c_ := c5b1; rw [bne] at c_; rw [c_]; clear c_) | skip)
  by_cases c9 : a0_1 = true
  rotate_left
  · replace c9 := Bool.eq_false_iff.mpr c9
    subst c9
    rw [if_neg (show ¬ (false = true) by decide)] at H
    by_cases c10 : a1_1 = true
    · subst c10
      rw [if_pos rfl] at H
      obtain rfl := Option.some.inj H
      have hnb11 := NB489_490.out
      have hnc11 := NB490_489.out
      have hcz12 := bc4_ BK489.out
      have hcz13 := bc4_ BK490.out
      go_wp2
      go_ret
      exact ⟨er_, pb2_ HB.out GE489.out GE490.out⟩
    replace c10 := Bool.eq_false_iff.mpr c10
    subst c10
    rw [if_neg (show ¬ (false = true) by decide)] at H
    by_cases c14 : a0_2 = a1_2
    rotate_left
    · rw [if_neg c14] at H
      have c14b0 : (a0_2 == a1_2) = false := beq_eq_false_iff_ne.mpr c14
      have c14b1 : (a0_2 != a1_2) = true := bne_iff_ne.mpr c14
      obtain rfl := Option.some.inj H
      have hnb15 := NB489_490.out
      have hnc15 := NB490_489.out
      have hcz16 := bc4_ BK489.out
      have hcz17 := bc4_ BK490.out
      go_wp2
      go_ret
      exact ⟨er_, pb2_ HB.out GE489.out GE490.out⟩
    rw [if_pos c14] at H
    have c14b0 : (a0_2 == a1_2) = true := beq_iff_eq.mpr c14
    have c14b1 : (a0_2 != a1_2) = false := bne_eq_false_iff_eq.mpr c14
    clear c14
    by_cases c18 : a0_3 = a1_3
    rotate_left
    · rw [if_neg c18] at H
      have c18b0 : (a0_3 == a1_3) = false := beq_eq_false_iff_ne.mpr c18
      have c18b1 : (a0_3 != a1_3) = true := bne_iff_ne.mpr c18
      obtain rfl := Option.some.inj H
      have hnb19 := NB489_490.out
      have hnc19 := NB490_489.out
      have hcz20 := bc4_ BK489.out
      have hcz21 := bc4_ BK490.out
      go_wp2
      go_ret
      exact ⟨er_, pb2_ HB.out GE489.out GE490.out⟩
    rw [if_pos c18] at H
    have c18b0 : (a0_3 == a1_3) = true := beq_iff_eq.mpr c18
    have c18b1 : (a0_3 != a1_3) = false := bne_eq_false_iff_eq.mpr c18
    clear c18
    obtain rfl := Option.some.inj H
    have hnb22 := NB489_490.out
    have hnc22 := NB490_489.out
    have hcz23 := bc4_ BK489.out
    have hcz24 := bc4_ BK490.out
    go_wp2
    go_ret
    exact ⟨er_, pb2_ HB.out GE489.out GE490.out⟩
  subst c9
  rw [if_pos rfl] at H
  by_cases c25 : a1_1 = true
  rotate_left
  · replace c25 := Bool.eq_false_iff.mpr c25
    subst c25
    rw [if_neg (show ¬ (false = true) by decide)] at H
    obtain rfl := Option.some.inj H
    have hnb26 := NB489_490.out
    have hnc26 := NB490_489.out
    have hcz27 := bc4_ BK489.out
    have hcz28 := bc4_ BK490.out
    go_wp2
    go_ret
    exact ⟨er_, pb2_ HB.out GE489.out GE490.out⟩
  subst c25
  rw [if_pos rfl] at H
  by_cases c29 : a0_2 = a1_2
  rotate_left
  · rw [if_neg c29] at H
    have c29b0 : (a0_2 == a1_2) = false := beq_eq_false_iff_ne.mpr c29
    have c29b1 : (a0_2 != a1_2) = true := bne_iff_ne.mpr c29
    obtain rfl := Option.some.inj H
    have hnb30 := NB489_490.out
    have hnc30 := NB490_489.out
    have hcz31 := bc4_ BK489.out
    have hcz32 := bc4_ BK490.out
    go_wp2
    go_ret
    exact ⟨er_, pb2_ HB.out GE489.out GE490.out⟩
  rw [if_pos c29] at H
  have c29b0 : (a0_2 == a1_2) = true := beq_iff_eq.mpr c29
  have c29b1 : (a0_2 != a1_2) = false := bne_eq_false_iff_eq.mpr c29
  clear c29
  by_cases c33 : a0_3 = a1_3
  rotate_left
  · rw [if_neg c33] at H
    have c33b0 : (a0_3 == a1_3) = false := beq_eq_false_iff_ne.mpr c33
    have c33b1 : (a0_3 != a1_3) = true := bne_iff_ne.mpr c33
    obtain rfl := Option.some.inj H
    have hnb34 := NB489_490.out
    have hnc34 := NB490_489.out
    have hcz35 := bc4_ BK489.out
    have hcz36 := bc4_ BK490.out
    go_wp2
    go_ret
    exact ⟨er_, pb2_ HB.out GE489.out GE490.out⟩
  rw [if_pos c33] at H
  have c33b0 : (a0_3 == a1_3) = true := beq_iff_eq.mpr c33
  have c33b1 : (a0_3 != a1_3) = false := bne_eq_false_iff_eq.mpr c33
  clear c33
  obtain rfl := Option.some.inj H
  have hnb37 := NB489_490.out
  have hnc37 := NB490_489.out
  have hcz38 := bc4_ BK489.out
  have hcz39 := bc4_ BK490.out
  go_wp2
  go_ret
  exact ⟨er_, pb2_ HB.out GE489.out GE490.out⟩

/-! ### laws_eqMoveS: function 40 -/
def laws_eqMoveS.l0 : Nat → List (S78) → List (S78) → Int → Option (Bool)
  | 0, _, _, _ => none
  | k + 1, x0, x1, x5 => if x5 < (x0.length : Int) then (if 0 ≤ x5 then (if x5 < (x1.length : Int) then ((laws_eqMove.f ((rd_T78 x0 x5).f0) ((rd_T78 x0 x5).f1) ((rd_T78 x0 x5).f2) ((rd_T78 x0 x5).f3) ((rd_T78 x1 x5).f0) ((rd_T78 x1 x5).f1) ((rd_T78 x1 x5).f2) ((rd_T78 x1 x5).f3)).bind fun t493 => (if t493 = true then (laws_eqMoveS.l0 k x0 x1 (wrap64 (x5 + 1))) else (some false))) else (none)) else (none)) else (some true)
def laws_eqMoveS.f (k : Nat) (l0 : List (S78)) (l1 : List (S78)) : Option (Bool) := if (l0.length : Int) = (l1.length : Int) then (laws_eqMoveS.l0 k l0 l1 0) else (some false)
theorem laws_eqMoveS.mono_l : ∀ k, (∀ y0 y1 y2, LeO (laws_eqMoveS.l0 k y0 y1 y2) (laws_eqMoveS.l0 (k + 1) y0 y1 y2))
  | 0 => fun _ _ _ r h => by simp [laws_eqMoveS.l0] at h
  | k + 1 => by
    have ih0 := laws_eqMoveS.mono_l k
    · intro y0 y1 y2
      unfold laws_eqMoveS.l0
      exact mo1_ ih0
theorem laws_eqMoveS.mono : ∀ a0 a1 k, LeO (laws_eqMoveS.f k a0 a1) (laws_eqMoveS.f (k + 1) a0 a1) := by
  intro a0 a1 k
  have ih0 := laws_eqMoveS.mono_l k
  unfold laws_eqMoveS.f
  exact mo1_ ih0
def laws_eqMoveS.T6 : Bool × List (List Nat × List Nat) := (true, [([], []), ([], []), ([0, 1], [0, 1]), ([2], [2]), ([], []), ([], []), ([4, 5], [4, 5]), ([6], [6]), ([3, 7], [3, 7]), ([8], [8])])
def laws_eqMoveS.B6 : List Nat := [0, 0, 3, 7, 0, 0, 48, 112, 255, 511]
theorem laws_eqMoveS.tab6 : rtab .any (opsOf Try.f40 6) = laws_eqMoveS.T6 := by kernel_rfl
theorem laws_eqMoveS.bits6 : waitsOk laws_eqMoveS.T6.2 laws_eqMoveS.B6 = true := by kernel_rfl
set_option maxHeartbeats 8000000 in
set_option maxRecDepth 100000 in
theorem laws_eqMoveS.calls (k : Nat) (A0 : Option Addr) (c0 : Nat) (l0 : List (S78)) (A1 : Option Addr) (c1 : Nat) (l1 : List (S78)) (r : Bool) (w : World) (hr0 : Kd.C k78 w A0 l0.length l0) (hc0 : l0.length ≤ c0) (hr1 : Kd.C k78 w A1 l1.length l1) (hc1 : l1.length ≤ c1) (h : laws_eqMoveS.f k l0 l1 = some r) :
    Calls Try.prog 40 #[.slice A0 l0.length c0, .slice A1 l1.length c1] w fun e w' => e = .returned (.bool r) ∧ Below w.heap.size w w' := by
  have hu78 := Try.underlying78
  have HR0 := Q_ hr0
  have HC0 := Q_ hc0
  clear hr0 hc0
  have HR1 := Q_ hr1
  have HC1 := Q_ hc1
  clear hr1 hc1
  have HB := Q_ (Below.refl w.heap.size w)
  have H : (if (l0.length : Int) = (l1.length : Int) then (laws_eqMoveS.l0 k l0 l1 0) else (some false)) = some r := h
  clear h
  by_cases c3 : (l0.length : Int) = (l1.length : Int)
  rotate_left
  · rw [if_neg c3] at H
    have c3b0 : ((l0.length : Int) == (l1.length : Int)) = false := beq_eq_false_iff_ne.mpr c3
    have c3b1 : ((l0.length : Int) != (l1.length : Int)) = true := bne_iff_ne.mpr c3
    have c3b2 : (l0.length == l1.length) = false := by first | simpa using c3 | (simp at c3 ⊢; omega)
    obtain rfl := Option.some.inj H
    go_enter Try.func40, Try.ntmps40
    go_wp2
    go_ret
    exact ⟨er_, pb_ HB.out⟩
  rw [if_pos c3] at H
  have c3b0 : ((l0.length : Int) == (l1.length : Int)) = true := beq_iff_eq.mpr c3
  have c3b1 : ((l0.length : Int) != (l1.length : Int)) = false := bne_eq_false_iff_eq.mpr c3
  have c3b2 : (l0.length == l1.length) = true := by first | simpa using c3 | (simp at c3 ⊢; omega)
  clear c3
  have H' := Q_ H
  clear H
  go_enter Try.func40, Try.ntmps40
  go_wp2
  go_loopg [5] k (fun kq v5 w' => ∃ (x5_1 : Int), v5 = .int .i64 x5_1 ∧ Aside0 (laws_eqMoveS.l0 kq l0 l1 x5_1 = some r) ∧ Aside0 (kq ≤ k) ∧ Aside0 (Below w.heap.size w w'))
  case atStart => exact ⟨(0), el_, H', ⟨Nat.le_refl _⟩, ⟨pb_ HB.out⟩⟩
  clear H'
  try clear c1
  try clear p2
  try clear c3
  try clear c3b0
  try clear c3b1
  try clear c3b2
  obtain ⟨x5_1, rfl, HA, HK1, HB⟩ := hrel
  rcases gk with _ | k1
  · exact absurd HA.out (by simp [laws_eqMoveS.l0])
  have H := HA.out
  clear HA
  simp only [laws_eqMoveS.l0] at H
  by_cases c4 : x5_1 < (l0.length : Int)
  rotate_left
  · rw [if_neg c4] at H
    have c4b0 : decide (x5_1 < (l0.length : Int)) = false := decide_eq_false c4
    clear c4
    obtain rfl := Option.some.inj H
    go_wp2
    go_ret
    exact ⟨er_, pb_ HB.out⟩
  rw [if_pos c4] at H
  have c4b0 : decide (x5_1 < (l0.length : Int)) = true := decide_eq_true c4
  clear c4
  by_cases c5 : 0 ≤ x5_1
  rotate_left
  · rw [if_neg c5] at H
    exact absurd H (by simp)
  rw [if_pos c5] at H
  have c5b0 : decide (0 ≤ x5_1) = true := decide_eq_true c5
  clear c5
  by_cases c6 : x5_1 < (l1.length : Int)
  rotate_left
  · rw [if_neg c6] at H
    exact absurd H (by simp)
  rw [if_pos c6] at H
  have c6b0 : decide (x5_1 < (l1.length : Int)) = true := decide_eq_true c6
  clear c6
  replace H := Option.bind_eq_some_iff.mp H
  obtain ⟨t493, A70, H⟩ := H
  (try dsimp only at H)
  have A7 := Q_ A70
  clear A70
  have HS_ := Q_ H
  clear H
  try go_wp2
  have _ := Q_ (below_drew1 HB.out)
  clear HB
  rename_i HB
  have p491 : 0 ≤ (x5_1 : Int) := dt_
  have q491 : x5_1 < (l0.length : Int) := dt_
  obtain ⟨ad491, e491, hx491_0, hx491_1, hx491_2, hx491_3⟩ := at_T78 HR0.out x5_1 p491 q491
  have hw491_3 := hx491_3
  have hw491_2 := hx491_2
  have hw491_1 := hx491_1
  have hw491_0 := hx491_0
  cases e491
  replace hx491_0 := bt_ HB hx491_0
  replace hx491_1 := bt_ HB hx491_1
  replace hx491_2 := bt_ HB hx491_2
  replace hx491_3 := bt_ HB hx491_3
  replace p491 := eq_true p491
  replace q491 := eq_true q491
  have p492 : 0 ≤ (x5_1 : Int) := dt_
  have q492 : x5_1 < (l1.length : Int) := dt_
  obtain ⟨ad492, e492, hx492_0, hx492_1, hx492_2, hx492_3⟩ := at_T78 HR1.out x5_1 p492 q492
  have hw492_3 := hx492_3
  have hw492_2 := hx492_2
  have hw492_1 := hx492_1
  have hw492_0 := hx492_0
  cases e492
  replace hx492_0 := bt_ HB hx492_0
  replace hx492_1 := bt_ HB hx492_1
  replace hx492_2 := bt_ HB hx492_2
  replace hx492_3 := bt_ HB hx492_3
  replace p492 := eq_true p492
  replace q492 := eq_true q492
  refine start_ (n := 10) (S := fun w' => w'.cell? (ad491.add ((x5_1).toNat * 4)) = some (.int .i64 ((rd_T78 l0 x5_1).f0)) ∧ w'.cell? ⟨(ad491.add ((x5_1).toNat * 4)).block, (ad491.add ((x5_1).toNat * 4)).off + 1, none⟩ = some (.bool ((rd_T78 l0 x5_1).f1)) ∧ w'.cell? ⟨(ad491.add ((x5_1).toNat * 4)).block, (ad491.add ((x5_1).toNat * 4)).off + 2, none⟩ = some (.int .i64 ((rd_T78 l0 x5_1).f2)) ∧ w'.cell? ⟨(ad491.add ((x5_1).toNat * 4)).block, (ad491.add ((x5_1).toNat * 4)).off + 3, none⟩ = some (.int .i64 ((rd_T78 l0 x5_1).f3)) ∧ w'.cell? (ad492.add ((x5_1).toNat * 4)) = some (.int .i64 ((rd_T78 l1 x5_1).f0)) ∧ w'.cell? ⟨(ad492.add ((x5_1).toNat * 4)).block, (ad492.add ((x5_1).toNat * 4)).off + 1, none⟩ = some (.bool ((rd_T78 l1 x5_1).f1)) ∧ w'.cell? ⟨(ad492.add ((x5_1).toNat * 4)).block, (ad492.add ((x5_1).toNat * 4)).off + 2, none⟩ = some (.int .i64 ((rd_T78 l1 x5_1).f2)) ∧ w'.cell? ⟨(ad492.add ((x5_1).toNat * 4)).block, (ad492.add ((x5_1).toNat * 4)).off + 3, none⟩ = some (.int .i64 ((rd_T78 l1 x5_1).f3))) (ds := []) (tf_ 0 10) (by kernel_rfl) rfl rfl ⟨(bt_ HB hw491_0), (bt_ HB hw491_1), (bt_ HB hw491_2), (bt_ HB hw491_3), (bt_ HB hw492_0), (bt_ HB hw492_1), (bt_ HB hw492_2), (bt_ HB hw492_3)⟩ (fun hHeld => ?_); refine with_tabW laws_eqMoveS.tab6 laws_eqMoveS.bits6 (fun HT_ HW_ => ?_)
  generalize wr.drew = w8 at HB hx491_0 hx491_1 hx491_2 hx491_3 hx492_0 hx492_1 hx492_2 hx492_3 hHeld ⊢
  refine pu_ 0 (some 17) (tf_ 1 10) HT_ ?_
  refine pu_ 1 (some 18) (tf_ 2 10) HT_ ?_
  refine pu_ 2 (some 19) (tf_ 3 10) HT_ ?_
  refine pu_ 4 (some 21) (tm_ 10 23) HT_ ?_
  refine pu_ 5 (some 22) (tm_ 10 55) HT_ ?_
  refine pu_ 6 (some 23) (tm_ 10 119) HT_ ?_
  refine ta_ 3 (some 20) (tf_ 7 10) HT_ HW_ hHeld ?_
  refine ta_ 7 (some 24) (tf_ 8 10) HT_ HW_ hHeld ?_
  refine on_ 8 (some 25) (tf_ 9 10) HT_ (fun K hK => ?_)
  refine goes_ Try.func58 (by kernel_rfl) rfl #[.agg #[.int .i64 ((rd_T78 l0 x5_1).f0), .bool ((rd_T78 l0 x5_1).f1), .int .i64 ((rd_T78 l0 x5_1).f2), .int .i64 ((rd_T78 l0 x5_1).f3)], .agg #[.int .i64 ((rd_T78 l1 x5_1).f0), .bool ((rd_T78 l1 x5_1).f1), .int .i64 ((rd_T78 l1 x5_1).f2), .int .i64 ((rd_T78 l1 x5_1).f3)]] (by rfl) rfl rfl mp_ ?_
  with_reducible refine (laws_eqMove.calls ((rd_T78 l0 x5_1).f0) ((rd_T78 l0 x5_1).f1) ((rd_T78 l0 x5_1).f2) ((rd_T78 l0 x5_1).f3) ((rd_T78 l1 x5_1).f0) ((rd_T78 l1 x5_1).f1) ((rd_T78 l1 x5_1).f2) ((rd_T78 l1 x5_1).f3) t493 _ A7.out).mono ?_
  rintro e w9 ⟨rfl, hb⟩
  refine ⟨_, rfl, ?_⟩
  have _ := Q_ (below_step (pb_ HB.out) hb)
  clear HB
  rename_i HB
  (try clear hb)
  (try clear hb2)
  (try clear hk)
  (try clear hi)
  refine hK.out _ _ ⟨(bt_ HB hw491_0), (bt_ HB hw491_1), (bt_ HB hw491_2), (bt_ HB hw491_3), (bt_ HB hw492_0), (bt_ HB hw492_1), (bt_ HB hw492_2), (bt_ HB hw492_3)⟩ (fun hHeld => ?_)
  clear hK K
  refine no_ (some 25) ?_
  refine pu_ 9 (some 26) (tf_ 10 10) HT_ ?_
  refine done_ (done_of HT_.out (by kernel_rfl)) ?_
  go_upto_if 26 with (fail)
  have H := HS_.out
  clear HS_
  by_cases c10 : t493 = true
  rotate_left
  · replace c10 := Bool.eq_false_iff.mpr c10
    subst c10
    rw [if_neg (show ¬ (false = true) by decide)] at H
    obtain rfl := Option.some.inj H
    go_wp2
    go_ret
    exact ⟨er_, pb_ HB.out⟩
  subst c10
  rw [if_pos rfl] at H
  have H' := Q_ H
  clear H
  go_wp2
  go_roundg k1
  case measure => have := HK1.out; omega
  case rel => exact ⟨(wrap64 (x5_1 + 1)), el_, H', ⟨by have := HK1.out; omega⟩, ⟨pb_ HB.out⟩⟩

end Go.Proofs.Ytldcchjbaglppaa.Print
