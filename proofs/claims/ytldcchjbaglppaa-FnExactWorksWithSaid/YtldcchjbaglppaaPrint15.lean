-- Written by a program of this session (printx.py) out of the translation; Lean checks it.
import Derived.Test.YtldcchjbaglppaaPrint0
import Derived.Test.YtldcchjbaglppaaPrint14
namespace Go.Proofs.Ytldcchjbaglppaa.Print
open Go.RowKit Go.Proofs.YtldcchjbaglppaaW.PrintWords Go.Proofs.YtldcchjbaglppaaW.PrintLast Go.Proofs.YtldcchjbaglppaaW.PrintMore Go.Proofs.Ytldcchjbaglppaa.Short
attribute [local go_sem] max2_int min2_int max_two min_two max_three min_three max_four min_four   -- for this text's walks alone
set_option linter.unusedVariables false
set_option linter.unusedSimpArgs false

/-! ### impl_WorksWith: function 18 -/
def impl_WorksWith.l0 : Nat → List Int → List (S34) → Int → Int → Int → List Bool → List (S78) → Option (List Int)
  | 0, _, _, _, _, _, _, _ => none
  | k + 1, x5, x9, x10, x11, x482000, x482001, x482002 => if x11 < x10 then (if 0 ≤ x11 then (if x11 < (x9.length : Int) then ((impl_IsSafe.f k ((rd_T34 x9 x11).f0) ((rd_T34 x9 x11).f1) ((rd_T34 x9 x11).f2) x482000 x482001 x482002).bind fun t487 => (if t487 = true then (if x5.length < 17592186044416 then (impl_WorksWith.l0 k (x5 ++ [x11]) x9 x10 (wrap64 (x11 + 1)) x482000 x482001 x482002) else (none)) else (impl_WorksWith.l0 k x5 x9 x10 (wrap64 (x11 + 1)) x482000 x482001 x482002))) else (none)) else (none)) else (some x5)
def impl_WorksWith.f (k : Nat) (l0 : List (S34)) (a1_0 : Int) (l1_1 : List Bool) (l1_2 : List (S78)) : Option (List Int) := impl_WorksWith.l0 k (([] : List Int)) l0 (l0.length : Int) 0 a1_0 l1_1 l1_2
theorem impl_WorksWith.mono_l : ∀ k, (∀ y0 y1 y2 y3 y4 y5 y6, LeO (impl_WorksWith.l0 k y0 y1 y2 y3 y4 y5 y6) (impl_WorksWith.l0 (k + 1) y0 y1 y2 y3 y4 y5 y6))
  | 0 => fun _ _ _ _ _ _ _ r h => by simp [impl_WorksWith.l0] at h
  | k + 1 => by
    have ih0 := impl_WorksWith.mono_l k
    · intro y0 y1 y2 y3 y4 y5 y6
      unfold impl_WorksWith.l0
      exact mo2_ ih0 impl_IsSafe.mono
theorem impl_WorksWith.mono : ∀ a0 a1 a2 a3 k, LeO (impl_WorksWith.f k a0 a1 a2 a3) (impl_WorksWith.f (k + 1) a0 a1 a2 a3) := by
  intro a0 a1 a2 a3 k
  have ih0 := impl_WorksWith.mono_l k
  unfold impl_WorksWith.f
  exact mo2_ ih0 impl_IsSafe.mono
set_option maxHeartbeats 8000000 in
set_option maxRecDepth 100000 in
theorem impl_WorksWith.calls (k : Nat) (A0 : Option Addr) (c0 : Nat) (l0 : List (S34)) (a1_0 : Int) (A1_1 : Option Addr) (c1_1 : Nat) (l1_1 : List Bool) (A1_2 : Option Addr) (c1_2 : Nat) (l1_2 : List (S78)) (r : List Int) (w : World) (hr0 : Kd.C k34 w A0 l0.length l0) (hc0 : l0.length ≤ c0) (hr1_1 : Kd.C Kd.bool w A1_1 l1_1.length l1_1) (hc1_1 : l1_1.length ≤ c1_1) (hr1_2 : Kd.C k78 w A1_2 l1_2.length l1_2) (hc1_2 : l1_2.length ≤ c1_2) (h : impl_WorksWith.f k l0 a1_0 l1_1 l1_2 = some r) :
    Calls Try.prog 18 #[.slice A0 l0.length c0, .agg #[.int .i64 a1_0, .slice A1_1 l1_1.length c1_1, .slice A1_2 l1_2.length c1_2]] w fun e w' => ∃ v0_ : Value, e = .returned (v0_) ∧ Kd.R (Kd.int .i64) 3 w' w.heap.size (fun _ => True) v0_ r ∧ Below w.heap.size w w' := by
  have hu34 := Try.underlying34
  have HR0 := Q_ hr0
  have HC0 := Q_ hc0
  clear hr0 hc0
  have HR1_1 := Q_ hr1_1
  have HC1_1 := Q_ hc1_1
  clear hr1_1 hc1_1
  have HR1_2 := Q_ hr1_2
  have HC1_2 := Q_ hc1_2
  clear hr1_2 hc1_2
  have HB := Q_ (Below.refl w.heap.size w)
  have H : (impl_WorksWith.l0 k (([] : List Int)) l0 (l0.length : Int) 0 a1_0 l1_1 l1_2) = some r := h
  clear h
  obtain ⟨y482, hy482⟩ : ∃ y_ : List Int, y_ = (([] : List Int)) := ⟨_, rfl⟩
  replace H : (impl_WorksWith.l0 k y482 l0 (l0.length : Int) 0 a1_0 l1_1 l1_2) = some r := by first | (rw [hy482]; with_reducible exact H) | (have H2_ := (Option.bind_some _ _).symm.trans H; rw [hy482]; with_reducible exact H2_) | (have H2_ := (Option.bind_some _ _).symm.trans H; with_reducible exact H2_) | with_reducible exact H | (rw [hy482]; exact H) | exact H
  have Ny482 := Q_ hy482
  clear hy482
  have H' := Q_ H
  clear H
  go_enter Try.func18, Try.ntmps18
  go_wp2_with (first | ((with_reducible refine gate_dst (N := 3) rfl ?_); refine box_event ?hg (N := 3) ?hd (cs := #[.int .i64 a1_0, .slice A1_1 l1_1.length c1_1, .slice A1_2 l1_2.length c1_2]) (t := 34) ?hr ?_; (case hd => rfl); (case hg => rfl); (case hr => first | (go_simp; done) | (go_simp; rfl)); intro gb481 hg w3 hbox hb; have n0_ := Q_ (below_step (pb_ HB.out) hb); have n1_ := Q_ (hbox); have n2_ := Q_ ((by rw [hg]; exact (below_size (pb_ HB.out)) : w.heap.size ≤ gb481)); have n3_ := n2_; clear HB; have HB := n0_; have BK481 := n1_; have GW481 := n2_; have GE481 := n3_; clear n0_ n1_ n2_ n3_; clear hb hbox hg) | ((with_reducible refine gate_dst (N := 8) rfl ?_); refine Kd.R_lit (Kd.int .i64) _ 3 ?hg (N := 8) ?hd (xs := ([] : List Int)) (inner := []) (ok := fun _ => True) (okp := fun _ => True) ?hr ?hp (fun _ hk => hk) trivial (Below.refl _ _) (Nat.le_refl _) (by simp) ?_; (case hd => rfl); (case hg => rfl); (case hr => first | (go_simp; done) | (go_simp; rfl)); (case hp => exact (Reps.none _ _)); intro v483 w4 ho5 hb hg_ hnew_; clear hg_ hnew_; (first | rw [← Ny482.out] at ho5 | (simp only [Int.reduceToNat] at ho5; rw [← Ny482.out] at ho5)); have _ := Q_ (Kd.R_lower ho5 (below_size (pb1_ HB.out GE481.out))); have _ := Q_ (bb_ BK481.out hb); have _ := Q_ (below_step (pb1_ HB.out GE481.out) hb); clear BK481 HB; rename_i HO484 BK481 HB; clear hb ho5))
  (try simp only [Act.put, List.setIfInBounds_toArray, List.set_cons_zero, List.set_cons_succ])
  go_loopg [5, 11] k (fun kq v5 v11 w' => ∃ (x5_1 : List Int) (x11_1 : Int), v11 = .int .i64 x11_1 ∧ Aside0 (impl_WorksWith.l0 kq x5_1 l0 (l0.length : Int) x11_1 a1_0 l1_1 l1_2 = some r) ∧ Aside0 (kq ≤ k) ∧ Aside0 (Kd.R (Kd.int .i64) 3 w' w.heap.size (fun _ => True) v5 x5_1) ∧ Aside0 (w'.heap[gb481]? = some (.cells #[.int .i64 a1_0, (.slice A1_1 l1_1.length c1_1), (.slice A1_2 l1_2.length c1_2)] 34 (0, 0))) ∧ Aside0 (Below w.heap.size w w'))
  case atStart => exact ⟨(y482), (0), el_, H', ⟨Nat.le_refl _⟩, ⟨pr_ HO484.out⟩, ⟨pk_ BK481.out⟩, ⟨pb1_ HB.out GE481.out⟩⟩
  clear H'
  try clear c1
  try clear p2
  obtain ⟨x5_1, x11_1, rfl, HA, HK1, HO_5, BK481, HB⟩ := hrel
  rcases gk with _ | k1
  · exact absurd HA.out (by simp [impl_WorksWith.l0])
  have H := HA.out
  clear HA
  simp only [impl_WorksWith.l0] at H
  by_cases c6 : x11_1 < (l0.length : Int)
  rotate_left
  · rw [if_neg c6] at H
    have c6b0 : decide (x11_1 < (l0.length : Int)) = false := decide_eq_false c6
    clear c6
    obtain rfl := Option.some.inj H
    go_wp2
    go_ret
    exact ⟨_, er_, pr_ HO_5.out, pb1_ HB.out GE481.out⟩
  rw [if_pos c6] at H
  have c6b0 : decide (x11_1 < (l0.length : Int)) = true := decide_eq_true c6
  clear c6
  by_cases c7 : 0 ≤ x11_1
  rotate_left
  · rw [if_neg c7] at H
    exact absurd H (by simp)
  rw [if_pos c7] at H
  have c7b0 : decide (0 ≤ x11_1) = true := decide_eq_true c7
  clear c7
  by_cases c8 : x11_1 < (l0.length : Int)
  rotate_left
  · rw [if_neg c8] at H
    exact absurd H (by simp)
  rw [if_pos c8] at H
  have c8b0 : decide (x11_1 < (l0.length : Int)) = true := decide_eq_true c8
  clear c8
  have HS_ := Q_ H
  clear H
  have p485 : 0 ≤ (x11_1 : Int) := dt_
  have q485 : x11_1 < (l0.length : Int) := dt_
  obtain ⟨ad485, A485_1, c485_1, A485_2, c485_2, e485, hx485_0, hx485_1, hx485_2, hl485_1, hi485_1, hl485_2, hi485_2⟩ := at_T34 HR0.out x11_1 p485 q485
  cases e485
  replace hx485_0 := bt_ HB hx485_0
  replace hx485_1 := bt_ HB hx485_1
  replace hx485_2 := bt_ HB hx485_2
  have HR485_1 := Q_ hi485_1
  have HC485_1 := Q_ hl485_1
  clear hi485_1 hl485_1
  have HR485_2 := Q_ hi485_2
  have HC485_2 := Q_ hl485_2
  clear hi485_2 hl485_2
  replace p485 := eq_true p485
  replace q485 := eq_true q485
  go_upto_region 5 with (first | ((with_reducible refine gate_dst (N := 7) rfl ?_); refine box_event ?hg (N := 7) ?hd (cs := #[.int .i64 0, .slice none 0 0, .slice none 0 0]) (t := 34) ?hr ?_; (case hd => rfl); (case hg => rfl); (case hr => first | (go_simp; done) | (go_simp; rfl)); intro gb486 hg w9 hbox hb; have n0_ := Q_ (Kd.R_below (pr_ HO_5.out) hb); have n1_ := Q_ (bb_ BK481.out hb); have n2_ := Q_ (below_step (pb1_ HB.out GE481.out) hb); have n3_ := Q_ (hbox); have n4_ := Q_ ((by rw [hg]; exact (below_size (pb1_ HB.out GE481.out)) : w.heap.size ≤ gb486)); have n5_ := n4_; have n6_ := Q_ ((by rw [hg]; exact Nat.ne_of_lt (blk_lt (pk_ BK481.out)) : gb481 ≠ gb486)); have n7_ := Q_ ((by rw [hg]; exact Nat.ne_of_gt (blk_lt (pk_ BK481.out)) : gb486 ≠ gb481)); clear HO_5; clear BK481; clear HB; have HO_5 := n0_; have BK481 := n1_; have HB := n2_; have BK486 := n3_; have GW486 := n4_; have GE486 := n5_; have NB481_486 := n6_; have NB486_481 := n7_; clear n0_ n1_ n2_ n3_ n4_ n5_ n6_ n7_; clear hb hbox hg; have hnb10 := NB486_481.out; have hnc10 := NB481_486.out; have hcz11 := bc3_ BK486.out))
  (try simp only [Act.put, List.setIfInBounds_toArray, List.set_cons_zero, List.set_cons_succ])
  have H := HS_.out
  clear HS_
  replace H := Option.bind_eq_some_iff.mp H
  obtain ⟨t487, A120, H⟩ := H
  (try dsimp only at H)
  have A12 := Q_ A120
  clear A120
  have HS_ := Q_ H
  clear H
  have hnb13 := NB486_481.out
  have hnc13 := NB481_486.out
  have hcz14 := bc3_ BK486.out
  have hcz15 := bc3_ BK481.out
  go_upto_if 18 with (first | ((with_reducible refine gate_callee (f := 42) rfl ?_); refine gl_ (some 18) Try.func42 #[.agg #[.int .i64 ((rd_T34 l0 x11_1).f0), .slice A485_1 ((rd_T34 l0 x11_1).f1).length c485_1, .slice A485_2 ((rd_T34 l0 x11_1).f2).length c485_2], .agg #[.int .i64 a1_0, .slice A1_1 l1_1.length c1_1, .slice A1_2 l1_2.length c1_2]] ?_; (with_reducible refine (impl_IsSafe.calls k1 ((rd_T34 l0 x11_1).f0) _ _ ((rd_T34 l0 x11_1).f1) _ _ ((rd_T34 l0 x11_1).f2) a1_0 _ _ l1_1 _ _ l1_2 t487 _ ?side1 ?side2 ?side3 ?side4 ?side5 ?side6 ?side7 ?side8 A12.out).mono ?_); (case side1 => exact Kd.C_below HR485_1.out (pb2_ HB.out GE481.out GE486.out)); (case side2 => exact HC485_1.out); (case side3 => exact Kd.C_below HR485_2.out (pb2_ HB.out GE481.out GE486.out)); (case side4 => exact HC485_2.out); (case side5 => exact Kd.C_below HR1_1.out (pb2_ HB.out GE481.out GE486.out)); (case side6 => exact HC1_1.out); (case side7 => exact Kd.C_below HR1_2.out (pb2_ HB.out GE481.out GE486.out)); (case side8 => exact HC1_2.out); rintro e w16 ⟨rfl, hb⟩; refine ⟨_, rfl, ?_⟩; have _ := Q_ (Kd.R_below (pr_ (rf3_ HO_5.out BK486.out)) hb); have _ := Q_ (blk_below (g := gb481) (o := .cells #[.int .i64 a1_0, .slice A1_1 l1_1.length c1_1, .slice A1_2 l1_2.length c1_2] 34 (0, 0)) (pp_ BK481.out) hb); have _ := Q_ (blk_below (g := gb486) (o := .cells #[.int .i64 ((rd_T34 l0 x11_1).f0), .slice A485_1 ((rd_T34 l0 x11_1).f1).length c485_1, .slice A485_2 ((rd_T34 l0 x11_1).f2).length c485_2] 34 (0, 0)) (pp_ BK486.out) hb); have _ := Q_ (below_step (pb2_ HB.out GE481.out GE486.out) hb); clear HO_5 BK481 BK486 HB; rename_i HO_5 BK481 BK486 HB; (try clear hb); (try clear hb2); (try clear hk); (try clear hi)))
  (try simp only [Act.put, List.setIfInBounds_toArray, List.set_cons_zero, List.set_cons_succ])
  have H := HS_.out
  clear HS_
  by_cases c17 : t487 = true
  rotate_left
  · replace c17 := Bool.eq_false_iff.mpr c17
    subst c17
    rw [if_neg (show ¬ (false = true) by decide)] at H
    have H' := Q_ H
    clear H
    go_wp2
    go_roundg k1
    case measure => have := HK1.out; omega
    case rel => exact ⟨(x5_1), (wrap64 (x11_1 + 1)), el_, H', ⟨by have := HK1.out; omega⟩, ⟨pr_ HO_5.out⟩, ⟨pk_ BK481.out⟩, ⟨pb2_ HB.out GE481.out GE486.out⟩⟩
  subst c17
  rw [if_pos rfl] at H
  by_cases c18 : x5_1.length < 17592186044416
  rotate_left
  · rw [if_neg c18] at H
    exact absurd H (by simp)
  rw [if_pos c18] at H
  have LMc18 := Q_ c18
  clear c18
  obtain ⟨y488, hy488⟩ : ∃ y_ : List Int, y_ = (x5_1 ++ [x11_1]) := ⟨_, rfl⟩
  replace H : (impl_WorksWith.l0 k1 y488 l0 (l0.length : Int) (wrap64 (x11_1 + 1)) a1_0 l1_1 l1_2) = some r := by first | (rw [hy488]; with_reducible exact H) | (have H2_ := (Option.bind_some _ _).symm.trans H; rw [hy488]; with_reducible exact H2_) | (have H2_ := (Option.bind_some _ _).symm.trans H; with_reducible exact H2_) | with_reducible exact H | (rw [hy488]; exact H) | exact H
  have Ny488 := Q_ hy488
  clear hy488
  have H' := Q_ H
  clear H
  go_wp2_with (first | ((with_reducible refine gate_builtin (b := .append) (xs := #[.tmp 19, .tmp 21]) rfl ?_); at_builtin; refine Kd.R_append (Kd.int .i64) (w0 := w) w.heap.size rfl (.tmp 19) (.tmp 21) 39 3 (.int .i64 0) 8 rfl Try.underlying39 info3 rfl (by decide) (by omega) u5 x5_1 x11_1 [.int .i64 x11_1] (fun _ => True) (fun _ => False) rfl rfl ?aP (fun _ hk => hk.elim) ?aF ?aO ?aB ?aS ?aL ?_; (case aP => exact rfl); (case aB => exact (pb2_ HB.out GE481.out GE486.out)); (case aF => exact (fun _ _ => trivial)); (case aO => exact (pr_ HO_5.out)); (case aS => exact (below_size (pb2_ HB.out GE481.out GE486.out))); (case aL => have := LMc18.out; omega); intro v489 w19 ho hb hg hat; rw [← Ny488.out] at ho; have _ := Q_ (blk_grown (g := gb481) (o := .cells #[.int .i64 a1_0, .slice A1_1 l1_1.length c1_1, .slice A1_2 l1_2.length c1_2] 34 (0, 0)) (pk_ BK481.out) hg (Kd.R_ne HO_5.out BK481.out (by decide))); have _ := Q_ (blk_grown (g := gb486) (o := .cells #[.int .i64 ((rd_T34 l0 x11_1).f0), .slice A485_1 ((rd_T34 l0 x11_1).f1).length c485_1, .slice A485_2 ((rd_T34 l0 x11_1).f2).length c485_2] 34 (0, 0)) (pk_ BK486.out) hg (Kd.R_ne HO_5.out BK486.out (by decide))); have _ := Q_ (hb); have _ := Q_ (ho); clear BK481 BK486 HB HO_5; rename_i BK481 BK486 HB HO490; clear ho hb hg hat))
  go_roundg k1
  case measure => have := HK1.out; omega
  case rel => exact ⟨(y488), (wrap64 (x11_1 + 1)), el_, H', ⟨by have := HK1.out; omega⟩, ⟨pr_ HO490.out⟩, ⟨pk_ BK481.out⟩, ⟨pb2_ HB.out GE481.out GE486.out⟩⟩

/-! ### laws_eqIntS: function 19 -/
def laws_eqIntS.l0 : Nat → List Int → List Int → Int → Option (Bool)
  | 0, _, _, _ => none
  | k + 1, x0, x1, x5 => if x5 < (x0.length : Int) then (if 0 ≤ x5 then (if x5 < (x1.length : Int) then (if (rd x0 x5) = (rd x1 x5) then (laws_eqIntS.l0 k x0 x1 (wrap64 (x5 + 1))) else (some false)) else (none)) else (none)) else (some true)
def laws_eqIntS.f (k : Nat) (l0 : List Int) (l1 : List Int) : Option (Bool) := if (l0.length : Int) = (l1.length : Int) then (laws_eqIntS.l0 k l0 l1 0) else (some false)
theorem laws_eqIntS.mono_l : ∀ k, (∀ y0 y1 y2, LeO (laws_eqIntS.l0 k y0 y1 y2) (laws_eqIntS.l0 (k + 1) y0 y1 y2))
  | 0 => fun _ _ _ r h => by simp [laws_eqIntS.l0] at h
  | k + 1 => by
    have ih0 := laws_eqIntS.mono_l k
    · intro y0 y1 y2
      unfold laws_eqIntS.l0
      exact mo1_ ih0
theorem laws_eqIntS.mono : ∀ a0 a1 k, LeO (laws_eqIntS.f k a0 a1) (laws_eqIntS.f (k + 1) a0 a1) := by
  intro a0 a1 k
  have ih0 := laws_eqIntS.mono_l k
  unfold laws_eqIntS.f
  exact mo1_ ih0
set_option maxHeartbeats 8000000 in
set_option maxRecDepth 100000 in
theorem laws_eqIntS.calls (k : Nat) (A0 : Option Addr) (c0 : Nat) (l0 : List Int) (A1 : Option Addr) (c1 : Nat) (l1 : List Int) (r : Bool) (w : World) (hr0 : Kd.C (Kd.int .i64) w A0 l0.length l0) (hc0 : l0.length ≤ c0) (hr1 : Kd.C (Kd.int .i64) w A1 l1.length l1) (hc1 : l1.length ≤ c1) (h : laws_eqIntS.f k l0 l1 = some r) :
    Calls Try.prog 19 #[.slice A0 l0.length c0, .slice A1 l1.length c1] w fun e w' => e = .returned (.bool r) ∧ Drawn0 w w' := by
  have HR0 := Q_ hr0
  have HC0 := Q_ hc0
  clear hr0 hc0
  have HR1 := Q_ hr1
  have HC1 := Q_ hc1
  clear hr1 hc1
  have H : (if (l0.length : Int) = (l1.length : Int) then (laws_eqIntS.l0 k l0 l1 0) else (some false)) = some r := h
  clear h
  by_cases c3 : (l0.length : Int) = (l1.length : Int)
  rotate_left
  · rw [if_neg c3] at H
    have c3b0 : ((l0.length : Int) == (l1.length : Int)) = false := beq_eq_false_iff_ne.mpr c3
    have c3b1 : ((l0.length : Int) != (l1.length : Int)) = true := bne_iff_ne.mpr c3
    have c3b2 : (l0.length == l1.length) = false := by first | simpa using c3 | (simp at c3 ⊢; omega)
    obtain rfl := Option.some.inj H
    go_enter Try.func19, Try.ntmps19
    go_wp2
    repeat (go_quiet (fail); try go_wp2)
    go_ret
    exact ⟨by first | rfl | (simp; done) | (simp [*]; done), by repeat (first | exact Drawn0.refl _ | apply Drawn0.step)⟩
  rw [if_pos c3] at H
  have c3b0 : ((l0.length : Int) == (l1.length : Int)) = true := beq_iff_eq.mpr c3
  have c3b1 : ((l0.length : Int) != (l1.length : Int)) = false := bne_eq_false_iff_eq.mpr c3
  have c3b2 : (l0.length == l1.length) = true := by first | simpa using c3 | (simp at c3 ⊢; omega)
  clear c3
  have H' := Q_ H
  clear H
  go_enter Try.func19, Try.ntmps19
  go_wp2
  repeat (go_quiet (fail); try go_wp2)
  go_loopg [5] k (fun kq v5 w' => ∃ (x5_1 : Int), v5 = .int .i64 x5_1 ∧ Aside0 (laws_eqIntS.l0 kq l0 l1 x5_1 = some r) ∧ Aside0 (kq ≤ k) ∧ Drawn0 w w')
  case atStart => exact ⟨(0), el_, H', ⟨Nat.le_refl _⟩, by repeat (first | exact Drawn0.refl _ | apply Drawn0.step)⟩
  clear H'
  try clear c1
  try clear p2
  try clear c3
  try clear c3b0
  try clear c3b1
  try clear c3b2
  obtain ⟨x5_1, rfl, HA, HK1, ⟨m1, rfl⟩⟩ := hrel
  rcases gk with _ | k1
  · exact absurd HA.out (by simp [laws_eqIntS.l0])
  have H := HA.out
  clear HA
  simp only [laws_eqIntS.l0] at H
  by_cases c4 : x5_1 < (l0.length : Int)
  rotate_left
  · rw [if_neg c4] at H
    have c4b0 : decide (x5_1 < (l0.length : Int)) = false := decide_eq_false c4
    clear c4
    obtain rfl := Option.some.inj H
    go_wp2
    repeat (go_quiet (fail); try go_wp2)
    go_ret
    exact ⟨by first | rfl | (simp; done) | (simp [*]; done), by repeat (first | exact Drawn0.refl _ | apply Drawn0.step)⟩
  rw [if_pos c4] at H
  have c4b0 : decide (x5_1 < (l0.length : Int)) = true := decide_eq_true c4
  clear c4
  by_cases c5 : 0 ≤ x5_1
  rotate_left
  · rw [if_neg c5] at H
    exact absurd H (by simp)
  rw [if_pos c5] at H
  have c5b0 : decide (0 ≤ x5_1) = true := decide_eq_true c5
  clear c5
  by_cases c6 : x5_1 < (l1.length : Int)
  rotate_left
  · rw [if_neg c6] at H
    exact absurd H (by simp)
  rw [if_pos c6] at H
  have c6b0 : decide (x5_1 < (l1.length : Int)) = true := decide_eq_true c6
  clear c6
  by_cases c7 : (rd l0 x5_1) = (rd l1 x5_1)
  rotate_left
  · rw [if_neg c7] at H
    have c7b0 : ((rd l0 x5_1) == (rd l1 x5_1)) = false := beq_eq_false_iff_ne.mpr c7
    have c7b1 : ((rd l0 x5_1) != (rd l1 x5_1)) = true := bne_iff_ne.mpr c7
    obtain rfl := Option.some.inj H
    have p491 : 0 ≤ (x5_1 : Int) := dt_
    have q491 : x5_1 < (l0.length : Int) := dt_
    obtain ⟨ad491, e491, hx491_0⟩ := Kd.at_int HR0.out x5_1 p491 q491
    cases e491
    replace p491 := eq_true p491
    replace q491 := eq_true q491
    have p492 : 0 ≤ (x5_1 : Int) := dt_
    have q492 : x5_1 < (l1.length : Int) := dt_
    obtain ⟨ad492, e492, hx492_0⟩ := Kd.at_int HR1.out x5_1 p492 q492
    cases e492
    replace p492 := eq_true p492
    replace q492 := eq_true q492
    go_wp2
    repeat (go_quiet (fail); try go_wp2)
    go_ret
    exact ⟨by first | rfl | (simp; done) | (simp [*]; done), by repeat (first | exact Drawn0.refl _ | apply Drawn0.step)⟩
  rw [if_pos c7] at H
  have c7b0 : ((rd l0 x5_1) == (rd l1 x5_1)) = true := beq_iff_eq.mpr c7
  have c7b1 : ((rd l0 x5_1) != (rd l1 x5_1)) = false := bne_eq_false_iff_eq.mpr c7
  clear c7
  have H' := Q_ H
  clear H
  have p491 : 0 ≤ (x5_1 : Int) := dt_
  have q491 : x5_1 < (l0.length : Int) := dt_
  obtain ⟨ad491, e491, hx491_0⟩ := Kd.at_int HR0.out x5_1 p491 q491
  cases e491
  replace p491 := eq_true p491
  replace q491 := eq_true q491
  have p492 : 0 ≤ (x5_1 : Int) := dt_
  have q492 : x5_1 < (l1.length : Int) := dt_
  obtain ⟨ad492, e492, hx492_0⟩ := Kd.at_int HR1.out x5_1 p492 q492
  cases e492
  replace p492 := eq_true p492
  replace q492 := eq_true q492
  go_wp2
  repeat (go_quiet (fail); try go_wp2)
  go_roundg k1
  case measure => have := HK1.out; omega
  case rel => exact ⟨(wrap64 (x5_1 + 1)), el_, H', ⟨by have := HK1.out; omega⟩, by repeat (first | exact Drawn0.refl _ | apply Drawn0.step)⟩

/-! ### laws_markBoolS: function 43 -/
def laws_markBoolS.l0 : Nat → List Bool → Int → Int → Option (Int × List Bool)
  | 0, _, _, _ => none
  | k + 1, x0, x1, x5 => if x5 < (x0.length : Int) then (if 0 ≤ x5 then (laws_markBoolS.l0 k (x0.set (x5 : Int).toNat ((Int.tmod x1 3) == 0)) (wrap64 (x1 + 1)) (wrap64 (x5 + 1))) else (none)) else (some (x1, x0))
def laws_markBoolS.f (k : Nat) (l0 : List Bool) (a1 : Int) : Option (Int × List Bool) := laws_markBoolS.l0 k l0 a1 0
theorem laws_markBoolS.mono_l : ∀ k, (∀ y0 y1 y2, LeO (laws_markBoolS.l0 k y0 y1 y2) (laws_markBoolS.l0 (k + 1) y0 y1 y2))
  | 0 => fun _ _ _ r h => by simp [laws_markBoolS.l0] at h
  | k + 1 => by
    have ih0 := laws_markBoolS.mono_l k
    · intro y0 y1 y2
      unfold laws_markBoolS.l0
      exact mo1_ ih0
theorem laws_markBoolS.mono : ∀ a0 a1 k, LeO (laws_markBoolS.f k a0 a1) (laws_markBoolS.f (k + 1) a0 a1) := by
  intro a0 a1 k
  have ih0 := laws_markBoolS.mono_l k
  unfold laws_markBoolS.f
  exact mo1_ ih0
set_option maxHeartbeats 8000000 in
set_option maxRecDepth 100000 in
theorem laws_markBoolS.calls (k : Nat) (P0_ : Nat → Prop) (u9000_ : Value) (l0 : List Bool) (a1 : Int) (r1 : Int) (r2 : List Bool) (w0 w : World) (hB : Below w0.heap.size w0 w) (ho0 : Kd.R Kd.bool 4 w w0.heap.size P0_ u9000_ l0) (h : laws_markBoolS.f k l0 a1 = some (r1, r2)) :
    Calls Try.prog 43 #[u9000_, .int .i64 a1] w fun e w' => e = .returned (.int .i64 r1) ∧ Kd.R Kd.bool 4 w' w0.heap.size (fun k_ => (P0_ k_ ∨ w.heap.size ≤ k_)) u9000_ r2 ∧ Below w0.heap.size w0 w' ∧ Kept w w' (fun k_ => P0_ k_) := by
  have HO0 := Q_ (show Kd.R Kd.bool 4 w w0.heap.size (fun k_ => (P0_ k_ ∨ w.heap.size ≤ k_)) u9000_ l0 from Kd.R_mono ho0 (fun k_ hk => (.inl hk)))
  have HK := Q_ (Kept.refl w (fun k_ => P0_ k_))
  have HW0 := Q_ hB.size
  have HB := Q_ hB
  clear hB
  have H : (laws_markBoolS.l0 k l0 a1 0) = some (r1, r2) := h
  clear h
  have H' := Q_ H
  clear H
  go_enter Try.func43, Try.ntmps43
  go_wp2
  go_loopg [1, 5] k (fun kq v1 v5 w' => ∃ (x0_1 : List Bool) (x1_1 : Int) (x5_1 : Int), v1 = .int .i64 x1_1 ∧ v5 = .int .i64 x5_1 ∧ Aside0 (laws_markBoolS.l0 kq x0_1 x1_1 x5_1 = some (r1, r2)) ∧ Aside0 (kq ≤ k) ∧ Aside0 (Kd.R Kd.bool 4 w' w0.heap.size (fun k_ => (P0_ k_ ∨ w.heap.size ≤ k_)) u9000_ x0_1) ∧ Aside0 (Kept w w' (fun k_ => P0_ k_)) ∧ Aside0 (Below w0.heap.size w0 w'))
  case atStart => exact ⟨(l0), (a1), (0), el_, el_, H', ⟨Nat.le_refl _⟩, ⟨pr_ HO0.out⟩, ⟨by repeat (first | (with_reducible first | exact HK.out | apply Kept.alloc | apply Kept.drewN | apply Kept.drew) | exact HK.out)⟩, ⟨pb_ HB.out⟩⟩
  clear H'
  try clear p2
  obtain ⟨x0_1, x1_1, x5_1, rfl, rfl, HA, HK1, HO_0, HK, HB⟩ := hrel
  rcases gk with _ | k1
  · exact absurd HA.out (by simp [laws_markBoolS.l0])
  have H := HA.out
  clear HA
  simp only [laws_markBoolS.l0] at H
  by_cases c3 : x5_1 < (x0_1.length : Int)
  rotate_left
  · rw [if_neg c3] at H
    have c3b0 : decide (x5_1 < (x0_1.length : Int)) = false := decide_eq_false c3
    clear c3
    simp only [Option.some.injEq, Prod.mk.injEq] at H
    obtain ⟨rfl, rfl⟩ := H
    obtain ⟨Ao4, co4, eo4⟩ := Kd.R_slice HO_0.out
    subst eo4
    go_wp2
    go_ret
    exact ⟨er_, pr_ HO_0.out, pb_ HB.out, by repeat (first | (with_reducible first | exact HK.out | apply Kept.alloc | apply Kept.drewN | apply Kept.drew) | exact HK.out)⟩
  rw [if_pos c3] at H
  have c3b0 : decide (x5_1 < (x0_1.length : Int)) = true := decide_eq_true c3
  clear c3
  by_cases c5 : 0 ≤ x5_1
  rotate_left
  · rw [if_neg c5] at H
    exact absurd H (by simp)
  rw [if_pos c5] at H
  have c5b0 : decide (0 ≤ x5_1) = true := decide_eq_true c5
  clear c5
  obtain ⟨y493, hy493⟩ : ∃ y_ : List Bool, y_ = (x0_1.set (x5_1 : Int).toNat ((Int.tmod x1_1 3) == 0)) := ⟨_, rfl⟩
  replace H : (laws_markBoolS.l0 k1 y493 (wrap64 (x1_1 + 1)) (wrap64 (x5_1 + 1))) = some (r1, r2) := by first | (rw [hy493]; with_reducible exact H) | (have H2_ := (Option.bind_some _ _).symm.trans H; rw [hy493]; with_reducible exact H2_) | (have H2_ := (Option.bind_some _ _).symm.trans H; with_reducible exact H2_) | with_reducible exact H | (rw [hy493]; exact H) | exact H
  have Ny493 := Q_ hy493
  clear hy493
  have H' := Q_ H
  clear H
  obtain ⟨Ao7, co7, eo7⟩ := Kd.R_slice HO_0.out
  subst eo7
  have p6 : 0 ≤ (x5_1 : Int) := dt_
  have q6 : (x5_1 : Int) < ((x0_1.length : Int) : Int) := dt_
  obtain ⟨go6, co6, eo6, gb6, gl6, cl6, HG6⟩ := Kd.R_form HO_0.out (by omega)
  (first | cases eo6 | (injection eo6 with ea_ en_ ec_; (first | subst ea_ | (injection ea_ with ea_; subst ea_)); subst ec_; clear en_))
  have GB6 := Q_ gb6
  have GG6 := Q_ HG6
  clear gb6 gl6 HG6
  have HMgo6 := Q_ (show (P0_ go6 ∨ w.heap.size ≤ go6) from (HO_0.out.1 _ rfl))
  obtain ⟨hx6_0, hf6_0⟩ := Kd.R_celln false HO_0.out (x5_1 : Int) p6 q6
  replace p6 := eq_true p6
  replace q6 := eq_true q6
  have HP8 := Kd.R_putg HO_0.out (x5_1 : Int) ((Int.tmod x1_1 3) == 0)
  go_wp2_with (first | ((with_reducible refine gate_store (t := 4) (p := 17) rfl ?_); refine store_event (t := 4) (p := 17) (v := ?vo_w9) (w1 := (wr.setCell ⟨go6, (x5_1 : Int).toNat, none⟩ (.bool ((Int.tmod x1_1 3) == 0)))) ?hg ?ho ?hn ?hr ?_; (case ho => rfl); (case hg => rfl); (case hn => rfl); (case hr => first | (go_simp; done) | (go_simp; rfl)); intro w9 hw; have hg : wr.grownBy w9 (some go6) := (by rw [hw]; exact HP8.2); have hp_ : Kd.R Kd.bool 4 w9 w0.heap.size (fun k_ => (P0_ k_ ∨ w.heap.size ≤ k_)) (.slice (some ⟨go6, 0, none⟩) x0_1.length co7) y493 := (by rw [hw, Ny493.out]; exact HP8.1); clear HP8; have n0_ := Q_ (hp_); have n1_ := Q_ ((by rw [hw]; exact below_set (HB.out) GB6.out : Below w0.heap.size w0 w9)); have n2_ := Q_ (Kept.of_grown (S := (fun k_ => P0_ k_)) hg (by repeat (first | (with_reducible first | exact HK.out | apply Kept.alloc | apply Kept.drewN | apply Kept.drew) | exact HK.out)) (fun k_ e_ => (HO_0.out.1 k_ e_))); clear HO_0; clear HB; clear HK; have HO_0 := n0_; have HB := n1_; have HK := n2_; clear n0_ n1_ n2_; clear hg hw hp_))
  go_roundg k1
  case measure => have := HK1.out; omega
  case rel => exact ⟨(y493), (wrap64 (x1_1 + 1)), (wrap64 (x5_1 + 1)), el_, el_, H', ⟨by have := HK1.out; omega⟩, ⟨pr_ HO_0.out⟩, ⟨by repeat (first | (with_reducible first | exact HK.out | apply Kept.alloc | apply Kept.drewN | apply Kept.drew) | exact HK.out)⟩, ⟨pb_ HB.out⟩⟩

/-! ### laws_markMoveS: function 44 -/
def laws_markMoveS.l0 : Nat → List (S78) → Int → Int → Option (Int × (List (S78)))
  | 0, _, _, _ => none
  | k + 1, x0, x1, x5 => if x5 < (x0.length : Int) then (if 0 ≤ x5 then ((some (x0.set (x5 : Int).toNat (⟨x1, (rd_T78 x0 x5).f1, (rd_T78 x0 x5).f2, (rd_T78 x0 x5).f3⟩ : S78) : List (S78))).bind fun y494 => ((some (y494.set (x5 : Int).toNat (⟨(rd_T78 y494 x5).f0, ((Int.tmod (wrap64 (x1 + 1)) 3) == 0), (rd_T78 y494 x5).f2, (rd_T78 y494 x5).f3⟩ : S78) : List (S78))).bind fun y495 => ((some (y495.set (x5 : Int).toNat (⟨(rd_T78 y495 x5).f0, (rd_T78 y495 x5).f1, wrap64 ((wrap64 (x1 + 1)) + 1), (rd_T78 y495 x5).f3⟩ : S78) : List (S78))).bind fun y496 => (laws_markMoveS.l0 k (y496.set (x5 : Int).toNat (⟨(rd_T78 y496 x5).f0, (rd_T78 y496 x5).f1, (rd_T78 y496 x5).f2, wrap64 ((wrap64 ((wrap64 (x1 + 1)) + 1)) + 1)⟩ : S78)) (wrap64 ((wrap64 ((wrap64 ((wrap64 (x1 + 1)) + 1)) + 1)) + 1)) (wrap64 (x5 + 1)))))) else (none)) else (some (x1, x0))
def laws_markMoveS.f (k : Nat) (l0 : List (S78)) (a1 : Int) : Option (Int × (List (S78))) := laws_markMoveS.l0 k l0 a1 0
theorem laws_markMoveS.mono_l : ∀ k, (∀ y0 y1 y2, LeO (laws_markMoveS.l0 k y0 y1 y2) (laws_markMoveS.l0 (k + 1) y0 y1 y2))
  | 0 => fun _ _ _ r h => by simp [laws_markMoveS.l0] at h
  | k + 1 => by
    have ih0 := laws_markMoveS.mono_l k
    · intro y0 y1 y2
      unfold laws_markMoveS.l0
      exact mo1_ ih0
theorem laws_markMoveS.mono : ∀ a0 a1 k, LeO (laws_markMoveS.f k a0 a1) (laws_markMoveS.f (k + 1) a0 a1) := by
  intro a0 a1 k
  have ih0 := laws_markMoveS.mono_l k
  unfold laws_markMoveS.f
  exact mo1_ ih0
set_option maxHeartbeats 8000000 in
set_option maxRecDepth 100000 in
theorem laws_markMoveS.calls (k : Nat) (P0_ : Nat → Prop) (u9000_ : Value) (l0 : List (S78)) (a1 : Int) (r1 : Int) (r2 : List (S78)) (w0 w : World) (hB : Below w0.heap.size w0 w) (ho0 : Kd.R k78 78 w w0.heap.size P0_ u9000_ l0) (h : laws_markMoveS.f k l0 a1 = some (r1, r2)) :
    Calls Try.prog 44 #[u9000_, .int .i64 a1] w fun e w' => e = .returned (.int .i64 r1) ∧ Kd.R k78 78 w' w0.heap.size (fun k_ => (P0_ k_ ∨ w.heap.size ≤ k_)) u9000_ r2 ∧ Below w0.heap.size w0 w' ∧ Kept w w' (fun k_ => P0_ k_) := by
  have HO0 := Q_ (show Kd.R k78 78 w w0.heap.size (fun k_ => (P0_ k_ ∨ w.heap.size ≤ k_)) u9000_ l0 from Kd.R_mono ho0 (fun k_ hk => (.inl hk)))
  have HK := Q_ (Kept.refl w (fun k_ => P0_ k_))
  have HW0 := Q_ hB.size
  have HB := Q_ hB
  clear hB
  have H : (laws_markMoveS.l0 k l0 a1 0) = some (r1, r2) := h
  clear h
  have H' := Q_ H
  clear H
  go_enter Try.func44, Try.ntmps44
  go_wp2
  go_loopg [1, 5] k (fun kq v1 v5 w' => ∃ (x0_1 : List (S78)) (x1_1 : Int) (x5_1 : Int), v1 = .int .i64 x1_1 ∧ v5 = .int .i64 x5_1 ∧ Aside0 (laws_markMoveS.l0 kq x0_1 x1_1 x5_1 = some (r1, r2)) ∧ Aside0 (kq ≤ k) ∧ Aside0 (Kd.R k78 78 w' w0.heap.size (fun k_ => (P0_ k_ ∨ w.heap.size ≤ k_)) u9000_ x0_1) ∧ Aside0 (Kept w w' (fun k_ => P0_ k_)) ∧ Aside0 (Below w0.heap.size w0 w'))
  case atStart => exact ⟨(l0), (a1), (0), el_, el_, H', ⟨Nat.le_refl _⟩, ⟨pr_ HO0.out⟩, ⟨by repeat (first | (with_reducible first | exact HK.out | apply Kept.alloc | apply Kept.drewN | apply Kept.drew) | exact HK.out)⟩, ⟨pb_ HB.out⟩⟩
  clear H'
  try clear p2
  obtain ⟨x0_1, x1_1, x5_1, rfl, rfl, HA, HK1, HO_0, HK, HB⟩ := hrel
  rcases gk with _ | k1
  · exact absurd HA.out (by simp [laws_markMoveS.l0])
  have H := HA.out
  clear HA
  simp only [laws_markMoveS.l0] at H
  by_cases c3 : x5_1 < (x0_1.length : Int)
  rotate_left
  · rw [if_neg c3] at H
    have c3b0 : decide (x5_1 < (x0_1.length : Int)) = false := decide_eq_false c3
    clear c3
    simp only [Option.some.injEq, Prod.mk.injEq] at H
    obtain ⟨rfl, rfl⟩ := H
    obtain ⟨Ao4, co4, eo4⟩ := Kd.R_slice HO_0.out
    subst eo4
    go_wp2
    go_ret
    exact ⟨er_, pr_ HO_0.out, pb_ HB.out, by repeat (first | (with_reducible first | exact HK.out | apply Kept.alloc | apply Kept.drewN | apply Kept.drew) | exact HK.out)⟩
  rw [if_pos c3] at H
  have c3b0 : decide (x5_1 < (x0_1.length : Int)) = true := decide_eq_true c3
  clear c3
  by_cases c5 : 0 ≤ x5_1
  rotate_left
  · rw [if_neg c5] at H
    exact absurd H (by simp)
  rw [if_pos c5] at H
  have c5b0 : decide (0 ≤ x5_1) = true := decide_eq_true c5
  clear c5
  obtain ⟨y494, hy494⟩ : ∃ y_ : List (S78), y_ = (x0_1.set (x5_1 : Int).toNat (⟨x1_1, (rd_T78 x0_1 x5_1).f1, (rd_T78 x0_1 x5_1).f2, (rd_T78 x0_1 x5_1).f3⟩ : S78)) := ⟨_, rfl⟩
  replace H : ((some (y494.set (x5_1 : Int).toNat (⟨(rd_T78 y494 x5_1).f0, ((Int.tmod (wrap64 (x1_1 + 1)) 3) == 0), (rd_T78 y494 x5_1).f2, (rd_T78 y494 x5_1).f3⟩ : S78) : List (S78))).bind fun y495 => ((some (y495.set (x5_1 : Int).toNat (⟨(rd_T78 y495 x5_1).f0, (rd_T78 y495 x5_1).f1, wrap64 ((wrap64 (x1_1 + 1)) + 1), (rd_T78 y495 x5_1).f3⟩ : S78) : List (S78))).bind fun y496 => (laws_markMoveS.l0 k1 (y496.set (x5_1 : Int).toNat (⟨(rd_T78 y496 x5_1).f0, (rd_T78 y496 x5_1).f1, (rd_T78 y496 x5_1).f2, wrap64 ((wrap64 ((wrap64 (x1_1 + 1)) + 1)) + 1)⟩ : S78)) (wrap64 ((wrap64 ((wrap64 ((wrap64 (x1_1 + 1)) + 1)) + 1)) + 1)) (wrap64 (x5_1 + 1))))) = some (r1, r2) := by first | (rw [hy494]; with_reducible exact H) | (have H2_ := (Option.bind_some _ _).symm.trans H; rw [hy494]; with_reducible exact H2_) | (have H2_ := (Option.bind_some _ _).symm.trans H; with_reducible exact H2_) | with_reducible exact H | (rw [hy494]; exact H) | exact H
  have Ny494 := Q_ hy494
  clear hy494
  obtain ⟨y495, hy495⟩ : ∃ y_ : List (S78), y_ = (y494.set (x5_1 : Int).toNat (⟨(rd_T78 y494 x5_1).f0, ((Int.tmod (wrap64 (x1_1 + 1)) 3) == 0), (rd_T78 y494 x5_1).f2, (rd_T78 y494 x5_1).f3⟩ : S78)) := ⟨_, rfl⟩
  replace H : ((some (y495.set (x5_1 : Int).toNat (⟨(rd_T78 y495 x5_1).f0, (rd_T78 y495 x5_1).f1, wrap64 ((wrap64 (x1_1 + 1)) + 1), (rd_T78 y495 x5_1).f3⟩ : S78) : List (S78))).bind fun y496 => (laws_markMoveS.l0 k1 (y496.set (x5_1 : Int).toNat (⟨(rd_T78 y496 x5_1).f0, (rd_T78 y496 x5_1).f1, (rd_T78 y496 x5_1).f2, wrap64 ((wrap64 ((wrap64 (x1_1 + 1)) + 1)) + 1)⟩ : S78)) (wrap64 ((wrap64 ((wrap64 ((wrap64 (x1_1 + 1)) + 1)) + 1)) + 1)) (wrap64 (x5_1 + 1)))) = some (r1, r2) := by first | (rw [hy495]; with_reducible exact H) | (have H2_ := (Option.bind_some _ _).symm.trans H; rw [hy495]; with_reducible exact H2_) | (have H2_ := (Option.bind_some _ _).symm.trans H; with_reducible exact H2_) | with_reducible exact H | (rw [hy495]; exact H) | exact H
  have Ny495 := Q_ hy495
  clear hy495
  obtain ⟨y496, hy496⟩ : ∃ y_ : List (S78), y_ = (y495.set (x5_1 : Int).toNat (⟨(rd_T78 y495 x5_1).f0, (rd_T78 y495 x5_1).f1, wrap64 ((wrap64 (x1_1 + 1)) + 1), (rd_T78 y495 x5_1).f3⟩ : S78)) := ⟨_, rfl⟩
  replace H : (laws_markMoveS.l0 k1 (y496.set (x5_1 : Int).toNat (⟨(rd_T78 y496 x5_1).f0, (rd_T78 y496 x5_1).f1, (rd_T78 y496 x5_1).f2, wrap64 ((wrap64 ((wrap64 (x1_1 + 1)) + 1)) + 1)⟩ : S78)) (wrap64 ((wrap64 ((wrap64 ((wrap64 (x1_1 + 1)) + 1)) + 1)) + 1)) (wrap64 (x5_1 + 1))) = some (r1, r2) := by first | (rw [hy496]; with_reducible exact H) | (have H2_ := (Option.bind_some _ _).symm.trans H; rw [hy496]; with_reducible exact H2_) | (have H2_ := (Option.bind_some _ _).symm.trans H; with_reducible exact H2_) | with_reducible exact H | (rw [hy496]; exact H) | exact H
  have Ny496 := Q_ hy496
  clear hy496
  obtain ⟨y497, hy497⟩ : ∃ y_ : List (S78), y_ = (y496.set (x5_1 : Int).toNat (⟨(rd_T78 y496 x5_1).f0, (rd_T78 y496 x5_1).f1, (rd_T78 y496 x5_1).f2, wrap64 ((wrap64 ((wrap64 (x1_1 + 1)) + 1)) + 1)⟩ : S78)) := ⟨_, rfl⟩
  replace H : (laws_markMoveS.l0 k1 y497 (wrap64 ((wrap64 ((wrap64 ((wrap64 (x1_1 + 1)) + 1)) + 1)) + 1)) (wrap64 (x5_1 + 1))) = some (r1, r2) := by first | (rw [hy497]; with_reducible exact H) | (have H2_ := (Option.bind_some _ _).symm.trans H; rw [hy497]; with_reducible exact H2_) | (have H2_ := (Option.bind_some _ _).symm.trans H; with_reducible exact H2_) | with_reducible exact H | (rw [hy497]; exact H) | exact H
  have Ny497 := Q_ hy497
  clear hy497
  have H' := Q_ H
  clear H
  obtain ⟨Ao10, co10, eo10⟩ := Kd.R_slice HO_0.out
  subst eo10
  have p6 : 0 ≤ (x5_1 : Int) := dt_
  have q6 : (x5_1 : Int) < ((x0_1.length : Int) : Int) := dt_
  obtain ⟨go6, co6, eo6, gb6, gl6, cl6, HG6⟩ := Kd.R_form HO_0.out (by omega)
  (first | cases eo6 | (injection eo6 with ea_ en_ ec_; (first | subst ea_ | (injection ea_ with ea_; subst ea_)); subst ec_; clear en_))
  have GB6 := Q_ gb6
  have GG6 := Q_ HG6
  clear gb6 gl6 HG6
  have HMgo6 := Q_ (show (P0_ go6 ∨ w.heap.size ≤ go6) from (HO_0.out.1 _ rfl))
  obtain ⟨ce6, hcl6, hM6, hcc6, hfr6⟩ := Kd.R_elem HO_0.out z78 (x5_1 : Int) p6 q6
  obtain rfl := k78_openM hM6
  have hx6_0 : wr.cell? ⟨go6, (x5_1 : Int).toNat * 4, none⟩ = some (.int .i64 ((rd_T78 x0_1 x5_1).f0)) := hcc6 0 _ rfl
  have hx6_1 : wr.cell? ⟨go6, (x5_1 : Int).toNat * 4 + 1, none⟩ = some (.bool ((rd_T78 x0_1 x5_1).f1)) := hcc6 1 _ rfl
  have hx6_2 : wr.cell? ⟨go6, (x5_1 : Int).toNat * 4 + 2, none⟩ = some (.int .i64 ((rd_T78 x0_1 x5_1).f2)) := hcc6 2 _ rfl
  have hx6_3 : wr.cell? ⟨go6, (x5_1 : Int).toNat * 4 + 3, none⟩ = some (.int .i64 ((rd_T78 x0_1 x5_1).f3)) := hcc6 3 _ rfl
  have hf6_0 : wr.frozen? ⟨go6, (x5_1 : Int).toNat * 4, none⟩ = false := hfr6 0
  have hf6_1 : wr.frozen? ⟨go6, (x5_1 : Int).toNat * 4 + 1, none⟩ = false := hfr6 1
  have hf6_2 : wr.frozen? ⟨go6, (x5_1 : Int).toNat * 4 + 2, none⟩ = false := hfr6 2
  have hf6_3 : wr.frozen? ⟨go6, (x5_1 : Int).toNat * 4 + 3, none⟩ = false := hfr6 3
  clear hcl6 hcc6 hfr6; (try clear hM6)
  replace p6 := eq_true p6
  replace q6 := eq_true q6
  have HX11 := Q_ (show Kd.R k78 78 wr w0.heap.size (fun k_ => (P0_ k_ ∨ w.heap.size ≤ k_)) (.slice (some ⟨go6, 0, none⟩) x0_1.length co10) x0_1 from (pr_ HO_0.out))
  obtain ⟨ce11, hcl11, hM11, hcc11, hfr11⟩ := Kd.R_elem HX11.out z78 (x5_1 : Int) dt_ (by have h_ : (x5_1 : Int) < ((x0_1.length : Int) : Int) := dt_; first | exact h_ | (have e_ := (Kd.R_reads' HO_0.out).1; omega) | simpa using h_)
  obtain rfl := k78_openM hM11
  have HP11 := Kd.R_seg HX11.out (x5_1 : Int) dt_ (by have h_ : (x5_1 : Int) < ((x0_1.length : Int) : Int) := dt_; first | exact h_ | (have e_ := (Kd.R_reads' HO_0.out).1; omega) | simpa using h_) (seg := [.int .i64 x1_1]) (j := 0) hcl11 hcc11 (show 1 ≤ 4 from by decide) (x' := (⟨x1_1, (rd_T78 x0_1 x5_1).f1, (rd_T78 x0_1 x5_1).f2, (rd_T78 x0_1 x5_1).f3⟩ : S78)) (k78_mkM _ _ _ (⟨x1_1, (rd_T78 x0_1 x5_1).f1, (rd_T78 x0_1 x5_1).f2, (rd_T78 x0_1 x5_1).f3⟩ : S78) ) (fun _ hk => hk)
  have hx11_0 := hcc11 0 _ rfl
  (try simp only [show (k78).sz = 4 from rfl, Nat.mul_one, Nat.add_zero] at hx11_0)
  have hf11_0 := hfr11 0
  (try simp only [show (k78).sz = 4 from rfl, Nat.mul_one, Nat.add_zero] at hf11_0)
  clear hcl11 hcc11 hfr11; (try clear hM11)
  go_wp2_with (first | ((with_reducible refine gate_store (t := 3) (p := 16) rfl ?_); refine store_event (t := 3) (p := 16) (v := ?vo_w12) (w1 := (wr.setCell ⟨go6, (x5_1 : Int).toNat * 4, none⟩ (.int .i64 x1_1))) ?hg ?ho ?hn ?hr ?_; (case ho => rfl); (case hg => rfl); (case hn => rfl); (case hr => first | (go_simp; done) | (go_simp; rfl)); intro w12 hw; have hg : wr.grownBy w12 (some go6) := (by rw [hw]; exact HP11.2); have hp_ : Kd.R k78 78 w12 w0.heap.size (fun k_ => (P0_ k_ ∨ w.heap.size ≤ k_)) (.slice (some ⟨go6, 0, none⟩) x0_1.length co10) y494 := (by rw [hw, Ny494.out]; exact HP11.1); clear HP11; have n0_ := Q_ (hp_); have n1_ := Q_ ((by rw [hw]; exact below_set (HB.out) GB6.out : Below w0.heap.size w0 w12)); have n2_ := Q_ (Kept.of_grown (S := (fun k_ => P0_ k_)) hg (by repeat (first | (with_reducible first | exact HK.out | apply Kept.alloc | apply Kept.drewN | apply Kept.drew) | exact HK.out)) (fun k_ e_ => (HO_0.out.1 k_ e_))); clear HO_0; clear HB; clear HK; have HO_0 := n0_; have HB := n1_; have HK := n2_; clear n0_ n1_ n2_; clear hg hw hp_; have p7 : 0 ≤ (x5_1 : Int) := dt_; have q7 : (x5_1 : Int) < ((x0_1.length : Int) : Int) := dt_; obtain ⟨ce7, hcl7, hM7, hcc7, hfr7⟩ := Kd.R_elem HO_0.out z78 (x5_1 : Int) p7 q7; obtain rfl := k78_openM hM7; have hx7_0 : w12.cell? ⟨go6, (x5_1 : Int).toNat * 4, none⟩ = some (.int .i64 ((rd_T78 y494 x5_1).f0)) := hcc7 0 _ rfl; have hx7_1 : w12.cell? ⟨go6, (x5_1 : Int).toNat * 4 + 1, none⟩ = some (.bool ((rd_T78 y494 x5_1).f1)) := hcc7 1 _ rfl; have hx7_2 : w12.cell? ⟨go6, (x5_1 : Int).toNat * 4 + 2, none⟩ = some (.int .i64 ((rd_T78 y494 x5_1).f2)) := hcc7 2 _ rfl; have hx7_3 : w12.cell? ⟨go6, (x5_1 : Int).toNat * 4 + 3, none⟩ = some (.int .i64 ((rd_T78 y494 x5_1).f3)) := hcc7 3 _ rfl; have hf7_0 : w12.frozen? ⟨go6, (x5_1 : Int).toNat * 4, none⟩ = false := hfr7 0; have hf7_1 : w12.frozen? ⟨go6, (x5_1 : Int).toNat * 4 + 1, none⟩ = false := hfr7 1; have hf7_2 : w12.frozen? ⟨go6, (x5_1 : Int).toNat * 4 + 2, none⟩ = false := hfr7 2; have hf7_3 : w12.frozen? ⟨go6, (x5_1 : Int).toNat * 4 + 3, none⟩ = false := hfr7 3; clear hcl7 hcc7 hfr7; (try clear hM7); replace p7 := eq_true p7; replace q7 := eq_true q7; have HX13 := Q_ (show Kd.R k78 78 w12 w0.heap.size (fun k_ => (P0_ k_ ∨ w.heap.size ≤ k_)) (.slice (some ⟨go6, 0, none⟩) x0_1.length co10) y494 from (pr_ HO_0.out)); obtain ⟨ce13, hcl13, hM13, hcc13, hfr13⟩ := Kd.R_elem HX13.out z78 (x5_1 : Int) dt_ (by have h_ : (x5_1 : Int) < ((x0_1.length : Int) : Int) := dt_; first | exact h_ | (have e_ := (Kd.R_reads' HO_0.out).1; omega) | simpa using h_); obtain rfl := k78_openM hM13; have HP13 := Kd.R_seg HX13.out (x5_1 : Int) dt_ (by have h_ : (x5_1 : Int) < ((x0_1.length : Int) : Int) := dt_; first | exact h_ | (have e_ := (Kd.R_reads' HO_0.out).1; omega) | simpa using h_) (seg := [.bool ((Int.tmod (wrap64 (x1_1 + 1)) 3) == 0)]) (j := 1) hcl13 hcc13 (show 2 ≤ 4 from by decide) (x' := (⟨(rd_T78 y494 x5_1).f0, ((Int.tmod (wrap64 (x1_1 + 1)) 3) == 0), (rd_T78 y494 x5_1).f2, (rd_T78 y494 x5_1).f3⟩ : S78)) (k78_mkM _ _ _ (⟨(rd_T78 y494 x5_1).f0, ((Int.tmod (wrap64 (x1_1 + 1)) 3) == 0), (rd_T78 y494 x5_1).f2, (rd_T78 y494 x5_1).f3⟩ : S78) ) (fun _ hk => hk); have hx13_1 := hcc13 1 _ rfl; (try simp only [show (k78).sz = 4 from rfl, Nat.mul_one, Nat.add_zero] at hx13_1); have hf13_1 := hfr13 1; (try simp only [show (k78).sz = 4 from rfl, Nat.mul_one, Nat.add_zero] at hf13_1); clear hcl13 hcc13 hfr13; (try clear hM13)) | ((with_reducible refine gate_store (t := 4) (p := 25) rfl ?_); refine store_event (t := 4) (p := 25) (v := ?vo_w14) (w1 := (w12.setCell ⟨go6, (x5_1 : Int).toNat * 4 + 1, none⟩ (.bool ((Int.tmod (wrap64 (x1_1 + 1)) 3) == 0)))) ?hg ?ho ?hn ?hr ?_; (case ho => rfl); (case hg => rfl); (case hn => rfl); (case hr => first | (go_simp; done) | (go_simp; rfl)); intro w14 hw; have hg : w12.grownBy w14 (some go6) := (by rw [hw]; exact HP13.2); have hp_ : Kd.R k78 78 w14 w0.heap.size (fun k_ => (P0_ k_ ∨ w.heap.size ≤ k_)) (.slice (some ⟨go6, 0, none⟩) x0_1.length co10) y495 := (by rw [hw, Ny495.out]; exact HP13.1); clear HP13; have n0_ := Q_ (hp_); have n1_ := Q_ ((by rw [hw]; exact below_set (HB.out) GB6.out : Below w0.heap.size w0 w14)); have n2_ := Q_ (Kept.of_grown (S := (fun k_ => P0_ k_)) hg (by repeat (first | (with_reducible first | exact HK.out | apply Kept.alloc | apply Kept.drewN | apply Kept.drew) | exact HK.out)) (fun k_ e_ => (HO_0.out.1 k_ e_))); clear HO_0; clear HB; clear HK; have HO_0 := n0_; have HB := n1_; have HK := n2_; clear n0_ n1_ n2_; clear hg hw hp_; have p8 : 0 ≤ (x5_1 : Int) := dt_; have q8 : (x5_1 : Int) < ((x0_1.length : Int) : Int) := dt_; obtain ⟨ce8, hcl8, hM8, hcc8, hfr8⟩ := Kd.R_elem HO_0.out z78 (x5_1 : Int) p8 q8; obtain rfl := k78_openM hM8; have hx8_0 : w14.cell? ⟨go6, (x5_1 : Int).toNat * 4, none⟩ = some (.int .i64 ((rd_T78 y495 x5_1).f0)) := hcc8 0 _ rfl; have hx8_1 : w14.cell? ⟨go6, (x5_1 : Int).toNat * 4 + 1, none⟩ = some (.bool ((rd_T78 y495 x5_1).f1)) := hcc8 1 _ rfl; have hx8_2 : w14.cell? ⟨go6, (x5_1 : Int).toNat * 4 + 2, none⟩ = some (.int .i64 ((rd_T78 y495 x5_1).f2)) := hcc8 2 _ rfl; have hx8_3 : w14.cell? ⟨go6, (x5_1 : Int).toNat * 4 + 3, none⟩ = some (.int .i64 ((rd_T78 y495 x5_1).f3)) := hcc8 3 _ rfl; have hf8_0 : w14.frozen? ⟨go6, (x5_1 : Int).toNat * 4, none⟩ = false := hfr8 0; have hf8_1 : w14.frozen? ⟨go6, (x5_1 : Int).toNat * 4 + 1, none⟩ = false := hfr8 1; have hf8_2 : w14.frozen? ⟨go6, (x5_1 : Int).toNat * 4 + 2, none⟩ = false := hfr8 2; have hf8_3 : w14.frozen? ⟨go6, (x5_1 : Int).toNat * 4 + 3, none⟩ = false := hfr8 3; clear hcl8 hcc8 hfr8; (try clear hM8); replace p8 := eq_true p8; replace q8 := eq_true q8; have HX15 := Q_ (show Kd.R k78 78 w14 w0.heap.size (fun k_ => (P0_ k_ ∨ w.heap.size ≤ k_)) (.slice (some ⟨go6, 0, none⟩) x0_1.length co10) y495 from (pr_ HO_0.out)); obtain ⟨ce15, hcl15, hM15, hcc15, hfr15⟩ := Kd.R_elem HX15.out z78 (x5_1 : Int) dt_ (by have h_ : (x5_1 : Int) < ((x0_1.length : Int) : Int) := dt_; first | exact h_ | (have e_ := (Kd.R_reads' HO_0.out).1; omega) | simpa using h_); obtain rfl := k78_openM hM15; have HP15 := Kd.R_seg HX15.out (x5_1 : Int) dt_ (by have h_ : (x5_1 : Int) < ((x0_1.length : Int) : Int) := dt_; first | exact h_ | (have e_ := (Kd.R_reads' HO_0.out).1; omega) | simpa using h_) (seg := [.int .i64 (wrap64 ((wrap64 (x1_1 + 1)) + 1))]) (j := 2) hcl15 hcc15 (show 3 ≤ 4 from by decide) (x' := (⟨(rd_T78 y495 x5_1).f0, (rd_T78 y495 x5_1).f1, wrap64 ((wrap64 (x1_1 + 1)) + 1), (rd_T78 y495 x5_1).f3⟩ : S78)) (k78_mkM _ _ _ (⟨(rd_T78 y495 x5_1).f0, (rd_T78 y495 x5_1).f1, wrap64 ((wrap64 (x1_1 + 1)) + 1), (rd_T78 y495 x5_1).f3⟩ : S78) ) (fun _ hk => hk); have hx15_2 := hcc15 2 _ rfl; (try simp only [show (k78).sz = 4 from rfl, Nat.mul_one, Nat.add_zero] at hx15_2); have hf15_2 := hfr15 2; (try simp only [show (k78).sz = 4 from rfl, Nat.mul_one, Nat.add_zero] at hf15_2); clear hcl15 hcc15 hfr15; (try clear hM15)) | ((with_reducible refine gate_store (t := 3) (p := 32) rfl ?_); refine store_event (t := 3) (p := 32) (v := ?vo_w16) (w1 := (w14.setCell ⟨go6, (x5_1 : Int).toNat * 4 + 2, none⟩ (.int .i64 (wrap64 ((wrap64 (x1_1 + 1)) + 1))))) ?hg ?ho ?hn ?hr ?_; (case ho => rfl); (case hg => rfl); (case hn => rfl); (case hr => first | (go_simp; done) | (go_simp; rfl)); intro w16 hw; have hg : w14.grownBy w16 (some go6) := (by rw [hw]; exact HP15.2); have hp_ : Kd.R k78 78 w16 w0.heap.size (fun k_ => (P0_ k_ ∨ w.heap.size ≤ k_)) (.slice (some ⟨go6, 0, none⟩) x0_1.length co10) y496 := (by rw [hw, Ny496.out]; exact HP15.1); clear HP15; have n0_ := Q_ (hp_); have n1_ := Q_ ((by rw [hw]; exact below_set (HB.out) GB6.out : Below w0.heap.size w0 w16)); have n2_ := Q_ (Kept.of_grown (S := (fun k_ => P0_ k_)) hg (by repeat (first | (with_reducible first | exact HK.out | apply Kept.alloc | apply Kept.drewN | apply Kept.drew) | exact HK.out)) (fun k_ e_ => (HO_0.out.1 k_ e_))); clear HO_0; clear HB; clear HK; have HO_0 := n0_; have HB := n1_; have HK := n2_; clear n0_ n1_ n2_; clear hg hw hp_; have p9 : 0 ≤ (x5_1 : Int) := dt_; have q9 : (x5_1 : Int) < ((x0_1.length : Int) : Int) := dt_; obtain ⟨ce9, hcl9, hM9, hcc9, hfr9⟩ := Kd.R_elem HO_0.out z78 (x5_1 : Int) p9 q9; obtain rfl := k78_openM hM9; have hx9_0 : w16.cell? ⟨go6, (x5_1 : Int).toNat * 4, none⟩ = some (.int .i64 ((rd_T78 y496 x5_1).f0)) := hcc9 0 _ rfl; have hx9_1 : w16.cell? ⟨go6, (x5_1 : Int).toNat * 4 + 1, none⟩ = some (.bool ((rd_T78 y496 x5_1).f1)) := hcc9 1 _ rfl; have hx9_2 : w16.cell? ⟨go6, (x5_1 : Int).toNat * 4 + 2, none⟩ = some (.int .i64 ((rd_T78 y496 x5_1).f2)) := hcc9 2 _ rfl; have hx9_3 : w16.cell? ⟨go6, (x5_1 : Int).toNat * 4 + 3, none⟩ = some (.int .i64 ((rd_T78 y496 x5_1).f3)) := hcc9 3 _ rfl; have hf9_0 : w16.frozen? ⟨go6, (x5_1 : Int).toNat * 4, none⟩ = false := hfr9 0; have hf9_1 : w16.frozen? ⟨go6, (x5_1 : Int).toNat * 4 + 1, none⟩ = false := hfr9 1; have hf9_2 : w16.frozen? ⟨go6, (x5_1 : Int).toNat * 4 + 2, none⟩ = false := hfr9 2; have hf9_3 : w16.frozen? ⟨go6, (x5_1 : Int).toNat * 4 + 3, none⟩ = false := hfr9 3; clear hcl9 hcc9 hfr9; (try clear hM9); replace p9 := eq_true p9; replace q9 := eq_true q9; have HX17 := Q_ (show Kd.R k78 78 w16 w0.heap.size (fun k_ => (P0_ k_ ∨ w.heap.size ≤ k_)) (.slice (some ⟨go6, 0, none⟩) x0_1.length co10) y496 from (pr_ HO_0.out)); obtain ⟨ce17, hcl17, hM17, hcc17, hfr17⟩ := Kd.R_elem HX17.out z78 (x5_1 : Int) dt_ (by have h_ : (x5_1 : Int) < ((x0_1.length : Int) : Int) := dt_; first | exact h_ | (have e_ := (Kd.R_reads' HO_0.out).1; omega) | simpa using h_); obtain rfl := k78_openM hM17; have HP17 := Kd.R_seg HX17.out (x5_1 : Int) dt_ (by have h_ : (x5_1 : Int) < ((x0_1.length : Int) : Int) := dt_; first | exact h_ | (have e_ := (Kd.R_reads' HO_0.out).1; omega) | simpa using h_) (seg := [.int .i64 (wrap64 ((wrap64 ((wrap64 (x1_1 + 1)) + 1)) + 1))]) (j := 3) hcl17 hcc17 (show 4 ≤ 4 from by decide) (x' := (⟨(rd_T78 y496 x5_1).f0, (rd_T78 y496 x5_1).f1, (rd_T78 y496 x5_1).f2, wrap64 ((wrap64 ((wrap64 (x1_1 + 1)) + 1)) + 1)⟩ : S78)) (k78_mkM _ _ _ (⟨(rd_T78 y496 x5_1).f0, (rd_T78 y496 x5_1).f1, (rd_T78 y496 x5_1).f2, wrap64 ((wrap64 ((wrap64 (x1_1 + 1)) + 1)) + 1)⟩ : S78) ) (fun _ hk => hk); have hx17_3 := hcc17 3 _ rfl; (try simp only [show (k78).sz = 4 from rfl, Nat.mul_one, Nat.add_zero] at hx17_3); have hf17_3 := hfr17 3; (try simp only [show (k78).sz = 4 from rfl, Nat.mul_one, Nat.add_zero] at hf17_3); clear hcl17 hcc17 hfr17; (try clear hM17)) | ((with_reducible refine gate_store (t := 3) (p := 39) rfl ?_); refine store_event (t := 3) (p := 39) (v := ?vo_w18) (w1 := (w16.setCell ⟨go6, (x5_1 : Int).toNat * 4 + 3, none⟩ (.int .i64 (wrap64 ((wrap64 ((wrap64 (x1_1 + 1)) + 1)) + 1))))) ?hg ?ho ?hn ?hr ?_; (case ho => rfl); (case hg => rfl); (case hn => rfl); (case hr => first | (go_simp; done) | (go_simp; rfl)); intro w18 hw; have hg : w16.grownBy w18 (some go6) := (by rw [hw]; exact HP17.2); have hp_ : Kd.R k78 78 w18 w0.heap.size (fun k_ => (P0_ k_ ∨ w.heap.size ≤ k_)) (.slice (some ⟨go6, 0, none⟩) x0_1.length co10) y497 := (by rw [hw, Ny497.out]; exact HP17.1); clear HP17; have n0_ := Q_ (hp_); have n1_ := Q_ ((by rw [hw]; exact below_set (HB.out) GB6.out : Below w0.heap.size w0 w18)); have n2_ := Q_ (Kept.of_grown (S := (fun k_ => P0_ k_)) hg (by repeat (first | (with_reducible first | exact HK.out | apply Kept.alloc | apply Kept.drewN | apply Kept.drew) | exact HK.out)) (fun k_ e_ => (HO_0.out.1 k_ e_))); clear HO_0; clear HB; clear HK; have HO_0 := n0_; have HB := n1_; have HK := n2_; clear n0_ n1_ n2_; clear hg hw hp_))
  go_roundg k1
  case measure => have := HK1.out; omega
  case rel => exact ⟨(y497), (wrap64 ((wrap64 ((wrap64 ((wrap64 (x1_1 + 1)) + 1)) + 1)) + 1)), (wrap64 (x5_1 + 1)), el_, el_, H', ⟨by have := HK1.out; omega⟩, ⟨pr_ HO_0.out⟩, ⟨by repeat (first | (with_reducible first | exact HK.out | apply Kept.alloc | apply Kept.drewN | apply Kept.drew) | exact HK.out)⟩, ⟨pb_ HB.out⟩⟩

/-! ### laws_markMachineS: function 20, by hand -/
theorem laws_markMachineS.gd (xs : List S34) (i : Int) (h0 : 0 ≤ i) (h1 : i < (xs.length : Int)) {x : S34} : (xs.set i.toNat x).getD i.toNat z34 = x := by
  have h : i.toNat < xs.length := by omega
  simp [h]
def laws_markMachineS.l0 : Nat → List (S34) → Int → Int → Option (Int)
  | 0, _, _, _ => none
  | k + 1, x0, x1, x5 => if x5 < (x0.length : Int) then (if 0 ≤ x5 then ((laws_markBoolS.f k (rd_T34 x0 x5).f1 (wrap64 (x1 + 1))).bind fun bt1 => ((laws_markMoveS.f k (rd_T34 x0 x5).f2 bt1.1).bind fun bt2 => (laws_markMachineS.l0 k (x0.set (x5 : Int).toNat (⟨x1, bt1.2, bt2.2⟩ : S34)) bt2.1 (wrap64 (x5 + 1))))) else (none)) else (some x1)
def laws_markMachineS.f (k : Nat) (l0 : List (S34)) (a1 : Int) : Option (Int) := laws_markMachineS.l0 k l0 a1 0
theorem laws_markMachineS.mono_l : ∀ k, (∀ y0 y1 y2, LeO (laws_markMachineS.l0 k y0 y1 y2) (laws_markMachineS.l0 (k + 1) y0 y1 y2))
  | 0 => fun _ _ _ r h => by simp [laws_markMachineS.l0] at h
  | k + 1 => by
    have ih0 := laws_markMachineS.mono_l k
    · intro y0 y1 y2
      unfold laws_markMachineS.l0
      exact mo3_ ih0 laws_markBoolS.mono laws_markMoveS.mono
theorem laws_markMachineS.mono : ∀ a0 a1 k, LeO (laws_markMachineS.f k a0 a1) (laws_markMachineS.f (k + 1) a0 a1) := by
  intro a0 a1 k
  have ih0 := laws_markMachineS.mono_l k
  unfold laws_markMachineS.f
  exact mo3_ ih0 laws_markBoolS.mono laws_markMoveS.mono
set_option maxHeartbeats 8000000 in
set_option maxRecDepth 100000 in
theorem laws_markMachineS.calls (k : Nat) (P0_ : Nat → Prop) (u9000_ : Value) (l0 : List (S34)) (a1 : Int) (r1 : Int) (w0 w : World) (hB : Below w0.heap.size w0 w) (ho0 : Kd.S k34 34 w w0.heap.size P0_ u9000_ l0) (h : laws_markMachineS.f k l0 a1 = some r1) :
    Calls Try.prog 20 #[u9000_, .int .i64 a1] w fun e w' => e = .returned (.int .i64 r1) ∧ Below w0.heap.size w0 w' ∧ Kept w w' (fun k_ => P0_ k_) := by
  have hu34 := Try.underlying34
  have HO0 := Q_ (show Kd.S k34 34 w w0.heap.size (fun k_ => (P0_ k_ ∨ w.heap.size ≤ k_)) u9000_ l0 from Kd.S_mono ho0 (fun k_ hk => (.inl hk)))
  have HK := Q_ (Kept.refl w (fun k_ => P0_ k_))
  have HW0 := Q_ hB.size
  have HB := Q_ hB
  clear hB
  have H : (laws_markMachineS.l0 k l0 a1 0) = some r1 := h
  clear h
  have H' := Q_ H
  clear H
  go_enter Try.func20, Try.ntmps20
  go_wp2
  go_loopg [1, 5] k (fun kq v1 v5 w' => ∃ (x0_1 : List (S34)) (x1_1 : Int) (x5_1 : Int), v1 = .int .i64 x1_1 ∧ v5 = .int .i64 x5_1 ∧ Aside0 (laws_markMachineS.l0 kq x0_1 x1_1 x5_1 = some r1) ∧ Aside0 (kq ≤ k) ∧ Aside0 (Kd.S k34 34 w' w0.heap.size (fun k_ => (P0_ k_ ∨ w.heap.size ≤ k_)) u9000_ x0_1) ∧ Aside0 (Kept w w' (fun k_ => P0_ k_)) ∧ Aside0 (Below w0.heap.size w0 w'))
  case atStart => exact ⟨(l0), (a1), (0), el_, el_, H', ⟨Nat.le_refl _⟩, ⟨by (with_reducible repeat (first | apply Kd.S_alloc | apply Kd.S_drewN | apply Kd.S_drew)); exact HO0.out⟩, ⟨by repeat (first | (with_reducible first | exact HK.out | apply Kept.alloc | apply Kept.drewN | apply Kept.drew) | exact HK.out)⟩, ⟨by repeat (first | (with_reducible first | exact HB.out | apply below_alloc | apply pw_below_drewN | apply below_drew1) | exact HB.out)⟩⟩
  clear H'
  try clear p2
  obtain ⟨x0_1, x1_1, x5_1, rfl, rfl, HA, HK1, HO_0, HK, HB⟩ := hrel
  rcases gk with _ | k1
  · exact absurd HA.out (by simp [laws_markMachineS.l0])
  have H := HA.out
  clear HA
  simp only [laws_markMachineS.l0] at H
  by_cases c3 : x5_1 < (x0_1.length : Int)
  rotate_left
  · rw [if_neg c3] at H
    have c3b0 : decide (x5_1 < (x0_1.length : Int)) = false := decide_eq_false c3
    clear c3
    obtain rfl := Option.some.inj H
    obtain ⟨Ao4, co4, eo4⟩ := Kd.S_slice HO_0.out
    subst eo4
    go_wp2
    go_ret
    exact ⟨el_, by repeat (first | (with_reducible first | exact HB.out | apply below_alloc | apply pw_below_drewN | apply below_drew1) | exact HB.out), by repeat (first | (with_reducible first | exact HK.out | apply Kept.alloc | apply Kept.drewN | apply Kept.drew) | exact HK.out)⟩
  rw [if_pos c3] at H
  have c3b0 : decide (x5_1 < (x0_1.length : Int)) = true := decide_eq_true c3
  have q6 : x5_1 < (x0_1.length : Int) := c3
  clear c3
  by_cases c5 : 0 ≤ x5_1
  rotate_left
  · rw [if_neg c5] at H
    exact absurd H (by simp)
  rw [if_pos c5] at H
  have c5b0 : decide (0 ≤ x5_1) = true := decide_eq_true c5
  have p6 : 0 ≤ x5_1 := c5
  clear c5
  replace H := Option.bind_eq_some_iff.mp H
  obtain ⟨⟨t1, t2⟩, A60, H⟩ := H
  replace H := Option.bind_eq_some_iff.mp H
  obtain ⟨⟨t3, t4⟩, A70, H⟩ := H
  (try dsimp only at H)
  (try dsimp only at A70)
  have H' := Q_ H
  clear H
  have PP := Q_ p6
  have QQ := Q_ q6
  obtain ⟨go6, co6, eo6, gb6, gl6, HG6⟩ := Kd.S_form HO_0.out (by omega)
  subst eo6
  have GB6 := Q_ gb6
  clear gb6 gl6 HG6
  obtain ⟨Xa, hXa⟩ : ∃ X : S34, X = rd_T34 x0_1 x5_1 := ⟨_, rfl⟩
  rw [← hXa] at A60 A70
  have A6 := Q_ A60
  have A7 := Q_ A70
  clear A60 A70
  obtain ⟨oka, ca, hcla, hMa, hcca, hfra, hoka, hHa⟩ := Kd.S_elem HO_0.out z34 x5_1 p6 q6
  rw [show x0_1.getD x5_1.toNat z34 = Xa from hXa.symm] at hMa
  obtain ⟨va1, va2, rfl, ga1, ga2⟩ := k34_openM hMa
  have hxa_0 : wr.cell? ⟨go6, (x5_1 : Int).toNat * 3, none⟩ = some (.int .i64 Xa.f0) := hcca 0 _ rfl
  have hfa_0 : wr.frozen? ⟨go6, (x5_1 : Int).toNat * 3, none⟩ = false := hfra 0
  have HPa := Kd.S_seg0 hHa p6 q6 (seg := [.int .i64 x1_1]) (j := 0) (show 0 + 1 ≤ 3 from by decide) (x' := (⟨x1_1, Xa.f1, Xa.f2⟩ : S34)) (k34_mkM _ _ _ (⟨x1_1, Xa.f1, Xa.f2⟩ : S34) ga1 ga2) (fun _ h_ => h_)
  clear hcca hfra hoka hHa ga1 ga2 hcla hXa hMa
  replace p6 := eq_true p6
  replace q6 := eq_true q6
  go_wp2_with (first
    | ((with_reducible refine gate_store (t := 3) (p := 16) rfl ?_); refine store_event (t := 3) (p := 16) (v := ?vo_w9) (w1 := (wr.setCell ⟨go6, (x5_1 : Int).toNat * 3, none⟩ (.int .i64 x1_1))) ?hg ?ho ?hn ?hr ?_; (case ho => rfl); (case hg => rfl); (case hn => rfl); (case hr => first | (go_simp; done) | (go_simp; rfl)); intro w9 hw; have hg : wr.grownBy w9 (some go6) := (by rw [hw]; exact HPa.2); have n0_ := Q_ (show Kd.S k34 34 w9 w0.heap.size (fun k_ => (P0_ k_ ∨ w.heap.size ≤ k_)) (.slice (some ⟨go6, 0, none⟩) x0_1.length co6) (x0_1.set (x5_1 : Int).toNat (⟨x1_1, Xa.f1, Xa.f2⟩ : S34)) from by rw [hw]; exact HPa.1); have n1_ := Q_ ((by rw [hw]; exact below_set (HB.out) GB6.out : Below w0.heap.size w0 w9)); have n2_ := Q_ (Kept.of_grown (S := (fun k_ => P0_ k_)) hg (by repeat (first | (with_reducible first | exact HK.out | apply Kept.alloc | apply Kept.drewN | apply Kept.drew) | exact HK.out)) (fun k_ e_ => (Kd.S_R HO_0.out).1 _ e_)); clear HPa; clear HO_0; clear HB; clear HK; have HO_0 := n0_; have HB := n1_; have HK := n2_; clear n0_ n1_ n2_ hg hw hxa_0 hfa_0; obtain ⟨okb, cb, _, hMb, hccb, hokb, hbkb⟩ := Kd.S_call HO_0.out z34 x5_1 PP.out QQ.out; rw [laws_markMachineS.gd x0_1 x5_1 PP.out QQ.out] at hMb; obtain ⟨vb1, vb2, rfl, gb1, gb2⟩ := k34_openM hMb; obtain ⟨Ab1, cb1, eb1⟩ := Kd.R_slice gb1; subst eb1; obtain ⟨Ab2, cb2, eb2⟩ := Kd.R_slice gb2; subst eb2; have hxb_1 : w9.cell? ⟨go6, (x5_1 : Int).toNat * 3 + 1, none⟩ = some (.slice Ab1 Xa.f1.length cb1) := hccb 1 _ rfl; have hxb_2 : w9.cell? ⟨go6, (x5_1 : Int).toNat * 3 + 2, none⟩ = some (.slice Ab2 Xa.f2.length cb2) := hccb 2 _ rfl; have HRb1 := Q_ gb1; have HRb2 := Q_ gb2; have HIb := Q_ hokb; have HJb := Q_ @hbkb; clear hccb hokb hbkb gb1 gb2 hMb)
    | ((with_reducible refine gate_callee (f := 43) rfl ?_); refine goesL_ (some 25) rfl rfl Try.func43 (by kernel_rfl) rfl #[(.slice Ab1 Xa.f1.length cb1 : Value), .int .i64 (wrap64 (x1_1 + 1))] rfl mp_ ?_; (with_reducible refine (laws_markBoolS.calls k1 (fun k_ => some k_ = (.slice Ab1 Xa.f1.length cb1 : Value).ownBlock) (.slice Ab1 Xa.f1.length cb1 : Value) Xa.f1 (wrap64 (x1_1 + 1)) t1 t2 w0 _ ?side1 ?side2 A6.out).mono ?_); (case side1 => exact (by repeat (first | (with_reducible first | exact HB.out | apply below_alloc | apply pw_below_drewN | apply below_drew1) | exact HB.out))); (case side2 => apply Kd.R_tight rfl; (with_reducible repeat (first | apply Kd.R_alloc | apply Kd.R_drewN | apply Kd.R_drew)); exact HRb1.out); rintro e w10 ⟨rfl, hy0, hb, hkp⟩; refine ⟨_, rfl, ?_⟩; have m1_ := Kd.R_reok rfl hy0 (fun k_ e_ => HRb1.out.1 k_ e_); have m2_ := Kd.R_mono (ok' := okb) (Kd.R_keptB (Kd.R_apart' (by (with_reducible repeat (first | apply Kd.R_alloc | apply Kd.R_drewN | apply Kd.R_drew)); exact HRb2.out) (Kd.R_typed (by (with_reducible repeat (first | apply Kd.R_alloc | apply Kd.R_drewN | apply Kd.R_drew)); exact HRb1.out)) (by decide)) hkp (fun k_ hk_ hs_ => (hk_.2) hs_)) (fun k_ hk_ => hk_.1.1); have n0_ := Q_ (Kd.S_mono (HJb.out (x' := (⟨x1_1, t2, Xa.f2⟩ : S34)) (Kept.then_ (S := okb) (by repeat (first | exact Kept.refl _ _ | apply Kept.alloc | apply Kept.drewN | apply Kept.drew)) hkp (fun k_ hs_ => (.inl (HRb1.out.1 k_ hs_.symm)))) (k34_mkM _ _ _ (⟨x1_1, t2, Xa.f2⟩ : S34) (Kd.R_mono m1_ (fun _ h_ => .inl h_)) (Kd.R_mono m2_ (fun _ h_ => .inl h_)))) (fun k_ h_ => h_.elim id (fun h2_ => .inr (Nat.le_trans HK.out.1 h2_)))); have n1_ := Q_ hb; have n2_ := Q_ (Kept.then_ (S := (fun k_ => P0_ k_)) (by repeat (first | (with_reducible first | exact HK.out | apply Kept.alloc | apply Kept.drewN | apply Kept.drew) | exact HK.out)) hkp (fun k_ hs_ => HIb.out k_ (HRb1.out.1 k_ hs_.symm))); have n3_ := Q_ (show Kd.S k34 34 w10 w0.heap.size (fun k_ => (P0_ k_ ∨ w.heap.size ≤ k_)) (.slice (some ⟨go6, 0, none⟩) x0_1.length co6) (x0_1.set (x5_1 : Int).toNat (⟨x1_1, t2, Xa.f2⟩ : S34)) from by have h9_ := n0_.out; rw [List.set_set] at h9_; exact h9_); clear HO_0; clear HB; clear HK; have HO_0 := n3_; have HB := n1_; have HK := n2_; clear n0_ n1_ n2_ n3_ m1_ m2_ hy0 hb hkp hxb_1 hxb_2 HRb1 HRb2 HIb HJb; obtain ⟨okc, cc, _, hMc, hccc, hokc, hbkc⟩ := Kd.S_call HO_0.out z34 x5_1 PP.out QQ.out; rw [laws_markMachineS.gd x0_1 x5_1 PP.out QQ.out] at hMc; obtain ⟨vc1, vc2, rfl, gc1, gc2⟩ := k34_openM hMc; obtain ⟨Ac1, cc1, ec1⟩ := Kd.R_slice gc1; subst ec1; obtain ⟨Ac2, cc2, ec2⟩ := Kd.R_slice gc2; subst ec2; have hxc_1 : w10.cell? ⟨go6, (x5_1 : Int).toNat * 3 + 1, none⟩ = some (.slice Ac1 t2.length cc1) := hccc 1 _ rfl; have hxc_2 : w10.cell? ⟨go6, (x5_1 : Int).toNat * 3 + 2, none⟩ = some (.slice Ac2 Xa.f2.length cc2) := hccc 2 _ rfl; have HRc1 := Q_ gc1; have HRc2 := Q_ gc2; have HIc := Q_ hokc; have HJc := Q_ @hbkc; clear hccc hokc hbkc gc1 gc2 hMc)
    | ((with_reducible refine gate_callee (f := 44) rfl ?_); refine goesL_ (some 32) rfl rfl Try.func44 (by kernel_rfl) rfl #[(.slice Ac2 Xa.f2.length cc2 : Value), .int .i64 t1] rfl mp_ ?_; (with_reducible refine (laws_markMoveS.calls k1 (fun k_ => some k_ = (.slice Ac2 Xa.f2.length cc2 : Value).ownBlock) (.slice Ac2 Xa.f2.length cc2 : Value) Xa.f2 t1 t3 t4 w0 _ ?side1 ?side2 A7.out).mono ?_); (case side1 => exact (by repeat (first | (with_reducible first | exact HB.out | apply below_alloc | apply pw_below_drewN | apply below_drew1) | exact HB.out))); (case side2 => apply Kd.R_tight rfl; (with_reducible repeat (first | apply Kd.R_alloc | apply Kd.R_drewN | apply Kd.R_drew)); exact HRc2.out); rintro e w11 ⟨rfl, hy0, hb, hkp⟩; refine ⟨_, rfl, ?_⟩; have m1_ := Kd.R_mono (ok' := okc) (Kd.R_keptB (Kd.R_apart' (by (with_reducible repeat (first | apply Kd.R_alloc | apply Kd.R_drewN | apply Kd.R_drew)); exact HRc1.out) (Kd.R_typed (by (with_reducible repeat (first | apply Kd.R_alloc | apply Kd.R_drewN | apply Kd.R_drew)); exact HRc2.out)) (by decide)) hkp (fun k_ hk_ hs_ => (hk_.2) hs_)) (fun k_ hk_ => hk_.1.1); have m2_ := Kd.R_reok rfl hy0 (fun k_ e_ => HRc2.out.1 k_ e_); have n0_ := Q_ (Kd.S_mono (HJc.out (x' := (⟨x1_1, t2, t4⟩ : S34)) (Kept.then_ (S := okc) (by repeat (first | exact Kept.refl _ _ | apply Kept.alloc | apply Kept.drewN | apply Kept.drew)) hkp (fun k_ hs_ => (.inl (HRc2.out.1 k_ hs_.symm)))) (k34_mkM _ _ _ (⟨x1_1, t2, t4⟩ : S34) (Kd.R_mono m1_ (fun _ h_ => .inl h_)) (Kd.R_mono m2_ (fun _ h_ => .inl h_)))) (fun k_ h_ => h_.elim id (fun h2_ => .inr (Nat.le_trans HK.out.1 h2_)))); have n1_ := Q_ hb; have n2_ := Q_ (Kept.then_ (S := (fun k_ => P0_ k_)) (by repeat (first | (with_reducible first | exact HK.out | apply Kept.alloc | apply Kept.drewN | apply Kept.drew) | exact HK.out)) hkp (fun k_ hs_ => HIc.out k_ (HRc2.out.1 k_ hs_.symm))); have n3_ := Q_ (show Kd.S k34 34 w11 w0.heap.size (fun k_ => (P0_ k_ ∨ w.heap.size ≤ k_)) (.slice (some ⟨go6, 0, none⟩) x0_1.length co6) (x0_1.set (x5_1 : Int).toNat (⟨x1_1, t2, t4⟩ : S34)) from by have h9_ := n0_.out; rw [List.set_set] at h9_; exact h9_); clear HO_0; clear HB; clear HK; have HO_0 := n3_; have HB := n1_; have HK := n2_; clear n0_ n1_ n2_ n3_ m1_ m2_ hy0 hb hkp hxc_1 hxc_2 HRc1 HRc2 HIc HJc))
  go_roundg k1
  case measure => have := HK1.out; omega
  case rel => exact ⟨_, t3, (wrap64 (x5_1 + 1)), el_, el_, H', ⟨by have := HK1.out; omega⟩, ⟨by (with_reducible repeat (first | apply Kd.S_alloc | apply Kd.S_drewN | apply Kd.S_drew)); exact HO_0.out⟩, ⟨by repeat (first | (with_reducible first | exact HK.out | apply Kept.alloc | apply Kept.drewN | apply Kept.drew) | exact HK.out)⟩, ⟨by repeat (first | (with_reducible first | exact HB.out | apply below_alloc | apply pw_below_drewN | apply below_drew1) | exact HB.out)⟩⟩


/-! ### laws_markMachine: function 21 -/
def laws_markMachine.f (k : Nat) (a0_0 : Int) (l0_1 : List Bool) (l0_2 : List (S78)) (a1 : Int) : Option (Int × List Bool × (List (S78))) := (laws_markBoolS.f k l0_1 a1).bind fun bt499 => ((laws_markMoveS.f k l0_2 bt499.1).bind fun bt501 => (some (bt501.1, bt499.2, bt501.2)))
theorem laws_markMachine.mono : ∀ a0 a1 a2 a3 k, LeO (laws_markMachine.f k a0 a1 a2 a3) (laws_markMachine.f (k + 1) a0 a1 a2 a3) := by
  intro a0 a1 a2 a3 k
  unfold laws_markMachine.f
  exact mo2_ laws_markBoolS.mono laws_markMoveS.mono
set_option maxHeartbeats 8000000 in
set_option maxRecDepth 100000 in
theorem laws_markMachine.calls (k : Nat) (a0_0 : Int) (P0_1_ : Nat → Prop) (u9000_ : Value) (l0_1 : List Bool) (P0_2_ : Nat → Prop) (u9001_ : Value) (l0_2 : List (S78)) (a1 : Int) (r1 : Int) (r2 : List Bool) (r3 : List (S78)) (w0 w : World) (hB : Below w0.heap.size w0 w) (ho0_1 : Kd.R Kd.bool 4 w w0.heap.size P0_1_ u9000_ l0_1) (ho0_2 : Kd.R k78 78 w w0.heap.size P0_2_ u9001_ l0_2) (h : laws_markMachine.f k a0_0 l0_1 l0_2 a1 = some (r1, r2, r3)) :
    Calls Try.prog 21 #[.agg #[.int .i64 a0_0, u9000_, u9001_], .int .i64 a1] w fun e w' => e = .returned (.int .i64 r1) ∧ Kd.R Kd.bool 4 w' w0.heap.size (fun k_ => ((P0_1_ k_ ∨ P0_2_ k_) ∨ w.heap.size ≤ k_)) u9000_ r2 ∧ Kd.R k78 78 w' w0.heap.size (fun k_ => ((P0_1_ k_ ∨ P0_2_ k_) ∨ w.heap.size ≤ k_)) u9001_ r3 ∧ Below w0.heap.size w0 w' ∧ Kept w w' (fun k_ => P0_1_ k_ ∨ P0_2_ k_) := by
  have hu34 := Try.underlying34
  have HO0_1 := Q_ (show Kd.R Kd.bool 4 w w0.heap.size (fun k_ => ((P0_1_ k_ ∨ P0_2_ k_) ∨ w.heap.size ≤ k_)) u9000_ l0_1 from Kd.R_mono ho0_1 (fun k_ hk => (.inl (.inl hk))))
  have HO0_2 := Q_ (show Kd.R k78 78 w w0.heap.size (fun k_ => ((P0_1_ k_ ∨ P0_2_ k_) ∨ w.heap.size ≤ k_)) u9001_ l0_2 from Kd.R_mono ho0_2 (fun k_ hk => (.inl (.inr hk))))
  have HK := Q_ (Kept.refl w (fun k_ => P0_1_ k_ ∨ P0_2_ k_))
  have HW0 := Q_ hB.size
  have HB := Q_ hB
  clear hB
  have H : ((laws_markBoolS.f k l0_1 a1).bind fun bt499 => ((laws_markMoveS.f k l0_2 bt499.1).bind fun bt501 => (some (bt501.1, bt499.2, bt501.2)))) = some (r1, r2, r3) := h
  clear h
  replace H := Option.bind_eq_some_iff.mp H
  obtain ⟨⟨t499, t500⟩, A30, H⟩ := H
  (try dsimp only at H)
  have A3 := Q_ A30
  clear A30
  replace H := Option.bind_eq_some_iff.mp H
  obtain ⟨⟨t501, t502⟩, A40, H⟩ := H
  replace H : (some (t501, t500, t502)) = some (r1, r2, r3) := H
  have A4 := Q_ A40
  clear A40
  simp only [Option.some.injEq, Prod.mk.injEq] at H
  obtain ⟨rfl, rfl, rfl⟩ := H
  obtain ⟨Ao5, co5, eo5⟩ := Kd.R_slice HO0_1.out
  subst eo5
  obtain ⟨Ao6, co6, eo6⟩ := Kd.R_slice HO0_2.out
  subst eo6
  go_enter Try.func21, Try.ntmps21
  go_wp2_with (first | ((with_reducible refine gate_dst (N := 2) rfl ?_); refine box_event ?hg (N := 2) ?hd (cs := #[.int .i64 a0_0, .slice Ao5 l0_1.length co5, .slice Ao6 l0_2.length co6]) (t := 34) ?hr ?_; (case hd => rfl); (case hg => rfl); (case hr => first | (go_simp; done) | (go_simp; rfl)); intro gb498 hg w7 hbox hb; have n0_ := Q_ (Kd.R_below (pr_ HO0_1.out) hb); have n1_ := Q_ (Kd.R_below (pr_ HO0_2.out) hb); have n2_ := Q_ (Kept.below (S := (fun k_ => P0_1_ k_ ∨ P0_2_ k_)) (by repeat (first | (with_reducible first | exact HK.out | apply Kept.alloc | apply Kept.drewN | apply Kept.drew) | exact HK.out)) hb); have n3_ := Q_ (below_step (pb_ HB.out) hb); have n4_ := Q_ (hbox); have n5_ := Q_ ((by rw [hg]; exact (by first | exact HK.out.1 | exact (show Kept w _ (fun k_ => P0_1_ k_ ∨ P0_2_ k_) from by repeat (first | (with_reducible first | exact HK.out | apply Kept.alloc | apply Kept.drewN | apply Kept.drew) | exact HK.out)).1) : w.heap.size ≤ gb498)); have n6_ := Q_ ((by rw [hg]; exact (below_size (pb_ HB.out)) : w0.heap.size ≤ gb498)); clear HO0_1; clear HO0_2; clear HK; clear HB; have HO0_1 := n0_; have HO0_2 := n1_; have HK := n2_; have HB := n3_; have BK498 := n4_; have GW498 := n5_; have GE498 := n6_; clear n0_ n1_ n2_ n3_ n4_ n5_ n6_; clear hb hbox hg; have hcz8 := bc3_ BK498.out) | ((with_reducible refine gate_callee (f := 43) rfl ?_); refine gl_ (some 8) Try.func43 #[.slice Ao5 l0_1.length co5, .int .i64 a1] ?_; (with_reducible refine (laws_markBoolS.calls k (fun k_ => some k_ = (.slice Ao5 l0_1.length co5 : Value).ownBlock) (.slice Ao5 l0_1.length co5) l0_1 a1 t499 t500 w0 _ ?side1 ?side2 A3.out).mono ?_); (case side1 => repeat (first | (with_reducible first | exact HB.out | apply below_alloc | apply pw_below_drewN | apply below_drew1 | refine below_set ?_ GE498.out) | exact HB.out)); (case side2 => exact Kd.R_tight rfl HO0_1.out); rintro e w9 ⟨rfl, hy0, hb, hkp⟩; refine ⟨_, rfl, ?_⟩; have _ := Q_ (Kd.R_reok rfl hy0 (fun k_ e_ => HO0_1.out.1 k_ e_)); have _ := Q_ (Kd.R_mono (ok' := fun k_ => ((P0_1_ k_ ∨ P0_2_ k_) ∨ w.heap.size ≤ k_)) (Kd.R_keptB ((Kd.R_apart' HO0_2.out (Kd.R_typed HO0_1.out) (by decide))) hkp (fun k_ hk_ hs_ => (hk_.2) hs_)) (fun k_ hk_ => hk_.1.1)); have _ := Q_ (blk_kept (pk_ BK498.out) hkp (fun hs_ => (fun e_ => (Kd.R_ne HO0_1.out BK498.out (by decide)) e_) hs_)); have _ := Q_ (Kept.then_ (S := (fun k_ => P0_1_ k_ ∨ P0_2_ k_)) (by repeat (first | (with_reducible first | exact HK.out | apply Kept.alloc | apply Kept.drewN | apply Kept.drew | refine Kept.setCell ?_ (.inr GW498.out) _) | exact HK.out)) hkp (fun k_ hs_ => (fun e_ => (HO0_1.out.1 k_ e_.symm)) hs_)); have _ := Q_ (hb); clear HO0_1 HO0_2 BK498 HK HB; rename_i HO0_1 HO0_2 BK498 HK HB; (try clear hb); (try clear hkp); (try clear hy0); have hcz10 := bc3_ BK498.out) | ((with_reducible refine gate_callee (f := 44) rfl ?_); refine gl_ (some 12) Try.func44 #[.slice Ao6 l0_2.length co6, .int .i64 t499] ?_; (with_reducible refine (laws_markMoveS.calls k (fun k_ => some k_ = (.slice Ao6 l0_2.length co6 : Value).ownBlock) (.slice Ao6 l0_2.length co6) l0_2 t499 t501 t502 w0 _ ?side1 ?side2 A4.out).mono ?_); (case side1 => repeat (first | (with_reducible first | exact HB.out | apply below_alloc | apply pw_below_drewN | apply below_drew1 | refine below_set ?_ GE498.out) | exact HB.out)); (case side2 => exact Kd.R_tight rfl HO0_2.out); rintro e w11 ⟨rfl, hy0, hb, hkp⟩; refine ⟨_, rfl, ?_⟩; have _ := Q_ (Kd.R_mono (ok' := fun k_ => ((P0_1_ k_ ∨ P0_2_ k_) ∨ w.heap.size ≤ k_)) (Kd.R_keptB ((Kd.R_apart' HO0_1.out (Kd.R_typed HO0_2.out) (by decide))) hkp (fun k_ hk_ hs_ => (hk_.2) hs_)) (fun k_ hk_ => hk_.1.1)); have _ := Q_ (Kd.R_reok rfl hy0 (fun k_ e_ => HO0_2.out.1 k_ e_)); have _ := Q_ (blk_kept (pk_ BK498.out) hkp (fun hs_ => (fun e_ => (Kd.R_ne HO0_2.out BK498.out (by decide)) e_) hs_)); have _ := Q_ (Kept.then_ (S := (fun k_ => P0_1_ k_ ∨ P0_2_ k_)) (by repeat (first | (with_reducible first | exact HK.out | apply Kept.alloc | apply Kept.drewN | apply Kept.drew | refine Kept.setCell ?_ (.inr GW498.out) _) | exact HK.out)) hkp (fun k_ hs_ => (fun e_ => (HO0_2.out.1 k_ e_.symm)) hs_)); have _ := Q_ (hb); clear HO0_1 HO0_2 BK498 HK HB; rename_i HO0_1 HO0_2 BK498 HK HB; (try clear hb); (try clear hkp); (try clear hy0)))
  go_ret
  exact ⟨er_, pr_ HO0_1.out, pr_ HO0_2.out, pb1_ HB.out GE498.out, by repeat (first | (with_reducible first | exact HK.out | apply Kept.alloc | apply Kept.drewN | apply Kept.drew | refine Kept.setCell ?_ (.inr GW498.out) _) | exact HK.out)⟩

/-! ### laws_markIntS: function 22 -/
def laws_markIntS.l0 : Nat → List Int → Int → Int → Option (Int × List Int)
  | 0, _, _, _ => none
  | k + 1, x0, x1, x5 => if x5 < (x0.length : Int) then (if 0 ≤ x5 then (laws_markIntS.l0 k (x0.set (x5 : Int).toNat x1) (wrap64 (x1 + 1)) (wrap64 (x5 + 1))) else (none)) else (some (x1, x0))
def laws_markIntS.f (k : Nat) (l0 : List Int) (a1 : Int) : Option (Int × List Int) := laws_markIntS.l0 k l0 a1 0
theorem laws_markIntS.mono_l : ∀ k, (∀ y0 y1 y2, LeO (laws_markIntS.l0 k y0 y1 y2) (laws_markIntS.l0 (k + 1) y0 y1 y2))
  | 0 => fun _ _ _ r h => by simp [laws_markIntS.l0] at h
  | k + 1 => by
    have ih0 := laws_markIntS.mono_l k
    · intro y0 y1 y2
      unfold laws_markIntS.l0
      exact mo1_ ih0
theorem laws_markIntS.mono : ∀ a0 a1 k, LeO (laws_markIntS.f k a0 a1) (laws_markIntS.f (k + 1) a0 a1) := by
  intro a0 a1 k
  have ih0 := laws_markIntS.mono_l k
  unfold laws_markIntS.f
  exact mo1_ ih0
set_option maxHeartbeats 8000000 in
set_option maxRecDepth 100000 in
theorem laws_markIntS.calls (k : Nat) (P0_ : Nat → Prop) (u9000_ : Value) (l0 : List Int) (a1 : Int) (r1 : Int) (r2 : List Int) (w0 w : World) (hB : Below w0.heap.size w0 w) (ho0 : Kd.R (Kd.int .i64) 3 w w0.heap.size P0_ u9000_ l0) (h : laws_markIntS.f k l0 a1 = some (r1, r2)) :
    Calls Try.prog 22 #[u9000_, .int .i64 a1] w fun e w' => e = .returned (.int .i64 r1) ∧ Kd.R (Kd.int .i64) 3 w' w0.heap.size (fun k_ => (P0_ k_ ∨ w.heap.size ≤ k_)) u9000_ r2 ∧ Below w0.heap.size w0 w' ∧ Kept w w' (fun k_ => P0_ k_) := by
  have HO0 := Q_ (show Kd.R (Kd.int .i64) 3 w w0.heap.size (fun k_ => (P0_ k_ ∨ w.heap.size ≤ k_)) u9000_ l0 from Kd.R_mono ho0 (fun k_ hk => (.inl hk)))
  have HK := Q_ (Kept.refl w (fun k_ => P0_ k_))
  have HW0 := Q_ hB.size
  have HB := Q_ hB
  clear hB
  have H : (laws_markIntS.l0 k l0 a1 0) = some (r1, r2) := h
  clear h
  have H' := Q_ H
  clear H
  go_enter Try.func22, Try.ntmps22
  go_wp2
  go_loopg [1, 5] k (fun kq v1 v5 w' => ∃ (x0_1 : List Int) (x1_1 : Int) (x5_1 : Int), v1 = .int .i64 x1_1 ∧ v5 = .int .i64 x5_1 ∧ Aside0 (laws_markIntS.l0 kq x0_1 x1_1 x5_1 = some (r1, r2)) ∧ Aside0 (kq ≤ k) ∧ Aside0 (Kd.R (Kd.int .i64) 3 w' w0.heap.size (fun k_ => (P0_ k_ ∨ w.heap.size ≤ k_)) u9000_ x0_1) ∧ Aside0 (Kept w w' (fun k_ => P0_ k_)) ∧ Aside0 (Below w0.heap.size w0 w'))
  case atStart => exact ⟨(l0), (a1), (0), el_, el_, H', ⟨Nat.le_refl _⟩, ⟨pr_ HO0.out⟩, ⟨by repeat (first | (with_reducible first | exact HK.out | apply Kept.alloc | apply Kept.drewN | apply Kept.drew) | exact HK.out)⟩, ⟨pb_ HB.out⟩⟩
  clear H'
  try clear c2
  try clear p2
  obtain ⟨x0_1, x1_1, x5_1, rfl, rfl, HA, HK1, HO_0, HK, HB⟩ := hrel
  rcases gk with _ | k1
  · exact absurd HA.out (by simp [laws_markIntS.l0])
  have H := HA.out
  clear HA
  simp only [laws_markIntS.l0] at H
  by_cases c3 : x5_1 < (x0_1.length : Int)
  rotate_left
  · rw [if_neg c3] at H
    have c3b0 : decide (x5_1 < (x0_1.length : Int)) = false := decide_eq_false c3
    clear c3
    simp only [Option.some.injEq, Prod.mk.injEq] at H
    obtain ⟨rfl, rfl⟩ := H
    obtain ⟨Ao4, co4, eo4⟩ := Kd.R_slice HO_0.out
    subst eo4
    go_wp2
    go_ret
    exact ⟨er_, pr_ HO_0.out, pb_ HB.out, by repeat (first | (with_reducible first | exact HK.out | apply Kept.alloc | apply Kept.drewN | apply Kept.drew) | exact HK.out)⟩
  rw [if_pos c3] at H
  have c3b0 : decide (x5_1 < (x0_1.length : Int)) = true := decide_eq_true c3
  clear c3
  by_cases c5 : 0 ≤ x5_1
  rotate_left
  · rw [if_neg c5] at H
    exact absurd H (by simp)
  rw [if_pos c5] at H
  have c5b0 : decide (0 ≤ x5_1) = true := decide_eq_true c5
  clear c5
  obtain ⟨y503, hy503⟩ : ∃ y_ : List Int, y_ = (x0_1.set (x5_1 : Int).toNat x1_1) := ⟨_, rfl⟩
  replace H : (laws_markIntS.l0 k1 y503 (wrap64 (x1_1 + 1)) (wrap64 (x5_1 + 1))) = some (r1, r2) := by first | (rw [hy503]; with_reducible exact H) | (have H2_ := (Option.bind_some _ _).symm.trans H; rw [hy503]; with_reducible exact H2_) | (have H2_ := (Option.bind_some _ _).symm.trans H; with_reducible exact H2_) | with_reducible exact H | (rw [hy503]; exact H) | exact H
  have Ny503 := Q_ hy503
  clear hy503
  have H' := Q_ H
  clear H
  obtain ⟨Ao7, co7, eo7⟩ := Kd.R_slice HO_0.out
  subst eo7
  have p6 : 0 ≤ (x5_1 : Int) := dt_
  have q6 : (x5_1 : Int) < ((x0_1.length : Int) : Int) := dt_
  obtain ⟨go6, co6, eo6, gb6, gl6, cl6, HG6⟩ := Kd.R_form HO_0.out (by omega)
  (first | cases eo6 | (injection eo6 with ea_ en_ ec_; (first | subst ea_ | (injection ea_ with ea_; subst ea_)); subst ec_; clear en_))
  have GB6 := Q_ gb6
  have GG6 := Q_ HG6
  clear gb6 gl6 HG6
  have HMgo6 := Q_ (show (P0_ go6 ∨ w.heap.size ≤ go6) from (HO_0.out.1 _ rfl))
  obtain ⟨hx6_0, hf6_0⟩ := Kd.R_celln 0 HO_0.out (x5_1 : Int) p6 q6
  replace p6 := eq_true p6
  replace q6 := eq_true q6
  have HP8 := Kd.R_putg HO_0.out (x5_1 : Int) x1_1
  go_wp2_with (first | ((with_reducible refine gate_store (t := 3) (p := 15) rfl ?_); refine store_event (t := 3) (p := 15) (v := ?vo_w9) (w1 := (wr.setCell ⟨go6, (x5_1 : Int).toNat, none⟩ (.int .i64 x1_1))) ?hg ?ho ?hn ?hr ?_; (case ho => rfl); (case hg => rfl); (case hn => rfl); (case hr => first | (go_simp; done) | (go_simp; rfl)); intro w9 hw; have hg : wr.grownBy w9 (some go6) := (by rw [hw]; exact HP8.2); have hp_ : Kd.R (Kd.int .i64) 3 w9 w0.heap.size (fun k_ => (P0_ k_ ∨ w.heap.size ≤ k_)) (.slice (some ⟨go6, 0, none⟩) x0_1.length co7) y503 := (by rw [hw, Ny503.out]; exact HP8.1); clear HP8; have n0_ := Q_ (hp_); have n1_ := Q_ ((by rw [hw]; exact below_set (HB.out) GB6.out : Below w0.heap.size w0 w9)); have n2_ := Q_ (Kept.of_grown (S := (fun k_ => P0_ k_)) hg (by repeat (first | (with_reducible first | exact HK.out | apply Kept.alloc | apply Kept.drewN | apply Kept.drew) | exact HK.out)) (fun k_ e_ => (HO_0.out.1 k_ e_))); clear HO_0; clear HB; clear HK; have HO_0 := n0_; have HB := n1_; have HK := n2_; clear n0_ n1_ n2_; clear hg hw hp_))
  go_roundg k1
  case measure => have := HK1.out; omega
  case rel => exact ⟨(y503), (wrap64 (x1_1 + 1)), (wrap64 (x5_1 + 1)), el_, el_, H', ⟨by have := HK1.out; omega⟩, ⟨pr_ HO_0.out⟩, ⟨by repeat (first | (with_reducible first | exact HK.out | apply Kept.alloc | apply Kept.drewN | apply Kept.drew) | exact HK.out)⟩, ⟨pb_ HB.out⟩⟩

end Go.Proofs.Ytldcchjbaglppaa.Print
