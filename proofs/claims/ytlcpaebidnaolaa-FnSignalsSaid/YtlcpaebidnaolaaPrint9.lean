-- Written by a program of this session (printx.py) out of the translation; Lean checks it.
import Derived.Test.YtlcpaebidnaolaaPrint0
import Derived.Test.YtlcpaebidnaolaaPrint2
import Derived.Test.YtlcpaebidnaolaaPrint3
import Derived.Test.YtlcpaebidnaolaaPrint6
import Derived.Test.YtlcpaebidnaolaaPrint7
import Derived.Test.YtlcpaebidnaolaaPrint8
namespace Go.Proofs.Ytlcpaebidnaolaa.Print
open Go.RowKit Go.Proofs.YtlcpaebidnaolaaW.PrintWords Go.Proofs.YtlcpaebidnaolaaW.PrintLast Go.Proofs.YtlcpaebidnaolaaW.PrintMore Go.Proofs.Ytlcpaebidnaolaa.Short
attribute [local go_sem] max2_int min2_int max_two min_two max_three min_three max_four min_four   -- for this text's walks alone
set_option linter.unusedVariables false
set_option maxHeartbeats 8000000
set_option maxRecDepth 100000
set_option linter.unusedSimpArgs false

/-! ### spec_LostVersions: function 80 -/
mutual
def spec_LostVersions.l0 : Nat → List (S89) → List Int → List Int → Int → Option (List Int)
 | 0, _, _, _, _ => none
 | k + 1, x0, x1, x5, x6 => if x6 < (x1.length : Int) then ((spec_AreVersions.f k x1).bind fun t354 => (spec_LostVersions.j1 k x0 x1 x5 x6 t354)) else (spec_LostVersions.j1 k x0 x1 x5 x6 false)
def spec_LostVersions.j1 : Nat → List (S89) → List Int → List Int → Int → Bool → Option (List Int)
 | 0, _, _, _, _, _ => none
 | k + 1, x0, x1, x5, x6, x15 => if x15 = true then (if 0 ≤ x6 then (if x6 ≤ (wrap64 (x6 + 1)) then (if (wrap64 (x6 + 1)) ≤ (x1.length : Int) then ((spec_IsOpenPath.f k x0 ((x1.take ((wrap64 (x6 + 1)) : Int).toNat).drop (x6 : Int).toNat)).bind fun t356 => (if t356 = true then (spec_LostVersions.l0 k x0 x1 x5 (wrap64 (x6 + 1))) else (if x6 < (x1.length : Int) then (if x5.length < 17592186044416 then (spec_LostVersions.l0 k x0 x1 (x5 ++ [rd x1 x6]) (wrap64 (x6 + 1))) else (none)) else (none)))) else (none)) else (none)) else (none)) else (some x5)
end
def spec_LostVersions.f (k : Nat) (l0 : List (S89)) (l1 : List Int) : Option (List Int) := spec_LostVersions.l0 k l0 l1 (([] : List Int)) 0
theorem spec_LostVersions.mono_l : ∀ k, (∀ y0 y1 y2 y3, LeO (spec_LostVersions.l0 k y0 y1 y2 y3) (spec_LostVersions.l0 (k + 1) y0 y1 y2 y3)) ∧ (∀ y0 y1 y2 y3 y4, LeO (spec_LostVersions.j1 k y0 y1 y2 y3 y4) (spec_LostVersions.j1 (k + 1) y0 y1 y2 y3 y4))
 | 0 => ⟨fun _ _ _ _ r h => by simp [spec_LostVersions.l0] at h, fun _ _ _ _ _ r h => by simp [spec_LostVersions.j1] at h⟩
 | k + 1 => by
  obtain ⟨ih0, ih1⟩ := spec_LostVersions.mono_l k
  refine ⟨?_, ?_⟩
  ·intro y0 y1 y2 y3
   unfold spec_LostVersions.l0
   exact mo4_ ih0 ih1 spec_AreVersions.mono spec_IsOpenPath.mono
  ·intro y0 y1 y2 y3 y4
   unfold spec_LostVersions.j1
   exact mo4_ ih0 ih1 spec_AreVersions.mono spec_IsOpenPath.mono
theorem spec_LostVersions.mono : ∀ a0 a1 k, LeO (spec_LostVersions.f k a0 a1) (spec_LostVersions.f (k + 1) a0 a1) := by
 intro a0 a1 k
 obtain ⟨ih0, ih1⟩ := spec_LostVersions.mono_l k
 unfold spec_LostVersions.f
 exact mo4_ ih0 ih1 spec_AreVersions.mono spec_IsOpenPath.mono
theorem spec_LostVersions.calls (k : Nat) (A0 : Option Addr) (c0 : Nat) (l0 : List (S89)) (A1 : Option Addr) (c1 : Nat) (l1 : List Int) (r : List Int) (w : World) (hr0 : Kd.C k89 w A0 l0.length l0) (hc0 : l0.length ≤ c0) (hr1 : Kd.C (Kd.int .i64) w A1 l1.length l1) (hc1 : l1.length ≤ c1) (h : spec_LostVersions.f k l0 l1 = some r) :
  Calls Try.prog 80 #[.slice A0 l0.length c0, .slice A1 l1.length c1] w fun e w' => ∃ v0_ : Value, e = .returned (v0_) ∧ Kd.R (Kd.int .i64) 3 w' w.heap.size (fun _ => True) v0_ r ∧ Below w.heap.size w w' := by
 have HR0 := Q_ hr0
 have HC0 := Q_ hc0
 clear hr0 hc0
 have HR1 := Q_ hr1
 have HC1 := Q_ hc1
 clear hr1 hc1
 have HB := Q_ (Below.refl w.heap.size w)
 have H : (spec_LostVersions.l0 k l0 l1 (([] : List Int)) 0) = some r := h
 clear h
 obtain ⟨y351, hy351⟩ : ∃ y_ : List Int, y_ = (([] : List Int)) := ⟨_, rfl⟩
 replace H : (spec_LostVersions.l0 k l0 l1 y351 0) = some r := hb_ hy351 H
 have Ny351 := Q_ hy351
 clear hy351
 have H' := Q_ H
 clear H
 go_enter Try.func80, Try.ntmps80
 go_wp2_with (first | ((with_reducible refine gate_dst (N := 7) rfl ?_); refine Kd.R_lit (Kd.int .i64) _ 3 ?hg (N := 7) ?hd (xs := ([] : List Int)) (inner := []) (ok := fun _ => True) (okp := fun _ => True) ?hr ?hp (fun _ hk => hk) trivial (Below.refl _ _) (Nat.le_refl _) (by simp) ?_; (case hd => rfl); (case hg => rfl); (case hr => first | (go_simp; done) | (go_simp; rfl)); (case hp => exact (Reps.none _ _)); intro v352 w3 ho4 hb hg_ hnew_; clear hg_ hnew_; (first | rw [← Ny351.out] at ho4 | (simp only [Int.reduceToNat] at ho4; rw [← Ny351.out] at ho4)); have _ := Q_ (Kd.R_lower ho4 (below_size (pb_ HB.out))); have _ := Q_ (below_step (pb_ HB.out) hb); clear HB; rename_i HO353 HB; clear hb ho4))
 (try simp only [Act.put, List.setIfInBounds_toArray, List.set_cons_zero, List.set_cons_succ])
 go_loopg [5, 6] k (fun kq v5 v6 w' => ∃ (x5_1 : List Int) (x6_1 : Int), v6 = .int .i64 x6_1 ∧ Aside0 (spec_LostVersions.l0 kq l0 l1 x5_1 x6_1 = some r) ∧ Aside0 (kq ≤ k) ∧ Aside0 (Kd.R (Kd.int .i64) 3 w' w.heap.size (fun _ => True) v5 x5_1) ∧ Aside0 (Below w.heap.size w w'))
 case atStart => exact ⟨(y351), (0), el_, H', ⟨Nat.le_refl _⟩, ⟨pr_ HO353.out⟩, ⟨pb_ HB.out⟩⟩
 clear H'
 try clear c1
 try clear p2
 obtain ⟨x5_1, x6_1, rfl, HA, HK1, HO_5, HB⟩ := hrel
 rcases gk with _ | k1
 ·exact absurd HA.out (by simp [spec_LostVersions.l0])
 have H := HA.out
 clear HA
 simp only [spec_LostVersions.l0] at H
 have HC5 := Q_ H
 clear H
 go_upto_region 3 with (fail)
 go_cut [15] (fun v15 wc => ∃ (kq : Nat) (x15_4 : Bool), v15 = .bool x15_4 ∧ Aside0 (spec_LostVersions.j1 kq l0 l1 x5_1 x6_1 x15_4 = some r) ∧ Aside0 (kq ≤ k1) ∧ Aside0 (Kd.R (Kd.int .i64) 3 wc w.heap.size (fun _ => True) u5 x5_1) ∧ Aside0 (Below w.heap.size w wc))
 case first =>
  have H := HC5.out
  clear HC5
  by_cases c6 : x6_1 < (l1.length : Int)
  rotate_left
  ·rw [if_neg c6] at H
   have c6b0 : decide (x6_1 < (l1.length : Int)) = false := decide_eq_false c6
   clear c6
   (first | rw [c6b0] | (simp only [i64_w, i32_w]; rw [c6b0]) | skip)
   have H' := Q_ H
   clear H
   go_wp2
   go_meet
   case rel => exact ⟨_, (false), el_, H', ⟨by have := HK1.out; first | omega | exact Nat.le_refl _⟩, ⟨pr_ HO_5.out⟩, ⟨pb_ HB.out⟩⟩
  rw [if_pos c6] at H
  have c6b0 : decide (x6_1 < (l1.length : Int)) = true := decide_eq_true c6
  clear c6
  (first | rw [c6b0] | (simp only [i64_w, i32_w]; rw [c6b0]) | skip)
  replace H := Option.bind_eq_some_iff.mp H
  obtain ⟨t354, A70, H⟩ := H
  replace H : (spec_LostVersions.j1 k1 l0 l1 x5_1 x6_1 t354) = some r := H
  have A7 := Q_ A70
  clear A70
  have H' := Q_ H
  clear H
  go_wp2_with (first | (go_at_call 76; (with_reducible refine (spec_AreVersions.calls k1 _ _ l1 t354 _ ?side1 ?side2 A7.out).mono ?_); (case side1 => exact cb_ HR1 HB); (case side2 => exact HC1.out); rintro e w' ⟨rfl, ⟨nd, rfl⟩⟩))
  go_meet
  case rel => exact ⟨_, (t354), el_, H', ⟨by have := HK1.out; first | omega | exact Nat.le_refl _⟩, ⟨pr_ HO_5.out⟩, ⟨pb_ HB.out⟩⟩
 clear HC5
 try clear c1
 try clear p2
 try clear c6
 try clear c6b0
 try clear p2
 obtain ⟨kq, x15_4, rfl, HA, HJ4, HO_5, HB⟩ := hcut
 rcases kq with _ | kj4
 ·exact absurd HA.out (by simp [spec_LostVersions.j1])
 have H := HA.out
 clear HA
 simp only [spec_LostVersions.j1] at H
 by_cases c8 : x15_4 = true
 rotate_left
 ·replace c8 := bf_ c8
  subst c8
  rw [if_neg ff_] at H
  obtain rfl := Option.some.inj H
  go_wp2
  go_ret
  exact ⟨_, er_, pr_ HO_5.out, pb_ HB.out⟩
 subst c8
 rw [if_pos rfl] at H
 by_cases c9 : 0 ≤ x6_1
 rotate_left
 ·rw [if_neg c9] at H
  exact absurd H (by simp)
 rw [if_pos c9] at H
 have c9b0 := eq_true c9
 have c9b1 : decide (0 ≤ x6_1) = true := decide_eq_true c9
 clear c9
 by_cases c10 : x6_1 ≤ (wrap64 (x6_1 + 1))
 rotate_left
 ·rw [if_neg c10] at H
  exact absurd H (by simp)
 rw [if_pos c10] at H
 have c10b0 := eq_true c10
 have c10b1 : decide (x6_1 ≤ (wrap64 (x6_1 + 1))) = true := decide_eq_true c10
 by_cases c11 : (wrap64 (x6_1 + 1)) ≤ (l1.length : Int)
 rotate_left
 ·rw [if_neg c11] at H
  exact absurd H (by simp)
 rw [if_pos c11] at H
 have c11b0 := eq_true c11
 have c11b1 : decide ((wrap64 (x6_1 + 1)) ≤ (l1.length : Int)) = true := decide_eq_true c11
 replace H := Option.bind_eq_some_iff.mp H
 obtain ⟨t356, A120, H⟩ := H
 (try dsimp only at H)
 have A12 := Q_ A120
 clear A120
 have HS_ := Q_ H
 clear H
 obtain ⟨i013, hi013, _, hsz13, _⟩ := info_parts info3
 obtain ⟨A13, hcut13, hA13, hC13⟩ := print_mid_of (P := Try.prog) (Value.int .i64) 0 25 3 .i64 .i64 Try.underlying25 hi013 hsz13 A1 c1 l1 x6_1 (wrap64 (x6_1 + 1)) dt_ (by first | omega | exact dt_) dt_ HC1.out
 have HR355 := Q_ (Kd.C_of_reads (h1 := fun _ => rfl) (hA13 _ (Kd.reads_of_C HR1.out)))
 have HC355 := Q_ hC13
 clear hA13 hC13 hi013 hsz13
 go_upto_if 25 with (first | ((with_reducible refine gate_callee (f := 96) rfl ?_); refine goesL_ (some 24) rfl rfl Try.func96 (by kernel_rfl) rfl #[.slice A0 l0.length c0, .slice A13 ((l1.take ((wrap64 (x6_1 + 1)) : Int).toNat).drop (x6_1 : Int).toNat).length (c1 - x6_1.toNat)] rfl (by (try simp only [List.map_toArray, List.map_cons, List.map_nil]); first | done | (rw [show ((l1.take ((wrap64 (x6_1 + 1)) : Int).toNat).drop (x6_1 : Int).toNat).length = ((wrap64 (x6_1 + 1)).toNat - x6_1.toNat) from (by rw [List.length_drop, List.length_take]; have h_ : ((wrap64 (x6_1 + 1)) : Int) ≤ (l1.length : Int) := dt_; omega)] <;> rfl) | rfl | (simp only [List.length_drop, List.length_take]; rfl)) ?_; (with_reducible refine (spec_IsOpenPath.calls kj4 _ _ l0 _ _ ((l1.take ((wrap64 (x6_1 + 1)) : Int).toNat).drop (x6_1 : Int).toNat) t356 _ ?side1 ?side2 ?side3 ?side4 A12.out).mono ?_); (case side1 => exact cb_ HR0 HB); (case side2 => exact HC0.out); (case side3 => exact cb_ HR355 HB); (case side4 => exact HC355.out); rintro e w14 ⟨rfl, hb⟩; refine ⟨_, rfl, ?_⟩; have _ := Q_ (Kd.R_below (pr_ HO_5.out) hb); have _ := Q_ (below_step (pb_ HB.out) hb); clear HO_5 HB; rename_i HO_5 HB; (try clear hb); (try clear hb2); (try clear hk); (try clear hi)))
 (try simp only [Act.put, List.setIfInBounds_toArray, List.set_cons_zero, List.set_cons_succ])
 have H := HS_.out
 clear HS_
 by_cases c15 : t356 = true
 ·subst c15
  rw [if_pos rfl] at H
  have H' := Q_ H
  clear H
  go_wp2
  go_roundg kj4
  case measure => have := HK1.out; have := HJ4.out; omega
  case rel => exact ⟨(x5_1), (wrap64 (x6_1 + 1)), el_, H', ⟨by have := HK1.out; have := HJ4.out; omega⟩, ⟨pr_ HO_5.out⟩, ⟨pb_ HB.out⟩⟩
 replace c15 := bf_ c15
 subst c15
 rw [if_neg ff_] at H
 by_cases c16 : x6_1 < (l1.length : Int)
 rotate_left
 ·rw [if_neg c16] at H
  exact absurd H (by simp)
 rw [if_pos c16] at H
 have c16b0 : decide (x6_1 < (l1.length : Int)) = true := decide_eq_true c16
 clear c16
 (first | rw [c16b0] | (simp only [i64_w, i32_w]; rw [c16b0]) | skip)
 by_cases c17 : x5_1.length < 17592186044416
 rotate_left
 ·rw [if_neg c17] at H
  exact absurd H (by simp)
 rw [if_pos c17] at H
 have LMc17 := Q_ c17
 clear c17
 obtain ⟨y358, hy358⟩ : ∃ y_ : List Int, y_ = (x5_1 ++ [rd l1 x6_1]) := ⟨_, rfl⟩
 replace H : (spec_LostVersions.l0 kj4 l0 l1 y358 (wrap64 (x6_1 + 1))) = some r := hb_ hy358 H
 have Ny358 := Q_ hy358
 clear hy358
 have H' := Q_ H
 clear H
 have p357 : 0 ≤ (x6_1 : Int) := dt_
 have q357 : x6_1 < (l1.length : Int) := dt_
 obtain ⟨ad357, e357, hx357_0⟩ := Kd.at_int HR1.out x6_1 p357 q357
 cases e357
 replace hx357_0 := bt_ HB hx357_0
 replace p357 := eq_true p357
 replace q357 := eq_true q357
 go_wp2_with (first | ((with_reducible refine gate_builtin (b := .append) (xs := #[.tmp 26, .tmp 31]) rfl ?_); at_builtin; refine Kd.R_append (Kd.int .i64) (w0 := w) w.heap.size rfl (.tmp 26) (.tmp 31) 25 3 (.int .i64 0) 8 rfl Try.underlying25 info3 rfl (by decide) (by omega) u5 x5_1 (rd l1 x6_1) [.int .i64 (rd l1 x6_1)] (fun _ => True) (fun _ => False) rfl rfl ?aP (fun _ hk => hk.elim) ?aF ?aO ?aB ?aS ?aL ?_; (case aP => exact rfl); (case aB => exact (pb_ HB.out)); (case aF => exact (fun _ _ => trivial)); (case aO => exact (pr_ HO_5.out)); (case aS => exact (below_size (pb_ HB.out))); (case aL => have := LMc17.out; omega); intro v359 w18 ho hb hg hat; rw [← Ny358.out] at ho; have _ := Q_ (hb); have _ := Q_ (ho); clear HB HO_5; rename_i HB HO360; clear ho hb hg hat))
 go_roundg kj4
 case measure => have := HK1.out; have := HJ4.out; omega
 case rel => exact ⟨(y358), (wrap64 (x6_1 + 1)), el_, H', ⟨by have := HK1.out; have := HJ4.out; omega⟩, ⟨pr_ HO360.out⟩, ⟨pb_ HB.out⟩⟩

/-! ### spec_LostTags: function 81 -/
mutual
def spec_LostTags.j0 : Nat → List (S89) → List Int → List (S113) → List Int → Bool → Option (List Int)
 | 0, _, _, _, _, _ => none
 | k + 1, x0, x1, x2, x7, x21 => if x21 = true then (some x7) else (spec_LostTags.l0 k x0 x1 x2 x7 0)
def spec_LostTags.l0 : Nat → List (S89) → List Int → List (S113) → List Int → Int → Option (List Int)
 | 0, _, _, _, _, _ => none
 | k + 1, x0, x1, x2, x7, x8 => if x8 < (x2.length : Int) then (if 1 ≤ (x1.length : Int) then ((spec_PlainHello.f (x1.take 1)).bind fun bt367 => (if 0 ≤ x8 then (if x8 ≤ (wrap64 (x8 + 1)) then (if (wrap64 (x8 + 1)) ≤ (x2.length : Int) then ((some ((x2.take ((wrap64 (x8 + 1)) : Int).toNat).drop (x8 : Int).toNat : List (S113))).bind fun y374 => ((spec_PassPath.f k x0 bt367.1 y374).bind fun bt378 => (if bt378.2.2 = true then ((spec_EqualExts.f k bt378.2.1 y374).bind fun t386 => (if t386 = true then (spec_LostTags.l0 k x0 x1 x2 x7 (wrap64 (x8 + 1))) else (if x7.length < 17592186044416 then (spec_LostTags.l0 k x0 x1 x2 (x7 ++ [(rd_T113 x2 x8).f0]) (wrap64 (x8 + 1))) else (none)))) else (if x7.length < 17592186044416 then (spec_LostTags.l0 k x0 x1 x2 (x7 ++ [(rd_T113 x2 x8).f0]) (wrap64 (x8 + 1))) else (none))))) else (none)) else (none)) else (none))) else (none)) else (some x7)
end
def spec_LostTags.f (k : Nat) (l0 : List (S89)) (l1 : List Int) (l2 : List (S113)) : Option (List Int) := (some (([] : List Int) : List Int)).bind fun y361 => ((spec_AreExts.f k l2).bind fun t364 => (if t364 = true then ((spec_IsOpenPath.f k l0 l1).bind fun t365 => (spec_LostTags.j0 k l0 l1 l2 y361 (!t365))) else (spec_LostTags.j0 k l0 l1 l2 y361 true)))
theorem spec_LostTags.mono_l : ∀ k, (∀ y0 y1 y2 y3 y4, LeO (spec_LostTags.j0 k y0 y1 y2 y3 y4) (spec_LostTags.j0 (k + 1) y0 y1 y2 y3 y4)) ∧ (∀ y0 y1 y2 y3 y4, LeO (spec_LostTags.l0 k y0 y1 y2 y3 y4) (spec_LostTags.l0 (k + 1) y0 y1 y2 y3 y4))
 | 0 => ⟨fun _ _ _ _ _ r h => by simp [spec_LostTags.j0] at h, fun _ _ _ _ _ r h => by simp [spec_LostTags.l0] at h⟩
 | k + 1 => by
  obtain ⟨ih0, ih1⟩ := spec_LostTags.mono_l k
  refine ⟨?_, ?_⟩
  ·intro y0 y1 y2 y3 y4
   unfold spec_LostTags.j0
   exact mo6_ ih0 ih1 spec_AreExts.mono spec_EqualExts.mono spec_IsOpenPath.mono spec_PassPath.mono
  ·intro y0 y1 y2 y3 y4
   unfold spec_LostTags.l0
   exact mo6_ ih0 ih1 spec_AreExts.mono spec_EqualExts.mono spec_IsOpenPath.mono spec_PassPath.mono
theorem spec_LostTags.mono : ∀ a0 a1 a2 k, LeO (spec_LostTags.f k a0 a1 a2) (spec_LostTags.f (k + 1) a0 a1 a2) := by
 intro a0 a1 a2 k
 obtain ⟨ih0, ih1⟩ := spec_LostTags.mono_l k
 unfold spec_LostTags.f
 exact mo6_ ih0 ih1 spec_AreExts.mono spec_EqualExts.mono spec_IsOpenPath.mono spec_PassPath.mono
theorem spec_LostTags.calls (k : Nat) (A0 : Option Addr) (c0 : Nat) (l0 : List (S89)) (A1 : Option Addr) (c1 : Nat) (l1 : List Int) (A2 : Option Addr) (c2 : Nat) (l2 : List (S113)) (r : List Int) (w : World) (hr0 : Kd.C k89 w A0 l0.length l0) (hc0 : l0.length ≤ c0) (hr1 : Kd.C (Kd.int .i64) w A1 l1.length l1) (hc1 : l1.length ≤ c1) (hr2 : Kd.C k113 w A2 l2.length l2) (hc2 : l2.length ≤ c2) (h : spec_LostTags.f k l0 l1 l2 = some r) :
  Calls Try.prog 81 #[.slice A0 l0.length c0, .slice A1 l1.length c1, .slice A2 l2.length c2] w fun e w' => ∃ v0_ : Value, e = .returned (v0_) ∧ Kd.R (Kd.int .i64) 3 w' w.heap.size (fun _ => True) v0_ r ∧ Below w.heap.size w w' := by
 have hu71 := Try.underlying71
 have HR0 := Q_ hr0
 have HC0 := Q_ hc0
 clear hr0 hc0
 have HR1 := Q_ hr1
 have HC1 := Q_ hc1
 clear hr1 hc1
 have HR2 := Q_ hr2
 have HC2 := Q_ hc2
 clear hr2 hc2
 have HB := Q_ (Below.refl w.heap.size w)
 have H : ((some (([] : List Int) : List Int)).bind fun y361 => ((spec_AreExts.f k l2).bind fun t364 => (if t364 = true then ((spec_IsOpenPath.f k l0 l1).bind fun t365 => (spec_LostTags.j0 k l0 l1 l2 y361 (!t365))) else (spec_LostTags.j0 k l0 l1 l2 y361 true)))) = some r := h
 clear h
 obtain ⟨y361, hy361⟩ : ∃ y_ : List Int, y_ = (([] : List Int)) := ⟨_, rfl⟩
 replace H : ((spec_AreExts.f k l2).bind fun t364 => (if t364 = true then ((spec_IsOpenPath.f k l0 l1).bind fun t365 => (spec_LostTags.j0 k l0 l1 l2 y361 (!t365))) else (spec_LostTags.j0 k l0 l1 l2 y361 true))) = some r := hb_ hy361 H
 have Ny361 := Q_ hy361
 clear hy361
 have HC4 := Q_ H
 clear H
 go_enter Try.func81, Try.ntmps81
 go_upto_region 2 with (first | ((with_reducible refine gate_dst (N := 12) rfl ?_); refine Kd.R_lit (Kd.int .i64) _ 3 ?hg (N := 12) ?hd (xs := ([] : List Int)) (inner := []) (ok := fun _ => True) (okp := fun _ => True) ?hr ?hp (fun _ hk => hk) trivial (Below.refl _ _) (Nat.le_refl _) (by simp) ?_; (case hd => rfl); (case hg => rfl); (case hr => first | (go_simp; done) | (go_simp; rfl)); (case hp => exact (Reps.none _ _)); intro v362 w5 ho6 hb hg_ hnew_; clear hg_ hnew_; (first | rw [← Ny361.out] at ho6 | (simp only [Int.reduceToNat] at ho6; rw [← Ny361.out] at ho6)); have _ := Q_ (Kd.R_lower ho6 (below_size (pb_ HB.out))); have _ := Q_ (below_step (pb_ HB.out) hb); clear HB; rename_i HO363 HB; clear hb ho6))
 (try simp only [Act.put, List.setIfInBounds_toArray, List.set_cons_zero, List.set_cons_succ])
 go_cut [21] (fun v21 wc => ∃ (kq : Nat) (x21_3 : Bool), v21 = .bool x21_3 ∧ Aside0 (spec_LostTags.j0 kq l0 l1 l2 y361 x21_3 = some r) ∧ Aside0 (kq ≤ k) ∧ Aside0 (Kd.R (Kd.int .i64) 3 wc w.heap.size (fun _ => True) v362 y361) ∧ Aside0 (Below w.heap.size w wc))
 case first =>
  have H := HC4.out
  clear HC4
  replace H := Option.bind_eq_some_iff.mp H
  obtain ⟨t364, A70, H⟩ := H
  (try dsimp only at H)
  have A7 := Q_ A70
  clear A70
  by_cases c8 : t364 = true
  rotate_left
  ·replace c8 := bf_ c8
   subst c8
   rw [if_neg ff_] at H
   have H' := Q_ H
   clear H
   go_wp2_with (first | ((with_reducible refine gate_callee (f := 77) rfl ?_); refine gl_ (some 14) Try.func77 #[.slice A2 l2.length c2] ?_; (with_reducible refine (spec_AreExts.calls k _ _ l2 false _ ?side1 ?side2 A7.out).mono ?_); (case side1 => exact cb_ HR2 HB); (case side2 => exact HC2.out); rintro e w' ⟨rfl, ⟨nd, rfl⟩⟩; refine ⟨_, rfl, ?_⟩))
   go_meet
   case rel => exact ⟨_, (true), el_, H', ⟨by first | omega | exact Nat.le_refl _⟩, ⟨pr_ HO363.out⟩, ⟨pb_ HB.out⟩⟩
  subst c8
  rw [if_pos rfl] at H
  replace H := Option.bind_eq_some_iff.mp H
  obtain ⟨t365, A90, H⟩ := H
  replace H : (spec_LostTags.j0 k l0 l1 l2 y361 (!t365)) = some r := H
  have A9 := Q_ A90
  clear A90
  have H' := Q_ H
  clear H
  go_wp2_with (first | ((with_reducible refine gate_callee (f := 77) rfl ?_); refine gl_ (some 14) Try.func77 #[.slice A2 l2.length c2] ?_; (with_reducible refine (spec_AreExts.calls k _ _ l2 true _ ?side1 ?side2 A7.out).mono ?_); (case side1 => exact cb_ HR2 HB); (case side2 => exact HC2.out); rintro e w' ⟨rfl, ⟨nd, rfl⟩⟩; refine ⟨_, rfl, ?_⟩) | (go_at_call 96; (with_reducible refine (spec_IsOpenPath.calls k _ _ l0 _ _ l1 t365 _ ?side1 ?side2 ?side3 ?side4 A9.out).mono ?_); (case side1 => exact pc_ (Kd.C_below HR0.out (pb_ HB.out))); (case side2 => exact HC0.out); (case side3 => exact pc_ (Kd.C_below HR1.out (pb_ HB.out))); (case side4 => exact HC1.out); rintro e w10 ⟨rfl, hb⟩; have _ := Q_ (Kd.R_below (pr_ HO363.out) hb); have _ := Q_ (below_step (pb_ HB.out) hb); clear HO363 HB; rename_i HO363 HB; (try clear hb); (try clear hb2); (try clear hk); (try clear hi)))
  go_meet
  case rel => exact ⟨_, (!t365), el_, H', ⟨by first | omega | exact Nat.le_refl _⟩, ⟨pr_ HO363.out⟩, ⟨pb_ HB.out⟩⟩
 clear HC4
 try clear c1
 try clear c2
 try clear p2
 try clear c7
 try clear c8
 obtain ⟨kq, x21_3, rfl, HA, HJ3, HO_7, HB⟩ := hcut
 rcases kq with _ | kj3
 ·exact absurd HA.out (by simp [spec_LostTags.j0])
 have H := HA.out
 clear HA
 simp only [spec_LostTags.j0] at H
 by_cases c11 : x21_3 = true
 rotate_left
 ·replace c11 := bf_ c11
  subst c11
  rw [if_neg ff_] at H
  have H' := Q_ H
  clear H
  go_wp2
  go_loopg [7, 8] kj3 (fun kq v7 v8 w' => ∃ (x7_2 : List Int) (x8_2 : Int), v8 = .int .i64 x8_2 ∧ Aside0 (spec_LostTags.l0 kq l0 l1 l2 x7_2 x8_2 = some r) ∧ Aside0 (kq ≤ kj3) ∧ Aside0 (Kd.R (Kd.int .i64) 3 w' w.heap.size (fun _ => True) v7 x7_2) ∧ Aside0 (Below w.heap.size w w'))
  case atStart => exact ⟨(y361), (0), el_, H', ⟨Nat.le_refl _⟩, ⟨pr_ HO_7.out⟩, ⟨pb_ HB.out⟩⟩
  clear H'
  try clear c1
  try clear c2
  try clear p2
  try clear c7
  try clear c8
  try clear c11
  try clear p2
  obtain ⟨x7_2, x8_2, rfl, HA, HK2, HO_7, HB⟩ := hrel
  rcases gk with _ | k2
  ·exact absurd HA.out (by simp [spec_LostTags.l0])
  have H := HA.out
  clear HA
  simp only [spec_LostTags.l0] at H
  by_cases c12 : x8_2 < (l2.length : Int)
  rotate_left
  ·rw [if_neg c12] at H
   have c12b0 : decide (x8_2 < (l2.length : Int)) = false := decide_eq_false c12
   clear c12
   obtain rfl := Option.some.inj H
   go_wp2
   go_ret
   exact ⟨_, er_, pr_ HO_7.out, pb_ HB.out⟩
  rw [if_pos c12] at H
  have c12b0 : decide (x8_2 < (l2.length : Int)) = true := decide_eq_true c12
  clear c12
  by_cases c13 : 1 ≤ (l1.length : Int)
  rotate_left
  ·rw [if_neg c13] at H
   exact absurd H (by simp)
  rw [if_pos c13] at H
  have c13b0 := eq_true c13
  have c13b1 : decide (1 ≤ (l1.length : Int)) = true := decide_eq_true c13
  clear c13
  replace H := Option.bind_eq_some_iff.mp H
  obtain ⟨⟨t367, t370⟩, A140, H⟩ := H
  (try dsimp only at H)
  have A14 := Q_ A140
  clear A140
  have HS_ := Q_ H
  clear H
  obtain ⟨i015, hi015, _, hsz15, _⟩ := info_parts info3
  obtain ⟨hcut15, hA15, hC15⟩ := print_take_of (P := Try.prog) (Value.int .i64) 0 25 3 .i64 Try.underlying25 hi015 hsz15 A1 c1 l1 1 (by omega) dt_ HC1.out
  have HR366 := Q_ (Kd.C_of_reads (h1 := fun _ => rfl) (hA15 _ (Kd.reads_of_C HR1.out)))
  have HC366 := Q_ hC15
  clear hA15 hC15 hi015 hsz15
  go_upto_region 8 with (first | ((with_reducible refine gate_callee (f := 97) rfl ?_); refine goesL_ (some 31) rfl rfl Try.func97 (by kernel_rfl) rfl #[.slice A1 (l1.take 1).length c1] rfl (by (try simp only [List.map_toArray, List.map_cons, List.map_nil]); first | done | (rw [show (l1.take 1).length = 1 from (by rw [List.length_take]; have h_ : (1 : Int) ≤ (l1.length : Int) := dt_; omega)] <;> rfl) | rfl | (simp only [List.length_drop, List.length_take]; rfl)) ?_; (with_reducible refine (spec_PlainHello.calls _ _ (l1.take 1) t367 t370 _ ?side1 ?side2 A14.out).mono ?_); (case side1 => exact cb_ HR366 HB); (case side2 => exact HC366.out); rintro e w16 ⟨v368, v371, rfl, ho0, ho1, hb⟩; refine ⟨_, rfl, ?_⟩; have _ := Q_ (Kd.R_elder' (pr_ HO_7.out) (Kd.R_base ho0) hb); have _ := Q_ (Kd.R_lower (Kd.R_new' ho0 (Kd.R_lt (pr_ HO_7.out))) (below_size (pb_ HB.out))); have _ := Q_ (Kd.S_lower (Kd.S_new' ho1 (Kd.R_lt (pr_ HO_7.out))) (below_size (pb_ HB.out))); have _ := Q_ (below_step (pb_ HB.out) hb); clear HO_7 HB; rename_i HO_7 HO369 HO372 HB; (try clear hb); (try clear hb2); (try clear hk); (try clear hi); (try clear ho0); (try clear ho1)) | ((with_reducible refine gate_dst (N := 9) rfl ?_); refine box_event ?hg (N := 9) ?hd (cs := #[.slice none 0 0, .slice none 0 0]) (t := 71) ?hr ?_; (case hd => rfl); (case hg => rfl); (case hr => first | (go_simp; done) | (go_simp; rfl)); intro gb373 hg w17 hbox hb; have _ := Q_ (Kd.R_below (pr_ HO_7.out) hb); have _ := Q_ (Kd.R_below (pr_ HO369.out) hb); have _ := Q_ (Kd.S_below (ps_ HO372.out) hb); have _ := Q_ (below_step (pb_ HB.out) hb); have BK373 := Q_ (hbox); have GW373 := Q_ ((by rw [hg]; exact (below_size (pb_ HB.out)) : w.heap.size ≤ gb373)); have GE373 := GW373; clear HO_7 HO369 HO372 HB; rename_i HO_7 HO369 HO372 HB; clear hb hbox hg; obtain ⟨Ao18, co18, eo18⟩ := Kd.R_slice HO369.out; subst eo18; have hcz19 := bc2_ BK373.out; obtain ⟨Ao20, co20, eo20⟩ := Kd.S_slice HO372.out; subst eo20))
  (try simp only [Act.put, List.setIfInBounds_toArray, List.set_cons_zero, List.set_cons_succ])
  have H := HS_.out
  clear HS_
  by_cases c21 : 0 ≤ x8_2
  rotate_left
  ·rw [if_neg c21] at H
   exact absurd H (by simp)
  rw [if_pos c21] at H
  have c21b0 := eq_true c21
  have c21b1 : decide (0 ≤ x8_2) = true := decide_eq_true c21
  clear c21
  by_cases c22 : x8_2 ≤ (wrap64 (x8_2 + 1))
  rotate_left
  ·rw [if_neg c22] at H
   exact absurd H (by simp)
  rw [if_pos c22] at H
  have c22b0 := eq_true c22
  have c22b1 : decide (x8_2 ≤ (wrap64 (x8_2 + 1))) = true := decide_eq_true c22
  by_cases c23 : (wrap64 (x8_2 + 1)) ≤ (l2.length : Int)
  rotate_left
  ·rw [if_neg c23] at H
   exact absurd H (by simp)
  rw [if_pos c23] at H
  have c23b0 := eq_true c23
  have c23b1 : decide ((wrap64 (x8_2 + 1)) ≤ (l2.length : Int)) = true := decide_eq_true c23
  obtain ⟨y374, hy374⟩ : ∃ y_ : List (S113), y_ = ((l2.take ((wrap64 (x8_2 + 1)) : Int).toNat).drop (x8_2 : Int).toNat) := ⟨_, rfl⟩
  replace H : ((spec_PassPath.f k2 l0 t367 y374).bind fun bt378 => (if bt378.2.2 = true then ((spec_EqualExts.f k2 bt378.2.1 y374).bind fun t386 => (if t386 = true then (spec_LostTags.l0 k2 l0 l1 l2 x7_2 (wrap64 (x8_2 + 1))) else (if x7_2.length < 17592186044416 then (spec_LostTags.l0 k2 l0 l1 l2 (x7_2 ++ [(rd_T113 l2 x8_2).f0]) (wrap64 (x8_2 + 1))) else (none)))) else (if x7_2.length < 17592186044416 then (spec_LostTags.l0 k2 l0 l1 l2 (x7_2 ++ [(rd_T113 l2 x8_2).f0]) (wrap64 (x8_2 + 1))) else (none)))) = some r := hb_ hy374 H
  have Ny374 := Q_ hy374
  clear hy374
  replace H := Option.bind_eq_some_iff.mp H
  obtain ⟨⟨t378, t381, t384⟩, A240, H⟩ := H
  (try dsimp only at H)
  have A24 := Q_ A240
  clear A240
  have HS_ := Q_ H
  clear H
  have n0_ : Aside0 (Kd.R (Kd.int .i64) 3 ((w17.setCell ⟨gb373, 0, none⟩ (.slice Ao18 t367.length co18)).setCell ⟨gb373, 1, none⟩ (.slice Ao20 t370.length co20)) w.heap.size (fun k_ => some k_ ≠ (.slice Ao18 t367.length co18 : Value).ownBlock) u7 x7_2) := ⟨pr_ (Kd.R_mono (Kd.R_far (p := ⟨gb373, 1, none⟩) (Kd.R_far (p := ⟨gb373, 0, none⟩) (Kd.R_types HO_7.out BK373.out (by decide)) (fun _ hk => hk.2) (.slice Ao18 t367.length co18)) (fun _ hk => hk.2) (.slice Ao20 t370.length co20)) (fun _ hk => hk.1.2))⟩
  have n1_ : Aside0 (Kd.R (Kd.int .i64) 3 ((w17.setCell ⟨gb373, 0, none⟩ (.slice Ao18 t367.length co18)).setCell ⟨gb373, 1, none⟩ (.slice Ao20 t370.length co20)) w.heap.size (fun k_ => some k_ ≠ (u7 : Value).ownBlock) (.slice Ao18 t367.length co18) t367) := ⟨pr_ (Kd.R_mono (Kd.R_far (p := ⟨gb373, 1, none⟩) (Kd.R_far (p := ⟨gb373, 0, none⟩) (Kd.R_types HO369.out BK373.out (by decide)) (fun _ hk => hk.2) (.slice Ao18 t367.length co18)) (fun _ hk => hk.2) (.slice Ao20 t370.length co20)) (fun _ hk => hk.1.2))⟩
  have n2_ : Aside0 (Kd.S k113 113 ((w17.setCell ⟨gb373, 0, none⟩ (.slice Ao18 t367.length co18)).setCell ⟨gb373, 1, none⟩ (.slice Ao20 t370.length co20)) w.heap.size (fun k_ => some k_ ≠ (u7 : Value).ownBlock ∧ some k_ ≠ (.slice Ao18 t367.length co18 : Value).ownBlock) (.slice Ao20 t370.length co20) t370) := ⟨by (with_reducible repeat (first | apply Kd.S_alloc | apply Kd.S_drewN | apply Kd.S_drew)); exact Kd.S_mono (Kd.S_far (p := ⟨gb373, 1, none⟩) (Kd.S_far (p := ⟨gb373, 0, none⟩) (Kd.S_types HO372.out BK373.out (by decide)) (fun _ hk => hk.2) (.slice Ao18 t367.length co18)) (fun _ hk => hk.2) (.slice Ao20 t370.length co20)) (fun _ hk => ⟨hk.1.2, hk.1.1⟩)⟩
  have n3_ : Aside0 (((w17.setCell ⟨gb373, 0, none⟩ (.slice Ao18 t367.length co18)).setCell ⟨gb373, 1, none⟩ (.slice Ao20 t370.length co20)).heap[gb373]? = some (.cells #[.slice Ao18 t367.length co18, .slice Ao20 t370.length co20] 71 (0, 0))) := ⟨pp_ BK373.out⟩
  have n4_ : Aside0 (Below w.heap.size w ((w17.setCell ⟨gb373, 0, none⟩ (.slice Ao18 t367.length co18)).setCell ⟨gb373, 1, none⟩ (.slice Ao20 t370.length co20))) := ⟨pb1_ HB.out GE373.out⟩
  (try clear HO_7)
  (try clear HO369)
  (try clear HO372)
  (try clear BK373)
  (try clear HB)
  generalize ((w17.setCell ⟨gb373, 0, none⟩ (.slice Ao18 t367.length co18)).setCell ⟨gb373, 1, none⟩ (.slice Ao20 t370.length co20)) = w26 at n0_ n1_ n2_ n3_ n4_ ⊢
  (try (rw [show w26.drewN nd = w26.drewN nd from rfl]; replace n0_ := Q_ (Kd.R_drewN n0_.out nd); replace n1_ := Q_ (Kd.R_drewN n1_.out nd); replace n2_ := Q_ (Kd.S_drewN n2_.out nd); replace n3_ := Q_ (blk_drewN n3_.out nd); replace n4_ := Q_ (pw_below_drewN n4_.out nd); generalize w26.drewN nd = w26 at n0_ n1_ n2_ n3_ n4_ ⊢))
  have HO_7 := n0_
  have HO369 := n1_
  have HO372 := n2_
  have BK373 := n3_
  have HB := n4_
  clear n0_ n1_ n2_ n3_ n4_
  have q25 : ((wrap64 (x8_2 + 1)) : Int) ≤ ((l2.length : Int) : Int) := dt_
  obtain ⟨i025, hi025, _, hsz25, _⟩ := info_parts info113
  have hroom25 : l2.length ≤ c2 := HC2.out
  have hC25 : Kd.C k113 _ A2 l2.length l2 := HR2.out
  have ql25 : (x8_2 : Int) ≤ ((wrap64 (x8_2 + 1)) : Int) := dt_
  have q025 : (0 : Int) ≤ (x8_2 : Int) := dt_
  have hcut25 := cut_mid (P := Try.prog) 69 113 .i64 .i64 Try.underlying69 hi025 2 hsz25 A2 l2.length c2 x8_2 (wrap64 (x8_2 + 1)) q025 ql25 q25 hroom25
  have hr25 := Kd.C_mid (lo := (x8_2 : Int).toNat) (hi := ((wrap64 (x8_2 + 1)) : Int).toNat) (c := c2) hC25 (by omega) (by omega) hroom25
  obtain ⟨A25, hA25⟩ : ∃ A1, A1 = (if c2 = (x8_2 : Int).toNat then A2 else (A2 : Option Addr).map (·.add ((x8_2 : Int).toNat * 2))) := ⟨_, rfl⟩
  obtain ⟨c25, hc25⟩ : ∃ c1, c1 = c2 - (x8_2 : Int).toNat := ⟨_, rfl⟩
  have hy25 : y374.length = ((wrap64 (x8_2 + 1)) : Int).toNat - (x8_2 : Int).toNat := (by rw [Ny374.out, List.length_drop, List.length_take] <;> omega)
  rw [show ((l2).take ((wrap64 (x8_2 + 1)) : Int).toNat).drop (x8_2 : Int).toNat = y374 from Ny374.out.symm] at hr25
  replace hr25 : Kd.C k113 _ A25 y374.length y374 := (by rw [hA25]; exact hr25)
  rw [← hy25, ← hA25, ← hc25] at hcut25
  have HR377 := Q_ hr25
  have HC377 := Q_ (show y374.length ≤ c25 from by rw [hy25, hc25]; exact Nat.sub_le_sub_right (Nat.le_trans (by omega) hroom25) _)
  clear hr25 hC25 hroom25 hi025 hsz25 hc25
  have KY25 := Q_ hy25
  have KA25 := Q_ hA25
  clear hy25 hA25
  replace q25 := eq_true q25
  have hcz27 := bc2_ BK373.out
  go_upto_region 10 with (first | ((with_reducible refine gate_callee (f := 63) rfl ?_); refine gl_ (some 41) Try.func63 #[.slice A0 l0.length c0, .agg #[.slice Ao18 t367.length co18, .slice A25 y374.length c25]] ?_; (with_reducible refine (spec_PassPath.calls k2 _ _ l0 _ _ t367 _ _ y374 t378 t381 t384 _ ?side1 ?side2 ?side3 ?side4 ?side5 ?side6 A24.out).mono ?_); (case side1 => exact Kd.C_below HR0.out (pb1_ HB.out GE373.out)); (case side2 => exact HC0.out); (case side3 => refine (Kd.R_reads' (e := 3) (base := w.heap.size) (ok := fun k_ => some k_ ≠ (u7 : Value).ownBlock) (n := t367.length) (c := co18) ?_).2.2; exact (pr_ (Kd.R_mono (Kd.R_far (p := ⟨gb373, 1, none⟩) (Kd.R_types HO369.out BK373.out (by decide)) (fun _ hk => hk.2) (.slice A25 y374.length c25)) (fun _ h_ => h_.1)))); (case side4 => exact (Kd.R_reads' HO369.out).2.1); (case side5 => exact Kd.C_below HR377.out (pb1_ HB.out GE373.out)); (case side6 => exact HC377.out); rintro e w28 ⟨v379, v382, rfl, ho0, ho1, hb⟩; refine ⟨_, rfl, ?_⟩; have _ := Q_ (Kd.R_elder' (pr_ (Kd.R_mono (Kd.R_far (p := ⟨gb373, 1, none⟩) (Kd.R_types HO_7.out BK373.out (by decide)) (fun _ hk => hk.2) (.slice A25 y374.length c25)) (fun _ h_ => h_.1))) (Kd.R_base ho0) hb); have _ := Q_ (Kd.R_elder' (pr_ (Kd.R_mono (Kd.R_far (p := ⟨gb373, 1, none⟩) (Kd.R_types HO369.out BK373.out (by decide)) (fun _ hk => hk.2) (.slice A25 y374.length c25)) (fun _ h_ => h_.1))) (Kd.R_base ho0) hb); have _ := Q_ (Kd.S_mono (Kd.S_told (Kd.S_told (Kd.S_old (ps_ (Kd.S_mono (Kd.S_far (p := ⟨gb373, 1, none⟩) (Kd.S_types HO372.out BK373.out (by decide)) (fun _ hk => hk.2) (.slice A25 y374.length c25)) (fun _ h_ => h_.1))) hb) (Kd.R_base ho0)) (Kd.S_base ho1)) (fun _ h_ => h_.1)); have _ := Q_ (Kd.R_lower (Kd.R_new' (Kd.R_new' ho0 (Kd.R_lt (pr_ (Kd.R_mono (Kd.R_far (p := ⟨gb373, 1, none⟩) (Kd.R_types HO_7.out BK373.out (by decide)) (fun _ hk => hk.2) (.slice A25 y374.length c25)) (fun _ h_ => h_.1))))) (Kd.R_lt (pr_ (Kd.R_mono (Kd.R_far (p := ⟨gb373, 1, none⟩) (Kd.R_types HO369.out BK373.out (by decide)) (fun _ hk => hk.2) (.slice A25 y374.length c25)) (fun _ h_ => h_.1))))) (below_size (pb1_ HB.out GE373.out))); have _ := Q_ (Kd.S_lower (Kd.S_new' (Kd.S_new' (Kd.S_new' ho1 (Kd.R_lt (pr_ (Kd.R_mono (Kd.R_far (p := ⟨gb373, 1, none⟩) (Kd.R_types HO_7.out BK373.out (by decide)) (fun _ hk => hk.2) (.slice A25 y374.length c25)) (fun _ h_ => h_.1))))) (Kd.R_lt (pr_ (Kd.R_mono (Kd.R_far (p := ⟨gb373, 1, none⟩) (Kd.R_types HO369.out BK373.out (by decide)) (fun _ hk => hk.2) (.slice A25 y374.length c25)) (fun _ h_ => h_.1))))) (Kd.S_lt (ps_ (Kd.S_mono (Kd.S_far (p := ⟨gb373, 1, none⟩) (Kd.S_types HO372.out BK373.out (by decide)) (fun _ hk => hk.2) (.slice A25 y374.length c25)) (fun _ h_ => h_.1))))) (below_size (pb1_ HB.out GE373.out))); have _ := Q_ (blk_below (g := gb373) (o := .cells #[.slice Ao18 t367.length co18, .slice A25 y374.length c25] 71 (0, 0)) (pp_ BK373.out) hb); have _ := Q_ (below_step (pb1_ HB.out GE373.out) hb); clear HO_7 HO369 HO372 BK373 HB; rename_i HO_7 HO369 HO372 HO380 HO383 BK373 HB; (try clear hb); (try clear hb2); (try clear hk); (try clear hi); (try clear ho0); (try clear ho1)) | ((with_reducible refine gate_dst (N := 10) rfl ?_); refine box_event ?hg (N := 10) ?hd (cs := #[.slice none 0 0, .slice none 0 0]) (t := 71) ?hr ?_; (case hd => rfl); (case hg => rfl); (case hr => first | (go_simp; done) | (go_simp; rfl)); intro gb385 hg w29 hbox hb; have _ := Q_ (Kd.R_below (pr_ HO_7.out) hb); have _ := Q_ (Kd.R_below (pr_ HO369.out) hb); have _ := Q_ (Kd.S_below (ps_ HO372.out) hb); have _ := Q_ (Kd.R_below (pr_ HO380.out) hb); have _ := Q_ (Kd.S_below (ps_ HO383.out) hb); have _ := Q_ (bb_ BK373.out hb); have _ := Q_ (below_step (pb1_ HB.out GE373.out) hb); have BK385 := Q_ (hbox); have GW385 := Q_ ((by rw [hg]; exact (below_size (pb1_ HB.out GE373.out)) : w.heap.size ≤ gb385)); have GE385 := GW385; have NB373_385 := Q_ ((by rw [hg]; exact Nat.ne_of_lt (blk_lt (pk_ BK373.out)) : gb373 ≠ gb385)); have NB385_373 := Q_ NB373_385.out.symm; clear HO_7 HO369 HO372 HO380 HO383 BK373 HB; rename_i HO_7 HO369 HO372 HO380 HO383 BK373 HB; clear hb hbox hg; obtain ⟨Ao30, co30, eo30⟩ := Kd.R_slice HO380.out; subst eo30; have hnb31 := NB385_373.out; have hnc31 := NB373_385.out; have hcz32 := bc2_ BK385.out; obtain ⟨Ao33, co33, eo33⟩ := Kd.S_slice HO383.out; subst eo33))
  (try simp only [Act.put, List.setIfInBounds_toArray, List.set_cons_zero, List.set_cons_succ])
  have H := HS_.out
  clear HS_
  by_cases c34 : t384 = true
  rotate_left
  ·replace c34 := bf_ c34
   subst c34
   rw [if_neg ff_] at H
   by_cases c35 : x7_2.length < 17592186044416
   rotate_left
   ·rw [if_neg c35] at H
    exact absurd H (by simp)
   rw [if_pos c35] at H
   have LMc35 := Q_ c35
   clear c35
   obtain ⟨y392, hy392⟩ : ∃ y_ : List Int, y_ = (x7_2 ++ [(rd_T113 l2 x8_2).f0]) := ⟨_, rfl⟩
   replace H : (spec_LostTags.l0 k2 l0 l1 l2 y392 (wrap64 (x8_2 + 1))) = some r := hb_ hy392 H
   have Ny392 := Q_ hy392
   clear hy392
   have H' := Q_ H
   clear H
   have p391 : 0 ≤ (x8_2 : Int) := dt_
   have q391 : x8_2 < (l2.length : Int) := dt_
   obtain ⟨ad391, A391_1, c391_1, e391, hx391_0, hx391_1, hl391_1, hi391_1⟩ := at_T113 HR2.out x8_2 p391 q391
   cases e391
   have hn391_0 : ad391.block ≠ gb385 := Nat.ne_of_lt (Nat.lt_of_lt_of_le (by have := World.block_lt_of_cell? _ _ hx391_0; first | rwa [add_block] at this | exact this) GW385.out)
   have hn391_1 : ad391.block ≠ gb385 := Nat.ne_of_lt (Nat.lt_of_lt_of_le (by have := World.block_lt_of_cell? _ _ hx391_0; first | rwa [add_block] at this | exact this) GW385.out)
   replace hx391_0 := bt_ HB hx391_0
   replace hx391_1 := bt_ HB hx391_1
   have HR391_1 := Q_ hi391_1
   have HC391_1 := Q_ hl391_1
   clear hi391_1 hl391_1
   replace hx391_0 := (cell_far (p := ⟨gb385, 0, none⟩) (by first | (rw [add_block]; exact hn391_0) | (show (Addr.add _ _).block ≠ _; rw [add_block]; exact hn391_0) | exact hn391_0) (.slice Ao30 t378.length co30)).trans hx391_0
   replace hx391_1 := (cell_far (p := ⟨gb385, 0, none⟩) (by first | (rw [add_block]; exact hn391_0) | (show (Addr.add _ _).block ≠ _; rw [add_block]; exact hn391_0) | exact hn391_0) (.slice Ao30 t378.length co30)).trans hx391_1
   replace hx391_0 := (cell_far (p := ⟨gb385, 1, none⟩) (by first | (rw [add_block]; exact hn391_1) | (show (Addr.add _ _).block ≠ _; rw [add_block]; exact hn391_1) | exact hn391_1) (.slice Ao33 t381.length co33)).trans hx391_0
   replace hx391_1 := (cell_far (p := ⟨gb385, 1, none⟩) (by first | (rw [add_block]; exact hn391_1) | (show (Addr.add _ _).block ≠ _; rw [add_block]; exact hn391_1) | exact hn391_1) (.slice Ao33 t381.length co33)).trans hx391_1
   clear hn391_0
   clear hn391_1
   replace p391 := eq_true p391
   replace q391 := eq_true q391
   go_wp2_with (first | ((with_reducible refine gate_builtin (b := .append) (xs := #[.tmp 54, .tmp 60]) rfl ?_); at_builtin; refine Kd.R_append (Kd.int .i64) (w0 := w) w.heap.size rfl (.tmp 54) (.tmp 60) 25 3 (.int .i64 0) 8 rfl Try.underlying25 info3 rfl (by decide) (by omega) u7 x7_2 ((rd_T113 l2 x8_2).f0) [.int .i64 ((rd_T113 l2 x8_2).f0)] (fun k_ => some k_ ≠ (.slice Ao18 t367.length co18 : Value).ownBlock ∧ some k_ ≠ (.slice Ao30 t378.length co30 : Value).ownBlock) (fun _ => False) rfl (by first | (go_simp; done) | (go_simp; rfl)) ?aP (fun _ hk => hk.elim) ?aF ?aO ?aB ?aS ?aL ?_; (case aP => exact rfl); (case aB => exact (pb2_ HB.out GE373.out GE385.out)); (case aF => exact (fun k_ hk => ⟨Kd.fresh' (Kd.R_lt (pr_ (rf2_ HO369.out BK385.out))) k_ hk, Kd.fresh' (Kd.R_lt (pr_ (rf2_ HO380.out BK385.out))) k_ hk⟩)); (case aO => exact (by (with_reducible repeat (first | apply Kd.R_alloc | apply Kd.R_drewN | apply Kd.R_drew)); exact Kd.R_mono (Kd.R_far (p := ⟨gb385, 1, none⟩) (Kd.R_far (p := ⟨gb385, 0, none⟩) (Kd.R_types HO_7.out BK385.out (by decide)) (fun _ hk => hk.2) (.slice Ao30 t378.length co30)) (fun _ hk => hk.2) (.slice Ao33 t381.length co33)) (fun _ hk => ⟨hk.1.1, hk.1.2⟩))); (case aS => exact (below_size (pb2_ HB.out GE373.out GE385.out))); (case aL => have := LMc35.out; omega); intro v393 w36 ho hb hg hat; rw [← Ny392.out] at ho; have _ := Q_ (Kd.R_after (ok := (fun k_ => some k_ ≠ (.slice Ao30 t378.length co30 : Value).ownBlock)) (by (with_reducible repeat (first | apply Kd.R_alloc | apply Kd.R_drewN | apply Kd.R_drew)); exact Kd.R_mono (Kd.R_far (p := ⟨gb385, 1, none⟩) (Kd.R_far (p := ⟨gb385, 0, none⟩) (Kd.R_types HO369.out BK385.out (by decide)) (fun _ hk => hk.2) (.slice Ao30 t378.length co30)) (fun _ hk => hk.2) (.slice Ao33 t381.length co33)) (fun _ hk => ⟨hk.1.2, hk.1.1⟩)) hg hat); have _ := Q_ (Kd.S_after (ok := (fun k_ => some k_ ≠ (.slice Ao18 t367.length co18 : Value).ownBlock ∧ some k_ ≠ (.slice Ao30 t378.length co30 : Value).ownBlock ∧ some k_ ≠ (.slice Ao33 t381.length co33 : Value).ownBlock)) (by (with_reducible repeat (first | apply Kd.S_alloc | apply Kd.S_drewN | apply Kd.S_drew)); exact Kd.S_mono (Kd.S_far (p := ⟨gb385, 1, none⟩) (Kd.S_far (p := ⟨gb385, 0, none⟩) (Kd.S_types HO372.out BK385.out (by decide)) (fun _ hk => hk.2) (.slice Ao30 t378.length co30)) (fun _ hk => hk.2) (.slice Ao33 t381.length co33)) (fun _ hk => ⟨⟨hk.1.1.1.2, ⟨hk.1.1.2, hk.1.2⟩⟩, hk.1.1.1.1⟩)) hg hat); have _ := Q_ (blk_grown (g := gb373) (o := .cells #[.slice Ao18 t367.length co18, .slice A25 y374.length c25] 71 (0, 0)) (pp_ BK373.out) hg (Kd.R_ne HO_7.out BK373.out (by decide))); have _ := Q_ (Kd.R_after (ok := (fun k_ => some k_ ≠ (.slice Ao18 t367.length co18 : Value).ownBlock)) (by (with_reducible repeat (first | apply Kd.R_alloc | apply Kd.R_drewN | apply Kd.R_drew)); exact Kd.R_mono (Kd.R_far (p := ⟨gb385, 1, none⟩) (Kd.R_far (p := ⟨gb385, 0, none⟩) (Kd.R_types HO380.out BK385.out (by decide)) (fun _ hk => hk.2) (.slice Ao30 t378.length co30)) (fun _ hk => hk.2) (.slice Ao33 t381.length co33)) (fun _ hk => ⟨hk.1.2, hk.1.1.2⟩)) hg hat); have _ := Q_ (Kd.S_after (ok := (fun k_ => some k_ ≠ (.slice Ao18 t367.length co18 : Value).ownBlock ∧ some k_ ≠ (.slice Ao20 t370.length co20 : Value).ownBlock ∧ some k_ ≠ (.slice Ao30 t378.length co30 : Value).ownBlock)) (by (with_reducible repeat (first | apply Kd.S_alloc | apply Kd.S_drewN | apply Kd.S_drew)); exact Kd.S_mono (Kd.S_far (p := ⟨gb385, 1, none⟩) (Kd.S_far (p := ⟨gb385, 0, none⟩) (Kd.S_types HO383.out BK385.out (by decide)) (fun _ hk => hk.2) (.slice Ao30 t378.length co30)) (fun _ hk => hk.2) (.slice Ao33 t381.length co33)) (fun _ hk => ⟨⟨hk.1.1.2, ⟨hk.1.2, hk.1.1.1.1⟩⟩, hk.1.1.1.2⟩)) hg hat); have _ := Q_ (blk_grown (g := gb385) (o := .cells #[.slice Ao30 t378.length co30, .slice Ao33 t381.length co33] 71 (0, 0)) (pp_ BK385.out) hg (Kd.R_ne HO_7.out BK385.out (by decide))); have _ := Q_ (hb); have HO394 := Q_ (ho); clear HO369 HO372 BK373 HO380 HO383 BK385 HB HO_7; rename_i HO369 HO372 BK373 HO380 HO383 BK385 HB; clear ho hb hg hat))
   go_roundg k2
   case measure => have := HJ3.out; have := HK2.out; omega
   case rel => exact ⟨(y392), (wrap64 (x8_2 + 1)), el_, H', ⟨by have := HJ3.out; have := HK2.out; omega⟩, ⟨pr_ (Kd.R_mono HO394.out (fun _ hk => trivial))⟩, ⟨pb2_ HB.out GE373.out GE385.out⟩⟩
  subst c34
  rw [if_pos rfl] at H
  replace H := Option.bind_eq_some_iff.mp H
  obtain ⟨t386, A370, H⟩ := H
  (try dsimp only at H)
  have A37 := Q_ A370
  clear A370
  have HS_ := Q_ H
  clear H
  have hnb38 := NB385_373.out
  have hnc38 := NB373_385.out
  have hcz39 := bc2_ BK385.out
  have hcz40 := bc2_ BK373.out
  go_upto_if 53 with (first | (go_at_call 95; (with_reducible refine (spec_EqualExts.calls k2 _ _ t381 _ _ y374 t386 _ ?side1 ?side2 ?side3 ?side4 A37.out).mono ?_); (case side1 => refine (Kd.S_reads' (e := 113) (base := w.heap.size) (ok := fun k_ => (((some k_ ≠ (.slice Ao30 t378.length co30 : Value).ownBlock ∧ some k_ ≠ (u7 : Value).ownBlock) ∧ some k_ ≠ (.slice Ao18 t367.length co18 : Value).ownBlock) ∧ some k_ ≠ (.slice Ao20 t370.length co20 : Value).ownBlock)) (n := t381.length) (c := co33) ?_).2.2; exact (ps_ (sf2_ HO383.out BK385.out))); (case side2 => exact (Kd.S_reads' HO383.out).2.1); (case side3 => exact Kd.C_below HR377.out (pb2_ HB.out GE373.out GE385.out)); (case side4 => exact HC377.out); rintro e w' ⟨rfl, ⟨nd, rfl⟩⟩))
  (try simp only [Act.put, List.setIfInBounds_toArray, List.set_cons_zero, List.set_cons_succ])
  have H := HS_.out
  clear HS_
  by_cases c41 : t386 = true
  ·subst c41
   rw [if_pos rfl] at H
   have H' := Q_ H
   clear H
   go_wp2
   go_roundg k2
   case measure => have := HJ3.out; have := HK2.out; omega
   case rel => exact ⟨(x7_2), (wrap64 (x8_2 + 1)), el_, H', ⟨by have := HJ3.out; have := HK2.out; omega⟩, ⟨pr_ (Kd.R_mono (rf2_ HO_7.out BK385.out) (fun _ hk => trivial))⟩, ⟨pb2_ HB.out GE373.out GE385.out⟩⟩
  replace c41 := bf_ c41
  subst c41
  rw [if_neg ff_] at H
  by_cases c42 : x7_2.length < 17592186044416
  rotate_left
  ·rw [if_neg c42] at H
   exact absurd H (by simp)
  rw [if_pos c42] at H
  have LMc42 := Q_ c42
  clear c42
  obtain ⟨y388, hy388⟩ : ∃ y_ : List Int, y_ = (x7_2 ++ [(rd_T113 l2 x8_2).f0]) := ⟨_, rfl⟩
  replace H : (spec_LostTags.l0 k2 l0 l1 l2 y388 (wrap64 (x8_2 + 1))) = some r := hb_ hy388 H
  have Ny388 := Q_ hy388
  clear hy388
  have H' := Q_ H
  clear H
  have p387 : 0 ≤ (x8_2 : Int) := dt_
  have q387 : x8_2 < (l2.length : Int) := dt_
  obtain ⟨ad387, A387_1, c387_1, e387, hx387_0, hx387_1, hl387_1, hi387_1⟩ := at_T113 HR2.out x8_2 p387 q387
  cases e387
  have hn387_0 : ad387.block ≠ gb385 := Nat.ne_of_lt (Nat.lt_of_lt_of_le (by have := World.block_lt_of_cell? _ _ hx387_0; first | rwa [add_block] at this | exact this) GW385.out)
  have hn387_1 : ad387.block ≠ gb385 := Nat.ne_of_lt (Nat.lt_of_lt_of_le (by have := World.block_lt_of_cell? _ _ hx387_0; first | rwa [add_block] at this | exact this) GW385.out)
  replace hx387_0 := bt_ HB hx387_0
  replace hx387_1 := bt_ HB hx387_1
  have HR387_1 := Q_ hi387_1
  have HC387_1 := Q_ hl387_1
  clear hi387_1 hl387_1
  replace hx387_0 := (cell_far (p := ⟨gb385, 0, none⟩) (by first | (rw [add_block]; exact hn387_0) | (show (Addr.add _ _).block ≠ _; rw [add_block]; exact hn387_0) | exact hn387_0) (.slice Ao30 t378.length co30)).trans hx387_0
  replace hx387_1 := (cell_far (p := ⟨gb385, 0, none⟩) (by first | (rw [add_block]; exact hn387_0) | (show (Addr.add _ _).block ≠ _; rw [add_block]; exact hn387_0) | exact hn387_0) (.slice Ao30 t378.length co30)).trans hx387_1
  replace hx387_0 := (cell_far (p := ⟨gb385, 1, none⟩) (by first | (rw [add_block]; exact hn387_1) | (show (Addr.add _ _).block ≠ _; rw [add_block]; exact hn387_1) | exact hn387_1) (.slice Ao33 t381.length co33)).trans hx387_0
  replace hx387_1 := (cell_far (p := ⟨gb385, 1, none⟩) (by first | (rw [add_block]; exact hn387_1) | (show (Addr.add _ _).block ≠ _; rw [add_block]; exact hn387_1) | exact hn387_1) (.slice Ao33 t381.length co33)).trans hx387_1
  clear hn387_0
  clear hn387_1
  replace p387 := eq_true p387
  replace q387 := eq_true q387
  go_wp2_with (first | ((with_reducible refine gate_builtin (b := .append) (xs := #[.tmp 54, .tmp 60]) rfl ?_); at_builtin; refine Kd.R_append (Kd.int .i64) (w0 := w) w.heap.size rfl (.tmp 54) (.tmp 60) 25 3 (.int .i64 0) 8 rfl Try.underlying25 info3 rfl (by decide) (by omega) u7 x7_2 ((rd_T113 l2 x8_2).f0) [.int .i64 ((rd_T113 l2 x8_2).f0)] (fun k_ => some k_ ≠ (.slice Ao18 t367.length co18 : Value).ownBlock ∧ some k_ ≠ (.slice Ao30 t378.length co30 : Value).ownBlock) (fun _ => False) rfl (by first | (go_simp; done) | (go_simp; rfl)) ?aP (fun _ hk => hk.elim) ?aF ?aO ?aB ?aS ?aL ?_; (case aP => exact rfl); (case aB => exact (pb2_ HB.out GE373.out GE385.out)); (case aF => exact (fun k_ hk => ⟨Kd.fresh' (Kd.R_lt (pr_ (rf2_ HO369.out BK385.out))) k_ hk, Kd.fresh' (Kd.R_lt (pr_ (rf2_ HO380.out BK385.out))) k_ hk⟩)); (case aO => exact (by (with_reducible repeat (first | apply Kd.R_alloc | apply Kd.R_drewN | apply Kd.R_drew)); exact Kd.R_mono (Kd.R_far (p := ⟨gb385, 1, none⟩) (Kd.R_far (p := ⟨gb385, 0, none⟩) (Kd.R_types HO_7.out BK385.out (by decide)) (fun _ hk => hk.2) (.slice Ao30 t378.length co30)) (fun _ hk => hk.2) (.slice Ao33 t381.length co33)) (fun _ hk => ⟨hk.1.1, hk.1.2⟩))); (case aS => exact (below_size (pb2_ HB.out GE373.out GE385.out))); (case aL => have := LMc42.out; omega); intro v389 w43 ho hb hg hat; rw [← Ny388.out] at ho; have _ := Q_ (Kd.R_after (ok := (fun k_ => some k_ ≠ (.slice Ao30 t378.length co30 : Value).ownBlock)) (by (with_reducible repeat (first | apply Kd.R_alloc | apply Kd.R_drewN | apply Kd.R_drew)); exact Kd.R_mono (Kd.R_far (p := ⟨gb385, 1, none⟩) (Kd.R_far (p := ⟨gb385, 0, none⟩) (Kd.R_types HO369.out BK385.out (by decide)) (fun _ hk => hk.2) (.slice Ao30 t378.length co30)) (fun _ hk => hk.2) (.slice Ao33 t381.length co33)) (fun _ hk => ⟨hk.1.2, hk.1.1⟩)) hg hat); have _ := Q_ (Kd.S_after (ok := (fun k_ => some k_ ≠ (.slice Ao18 t367.length co18 : Value).ownBlock ∧ some k_ ≠ (.slice Ao30 t378.length co30 : Value).ownBlock ∧ some k_ ≠ (.slice Ao33 t381.length co33 : Value).ownBlock)) (by (with_reducible repeat (first | apply Kd.S_alloc | apply Kd.S_drewN | apply Kd.S_drew)); exact Kd.S_mono (Kd.S_far (p := ⟨gb385, 1, none⟩) (Kd.S_far (p := ⟨gb385, 0, none⟩) (Kd.S_types HO372.out BK385.out (by decide)) (fun _ hk => hk.2) (.slice Ao30 t378.length co30)) (fun _ hk => hk.2) (.slice Ao33 t381.length co33)) (fun _ hk => ⟨⟨hk.1.1.1.2, ⟨hk.1.1.2, hk.1.2⟩⟩, hk.1.1.1.1⟩)) hg hat); have _ := Q_ (blk_grown (g := gb373) (o := .cells #[.slice Ao18 t367.length co18, .slice A25 y374.length c25] 71 (0, 0)) (pp_ BK373.out) hg (Kd.R_ne HO_7.out BK373.out (by decide))); have _ := Q_ (Kd.R_after (ok := (fun k_ => some k_ ≠ (.slice Ao18 t367.length co18 : Value).ownBlock)) (by (with_reducible repeat (first | apply Kd.R_alloc | apply Kd.R_drewN | apply Kd.R_drew)); exact Kd.R_mono (Kd.R_far (p := ⟨gb385, 1, none⟩) (Kd.R_far (p := ⟨gb385, 0, none⟩) (Kd.R_types HO380.out BK385.out (by decide)) (fun _ hk => hk.2) (.slice Ao30 t378.length co30)) (fun _ hk => hk.2) (.slice Ao33 t381.length co33)) (fun _ hk => ⟨hk.1.2, hk.1.1.2⟩)) hg hat); have _ := Q_ (Kd.S_after (ok := (fun k_ => some k_ ≠ (.slice Ao18 t367.length co18 : Value).ownBlock ∧ some k_ ≠ (.slice Ao20 t370.length co20 : Value).ownBlock ∧ some k_ ≠ (.slice Ao30 t378.length co30 : Value).ownBlock)) (by (with_reducible repeat (first | apply Kd.S_alloc | apply Kd.S_drewN | apply Kd.S_drew)); exact Kd.S_mono (Kd.S_far (p := ⟨gb385, 1, none⟩) (Kd.S_far (p := ⟨gb385, 0, none⟩) (Kd.S_types HO383.out BK385.out (by decide)) (fun _ hk => hk.2) (.slice Ao30 t378.length co30)) (fun _ hk => hk.2) (.slice Ao33 t381.length co33)) (fun _ hk => ⟨⟨hk.1.1.2, ⟨hk.1.2, hk.1.1.1.1⟩⟩, hk.1.1.1.2⟩)) hg hat); have _ := Q_ (blk_grown (g := gb385) (o := .cells #[.slice Ao30 t378.length co30, .slice Ao33 t381.length co33] 71 (0, 0)) (pp_ BK385.out) hg (Kd.R_ne HO_7.out BK385.out (by decide))); have _ := Q_ (hb); have HO390 := Q_ (ho); clear HO369 HO372 BK373 HO380 HO383 BK385 HB HO_7; rename_i HO369 HO372 BK373 HO380 HO383 BK385 HB; clear ho hb hg hat))
  go_roundg k2
  case measure => have := HJ3.out; have := HK2.out; omega
  case rel => exact ⟨(y388), (wrap64 (x8_2 + 1)), el_, H', ⟨by have := HJ3.out; have := HK2.out; omega⟩, ⟨pr_ (Kd.R_mono HO390.out (fun _ hk => trivial))⟩, ⟨pb2_ HB.out GE373.out GE385.out⟩⟩
 subst c11
 rw [if_pos rfl] at H
 obtain rfl := Option.some.inj H
 go_wp2
 go_ret
 exact ⟨_, er_, pr_ HO_7.out, pb_ HB.out⟩

/-! ### spec_FallbackHello: function 62 -/
def spec_FallbackHello.f (k : Nat) (l0_0 : List Int) (l0_1 : List (S113)) (l1 : List (S89)) : Option (List Int × (List (S113)) × Bool) := (spec_IsHello.f k l0_0 l0_1).bind fun t397 => (if t397 = true then ((spec_LostVersions.f k l1 l0_0).bind fun t398 => ((spec_l21Left.f k l0_0 t398).bind fun t401 => ((spec_LostTags.f k l1 t401 l0_1).bind fun t404 => ((spec_PartHello.f k l0_0 l0_1 t398 t404).bind fun bt407 => (some (bt407.1, bt407.2.1, bt407.2.2)))))) else (some (([] : List Int), ([] : List (S113)), false)))
theorem spec_FallbackHello.mono : ∀ a0 a1 a2 k, LeO (spec_FallbackHello.f k a0 a1 a2) (spec_FallbackHello.f (k + 1) a0 a1 a2) := by
 intro a0 a1 a2 k
 unfold spec_FallbackHello.f
 exact mo5_ spec_IsHello.mono spec_LostTags.mono spec_LostVersions.mono spec_PartHello.mono spec_l21Left.mono
def spec_FallbackHello.T4 : Bool × List (List Nat × List Nat) := (true, [([], []), ([], []), ([], []), ([], []), ([3], [3]), ([], []), ([4, 5], [4, 5]), ([], []), ([7], [7]), ([2, 6, 8, 6], [2, 6, 8]), ([0, 1, 9, 9], [0, 1, 9]), ([10], [10]), ([10], [10]), ([11, 10, 0, 1, 2, 3, 4, 5, 6, 7, 8, 9, 10, 11, 12], [11]), ([12, 13, 0, 1, 2, 3, 4, 5, 6, 7, 8, 9, 10, 11, 12, 13], [12])])
def spec_FallbackHello.B4 : List Nat := [0, 0, 0, 0, 8, 0, 56, 0, 128, 508, 1023, 2047, 2047, 8191, 16383]
theorem spec_FallbackHello.tab4 : rtab .any (opsOf Try.f62 4) = spec_FallbackHello.T4 := by kernel_rfl
theorem spec_FallbackHello.bits4 : waitsOk spec_FallbackHello.T4.2 spec_FallbackHello.B4 = true := by kernel_rfl
theorem spec_FallbackHello.calls (k : Nat) (A0_0 : Option Addr) (c0_0 : Nat) (l0_0 : List Int) (A0_1 : Option Addr) (c0_1 : Nat) (l0_1 : List (S113)) (A1 : Option Addr) (c1 : Nat) (l1 : List (S89)) (r1 : List Int) (r2 : List (S113)) (r3 : Bool) (w : World) (hr0_0 : Kd.C (Kd.int .i64) w A0_0 l0_0.length l0_0) (hc0_0 : l0_0.length ≤ c0_0) (hr0_1 : Kd.C k113 w A0_1 l0_1.length l0_1) (hc0_1 : l0_1.length ≤ c0_1) (hr1 : Kd.C k89 w A1 l1.length l1) (hc1 : l1.length ≤ c1) (h : spec_FallbackHello.f k l0_0 l0_1 l1 = some (r1, r2, r3)) :
  Calls Try.prog 62 #[.agg #[.slice A0_0 l0_0.length c0_0, .slice A0_1 l0_1.length c0_1], .slice A1 l1.length c1] w fun e w' => ∃ v0_ v1_ : Value, e = .returned (.tuple #[.agg #[v0_, v1_], .bool r3]) ∧ Kd.R (Kd.int .i64) 3 w' w.heap.size (fun _ => True) v0_ r1 ∧ Kd.S k113 113 w' w.heap.size (fun k_ => some k_ ≠ (v0_ : Value).ownBlock) v1_ r2 ∧ Below w.heap.size w w' := by
 have hu71 := Try.underlying71
 have HR0_0 := Q_ hr0_0
 have HC0_0 := Q_ hc0_0
 clear hr0_0 hc0_0
 have HR0_1 := Q_ hr0_1
 have HC0_1 := Q_ hc0_1
 clear hr0_1 hc0_1
 have HR1 := Q_ hr1
 have HC1 := Q_ hc1
 clear hr1 hc1
 have HB := Q_ (Below.refl w.heap.size w)
 have H : ((spec_IsHello.f k l0_0 l0_1).bind fun t397 => (if t397 = true then ((spec_LostVersions.f k l1 l0_0).bind fun t398 => ((spec_l21Left.f k l0_0 t398).bind fun t401 => ((spec_LostTags.f k l1 t401 l0_1).bind fun t404 => ((spec_PartHello.f k l0_0 l0_1 t398 t404).bind fun bt407 => (some (bt407.1, bt407.2.1, bt407.2.2)))))) else (some (([] : List Int), ([] : List (S113)), false)))) = some (r1, r2, r3) := h
 clear h
 have HS_ := Q_ H
 clear H
 go_enter Try.func62, Try.ntmps62
 go_upto_region 1 with (first | ((with_reducible refine gate_dst (N := 2) rfl ?_); refine box_event ?hg (N := 2) ?hd (cs := #[.slice A0_0 l0_0.length c0_0, .slice A0_1 l0_1.length c0_1]) (t := 71) ?hr ?_; (case hd => rfl); (case hg => rfl); (case hr => first | (go_simp; done) | (go_simp; rfl)); intro gb395 hg w3 hbox hb; have _ := Q_ (below_step (pb_ HB.out) hb); have BK395 := Q_ (hbox); have GW395 := Q_ ((by rw [hg]; exact (below_size (pb_ HB.out)) : w.heap.size ≤ gb395)); have GE395 := GW395; clear HB; rename_i HB; clear hb hbox hg) | ((with_reducible refine gate_dst (N := 4) rfl ?_); refine box_event ?hg (N := 4) ?hd (cs := #[.slice none 0 0, .slice none 0 0]) (t := 71) ?hr ?_; (case hd => rfl); (case hg => rfl); (case hr => first | (go_simp; done) | (go_simp; rfl)); intro gb396 hg w4 hbox hb; have _ := Q_ (bb_ BK395.out hb); have _ := Q_ (below_step (pb1_ HB.out GE395.out) hb); have BK396 := Q_ (hbox); have GW396 := Q_ ((by rw [hg]; exact (below_size (pb1_ HB.out GE395.out)) : w.heap.size ≤ gb396)); have GE396 := GW396; have NB395_396 := Q_ ((by rw [hg]; exact Nat.ne_of_lt (blk_lt (pk_ BK395.out)) : gb395 ≠ gb396)); have NB396_395 := Q_ NB395_396.out.symm; clear BK395 HB; rename_i BK395 HB; clear hb hbox hg))
 (try simp only [Act.put, List.setIfInBounds_toArray, List.set_cons_zero, List.set_cons_succ])
 have H := HS_.out
 clear HS_
 replace H := Option.bind_eq_some_iff.mp H
 obtain ⟨t397, A50, H⟩ := H
 (try dsimp only at H)
 have A5 := Q_ A50
 clear A50
 have HS_ := Q_ H
 clear H
 have hnb6 := NB395_396.out
 have hnc6 := NB396_395.out
 have hcz7 := bc2_ BK395.out
 go_upto_if 9 with (first | ((with_reducible refine gate_callee (f := 59) rfl ?_); refine gl_ (some 8) Try.func59 #[.agg #[.slice A0_0 l0_0.length c0_0, .slice A0_1 l0_1.length c0_1]] ?_; (with_reducible refine (spec_IsHello.calls k _ _ l0_0 _ _ l0_1 t397 _ ?side1 ?side2 ?side3 ?side4 A5.out).mono ?_); (case side1 => exact cb_ HR0_0 HB); (case side2 => exact HC0_0.out); (case side3 => exact cb_ HR0_1 HB); (case side4 => exact HC0_1.out); rintro e w8 ⟨rfl, hb⟩; refine ⟨_, rfl, ?_⟩; have _ := Q_ (bb_ BK395.out hb); have _ := Q_ (bb_ BK396.out hb); have _ := Q_ (below_step (pb2_ HB.out GE395.out GE396.out) hb); clear BK395 BK396 HB; rename_i BK395 BK396 HB; (try clear hb); (try clear hb2); (try clear hk); (try clear hi)))
 (try simp only [Act.put, List.setIfInBounds_toArray, List.set_cons_zero, List.set_cons_succ])
 have H := HS_.out
 clear HS_
 by_cases c9 : t397 = true
 rotate_left
 ·replace c9 := bf_ c9
  subst c9
  rw [if_neg ff_] at H
  simp only [Option.some.injEq, Prod.mk.injEq] at H
  obtain ⟨rfl, rfl, rfl⟩ := H
  have hnb10 := NB396_395.out
  have hnc10 := NB395_396.out
  have hcz11 := bc2_ BK396.out
  go_wp2
  refine bodyPost_ret (results_ct rfl _ _ gb396 71 #[.slice none 0 0, .slice none 0 0] (0, 0) _ rfl (pp_ BK396.out) Try.underlying71 rfl (by kernel_rfl)) rfl ?_
  exact ⟨_, _, er_, by first | exact Kd.R_nil _ _ _ _ _ | exact Kd.N_nil _ _ _ _ _ | exact Kd.V_nil _ _ _ _ _ | exact Kd.Q_nil _ _ _ _ _ | exact Kd.S_nil _ _ _ _ _, by first | exact Kd.S_nil _ _ _ _ _ | exact Kd.N_nil _ _ _ _ _ | exact Kd.V_nil _ _ _ _ _ | exact Kd.Q_nil _ _ _ _ _ | exact Kd.R_nil _ _ _ _ _, pb2_ HB.out GE395.out GE396.out⟩
 subst c9
 rw [if_pos rfl] at H
 replace H := Option.bind_eq_some_iff.mp H
 obtain ⟨t398, A120, H⟩ := H
 (try dsimp only at H)
 have A12 := Q_ A120
 clear A120
 replace H := Option.bind_eq_some_iff.mp H
 obtain ⟨t401, A130, H⟩ := H
 (try dsimp only at H)
 have A13 := Q_ A130
 clear A130
 replace H := Option.bind_eq_some_iff.mp H
 obtain ⟨t404, A140, H⟩ := H
 (try dsimp only at H)
 have A14 := Q_ A140
 clear A140
 replace H := Option.bind_eq_some_iff.mp H
 obtain ⟨⟨t407, t410, t413⟩, A150, H⟩ := H
 replace H : (some (t407, t410, t413)) = some (r1, r2, r3) := H
 have A15 := Q_ A150
 clear A150
 simp only [Option.some.injEq, Prod.mk.injEq] at H
 obtain ⟨rfl, rfl, rfl⟩ := H
 have hnb16 := NB395_396.out
 have hnc16 := NB396_395.out
 have hcz17 := bc2_ BK395.out
 try go_wp2_with (first | ((with_reducible refine gate_callee (f := 80) rfl ?_); refine gl_ (some 14) Try.func80 #[.slice A1 l1.length c1, .slice A0_0 l0_0.length c0_0] ?_; (with_reducible refine (spec_LostVersions.calls k _ _ l1 _ _ l0_0 t398 _ ?side1 ?side2 ?side3 ?side4 A12.out).mono ?_); (case side1 => exact cb_ HR1 HB); (case side2 => exact HC1.out); (case side3 => exact cb_ HR0_0 HB); (case side4 => exact HC0_0.out); rintro e w18 ⟨v399, rfl, ho0, hb⟩; refine ⟨_, rfl, ?_⟩; have _ := Q_ (Kd.R_lower ho0 (below_size (pb2_ HB.out GE395.out GE396.out))); have _ := Q_ (bb_ BK395.out hb); have _ := Q_ (bb_ BK396.out hb); have _ := Q_ (below_step (pb2_ HB.out GE395.out GE396.out) hb); clear BK395 BK396 HB; rename_i HO400 BK395 BK396 HB; (try clear hb); (try clear hb2); (try clear hk); (try clear hi); (try clear ho0)))
 have _ := Q_ (Kd.R_drew HO400.out)
 have _ := Q_ (blk_drew BK395.out)
 have _ := Q_ (blk_drew BK396.out)
 have _ := Q_ (below_drew1 HB.out)
 clear HO400 BK395 BK396 HB
 rename_i HO400 BK395 BK396 HB
 obtain ⟨Ao20, co20, eo20⟩ := Kd.R_slice HO400.out
 (first | subst eo20 | (injection eo20 with f1_ f2_ f3_; have f4_ := f1_.symm; have f5_ := f3_.symm; clear f1_ f2_ f3_; subst f4_; subst f5_))
 refine start_ (n := 15) (S := fun w' => w'.cell? ⟨gb395, 0, none⟩ = some (.slice A0_0 l0_0.length c0_0) ∧ w'.cell? ⟨gb395, 1, none⟩ = some (.slice A0_1 l0_1.length c0_1)) (ds := []) (tf_ 0 15) (by kernel_rfl) rfl rfl (sb_ BK395.out) (fun hHeld => ?_); refine with_tabW spec_FallbackHello.tab4 spec_FallbackHello.bits4 (fun HT_ HW_ => ?_)
 generalize w18.drew = w19 at HO400 BK395 BK396 HB hHeld ⊢
 refine pu_ 1 (some 16) (tm_ 15 2) HT_ ?_
 refine pu_ 2 (some 17) (tm_ 15 6) HT_ ?_
 refine pu_ 3 (some 18) (tm_ 15 14) HT_ ?_
 refine pu_ 5 (some 20) (tm_ 15 46) HT_ ?_
 refine pu_ 7 (some 22) (tm_ 15 174) HT_ ?_
 refine ta_ 0 (some 15) (tm_ 15 175) HT_ HW_ hHeld ?_
 refine ta_ 4 (some 19) (tm_ 15 191) HT_ HW_ hHeld ?_
 refine ta_ 8 (some 23) (tm_ 15 447) HT_ HW_ hHeld ?_
 refine on_ 6 (some 21) (tf_ 9 15) HT_ (fun K hK => ?_)
 refine goes_ Try.func70 (by kernel_rfl) rfl #[.slice A0_0 l0_0.length c0_0, .slice Ao20 t398.length co20] (by rfl) rfl rfl mp_ ?_
 with_reducible refine (spec_l21Left.calls k _ _ l0_0 _ _ t398 t401 _ ?side1 ?side2 ?side3 ?side4 A13.out).mono ?_
 (case side1 => exact cb_ HR0_0 HB)
 (case side2 => exact HC0_0.out)
 (case side3 => exact pc_ ((Kd.R_reads' HO400.out).2.2))
 (case side4 => exact (Kd.R_reads' HO400.out).2.1)
 rintro e w21 ⟨v402, rfl, ho0, hb⟩
 refine ⟨_, rfl, ?_⟩
 have _ := Q_ (Kd.R_elder' (pr_ HO400.out) (Kd.R_base ho0) hb)
 have _ := Q_ (Kd.R_lower (Kd.R_new' ho0 (Kd.R_lt (pr_ HO400.out))) (below_size (pb2_ HB.out GE395.out GE396.out)))
 have _ := Q_ (bb_ BK395.out hb)
 have _ := Q_ (bb_ BK396.out hb)
 have _ := Q_ (below_step (pb2_ HB.out GE395.out GE396.out) hb)
 clear HO400 BK395 BK396 HB
 rename_i HO400 HO403 BK395 BK396 HB
 (try clear hb)
 (try clear hb2)
 (try clear hk)
 (try clear hi)
 (try clear ho0)
 obtain ⟨Ao22, co22, eo22⟩ := Kd.R_slice HO403.out
 (first | subst eo22 | (injection eo22 with f1_ f2_ f3_; have f4_ := f1_.symm; have f5_ := f3_.symm; clear f1_ f2_ f3_; subst f4_; subst f5_))
 refine hK.out _ _ (sb_ BK395.out) (fun hHeld => ?_)
 clear hK K
 refine no_ (some 21) ?_
 refine on_ 9 (some 24) (tf_ 10 15) HT_ (fun K hK => ?_)
 refine goes_ Try.func81 (by kernel_rfl) rfl #[.slice A1 l1.length c1, .slice Ao22 t401.length co22, .slice A0_1 l0_1.length c0_1] (by rfl) rfl rfl mp_ ?_
 with_reducible refine (spec_LostTags.calls k _ _ l1 _ _ t401 _ _ l0_1 t404 _ ?side1 ?side2 ?side3 ?side4 ?side5 ?side6 A14.out).mono ?_
 (case side1 => exact cb_ HR1 HB)
 (case side2 => exact HC1.out)
 (case side3 => exact pc_ ((Kd.R_reads' HO403.out).2.2))
 (case side4 => exact (Kd.R_reads' HO403.out).2.1)
 (case side5 => exact cb_ HR0_1 HB)
 (case side6 => exact HC0_1.out)
 rintro e w23 ⟨v405, rfl, ho0, hb⟩
 refine ⟨_, rfl, ?_⟩
 have _ := Q_ (Kd.R_elder' (pr_ HO400.out) (Kd.R_base ho0) hb)
 have _ := Q_ (Kd.R_elder' (pr_ HO403.out) (Kd.R_base ho0) hb)
 have _ := Q_ (Kd.R_lower (Kd.R_new' (Kd.R_new' ho0 (Kd.R_lt (pr_ HO400.out))) (Kd.R_lt (pr_ HO403.out))) (below_size (pb2_ HB.out GE395.out GE396.out)))
 have _ := Q_ (bb_ BK395.out hb)
 have _ := Q_ (bb_ BK396.out hb)
 have _ := Q_ (below_step (pb2_ HB.out GE395.out GE396.out) hb)
 clear HO400 HO403 BK395 BK396 HB
 rename_i HO400 HO403 HO406 BK395 BK396 HB
 (try clear hb)
 (try clear hb2)
 (try clear hk)
 (try clear hi)
 (try clear ho0)
 obtain ⟨Ao24, co24, eo24⟩ := Kd.R_slice HO406.out
 (first | subst eo24 | (injection eo24 with f1_ f2_ f3_; have f4_ := f1_.symm; have f5_ := f3_.symm; clear f1_ f2_ f3_; subst f4_; subst f5_))
 refine hK.out _ _ (sb_ BK395.out) (fun hHeld => ?_)
 clear hK K
 refine no_ (some 24) ?_
 refine on_ 10 (some 25) (tf_ 11 15) HT_ (fun K hK => ?_)
 refine goes_ Try.func56 (by kernel_rfl) rfl #[.agg #[.slice A0_0 l0_0.length c0_0, .slice A0_1 l0_1.length c0_1], .slice Ao20 t398.length co20, .slice Ao24 t404.length co24] (by rfl) rfl rfl mp_ ?_
 with_reducible refine (spec_PartHello.calls k _ _ l0_0 _ _ l0_1 _ _ t398 _ _ t404 t407 t410 t413 _ ?side1 ?side2 ?side3 ?side4 ?side5 ?side6 ?side7 ?side8 A15.out).mono ?_
 (case side1 => exact cb_ HR0_0 HB)
 (case side2 => exact HC0_0.out)
 (case side3 => exact cb_ HR0_1 HB)
 (case side4 => exact HC0_1.out)
 (case side5 => exact pc_ ((Kd.R_reads' HO400.out).2.2))
 (case side6 => exact (Kd.R_reads' HO400.out).2.1)
 (case side7 => exact pc_ ((Kd.R_reads' HO406.out).2.2))
 (case side8 => exact (Kd.R_reads' HO406.out).2.1)
 rintro e w25 ⟨v408, v411, rfl, ho0, ho1, hb⟩
 refine ⟨_, rfl, ?_⟩
 have _ := Q_ (Kd.R_elder' (pr_ HO400.out) (Kd.R_base ho0) hb)
 have _ := Q_ (Kd.R_elder' (pr_ HO403.out) (Kd.R_base ho0) hb)
 have _ := Q_ (Kd.R_elder' (pr_ HO406.out) (Kd.R_base ho0) hb)
 have _ := Q_ (Kd.R_lower (Kd.R_new' (Kd.R_new' (Kd.R_new' ho0 (Kd.R_lt (pr_ HO400.out))) (Kd.R_lt (pr_ HO403.out))) (Kd.R_lt (pr_ HO406.out))) (below_size (pb2_ HB.out GE395.out GE396.out)))
 have _ := Q_ (Kd.S_lower (Kd.S_new' (Kd.S_new' (Kd.S_new' ho1 (Kd.R_lt (pr_ HO400.out))) (Kd.R_lt (pr_ HO403.out))) (Kd.R_lt (pr_ HO406.out))) (below_size (pb2_ HB.out GE395.out GE396.out)))
 have _ := Q_ (bb_ BK395.out hb)
 have _ := Q_ (bb_ BK396.out hb)
 have _ := Q_ (below_step (pb2_ HB.out GE395.out GE396.out) hb)
 clear HO400 HO403 HO406 BK395 BK396 HB
 rename_i HO400 HO403 HO406 HO409 HO412 BK395 BK396 HB
 (try clear hb)
 (try clear hb2)
 (try clear hk)
 (try clear hi)
 (try clear ho0)
 (try clear ho1)
 obtain ⟨Ao26, co26, eo26⟩ := Kd.R_slice HO409.out
 (first | subst eo26 | (injection eo26 with f1_ f2_ f3_; have f4_ := f1_.symm; have f5_ := f3_.symm; clear f1_ f2_ f3_; subst f4_; subst f5_))
 obtain ⟨Ao28, co28, eo28⟩ := Kd.S_slice HO412.out
 (first | subst eo28 | (injection eo28 with f1_ f2_ f3_; have f4_ := f1_.symm; have f5_ := f3_.symm; clear f1_ f2_ f3_; subst f4_; subst f5_))
 refine hK.out _ _ (sb_ BK395.out) (fun hHeld => ?_)
 clear hK K
 refine no_ (some 25) ?_
 refine pu_ 11 (some 26) (tf_ 12 15) HT_ ?_
 refine pu_ 12 (some 27) (tf_ 13 15) HT_ ?_
 refine on_ 13 (none) (tf_ 14 15) HT_ (fun K hK => ?_)
 have hs27 : w25.cell? ⟨gb396, 0, none⟩ = some (.slice none 0 0) := (blk_cell BK396.out 0).trans rfl
 have hfs27 := blk_frozen BK396.out 0
 have hns27_0 := NB395_396.out
 have hms27_0 := NB396_395.out
 have hs29 : w25.cell? ⟨gb396, 1, none⟩ = some (.slice none 0 0) := (blk_cell BK396.out 1).trans rfl
 have hfs29 := blk_frozen BK396.out 1
 have hns29_0 := NB395_396.out
 have hms29_0 := NB396_395.out
 refine skip_ (w1 := ?_) (by rfl) rfl ?_ ?_
 rotate_left
 ·go_simp
  rfl
 refine hK.out _ _ ⟨((cell_far (p := ⟨gb396, _, none⟩) NB395_396.out _).trans (((cell_far (p := ⟨gb396, _, none⟩) NB395_396.out _).trans (hHeld.1)))), ((cell_far (p := ⟨gb396, _, none⟩) NB395_396.out _).trans (((cell_far (p := ⟨gb396, _, none⟩) NB395_396.out _).trans (hHeld.2))))⟩ (fun hHeld => ?_)
 clear hK K
 refine pu_ 14 (some 5) (tf_ 15 15) HT_ ?_
 refine done_ (done_of HT_.out (by kernel_rfl)) ?_
 try go_wp2
 refine bodyPost_ret (results_ct rfl _ _ gb396 71 #[.slice Ao26 t407.length co26, .slice Ao28 t410.length co28] (0, 0) _ rfl (pp_ BK396.out) Try.underlying71 rfl (by kernel_rfl)) rfl ?_
 exact ⟨_, _, er_, pr_ (Kd.R_mono (rf2_ HO409.out BK396.out) (fun _ hk => trivial)), ps_ (Kd.S_mono (Kd.S_far (p := ⟨gb396, 1, none⟩) (Kd.S_far (p := ⟨gb396, 0, none⟩) (Kd.S_types HO412.out BK396.out (by decide)) (fun _ hk => hk.2) (.slice Ao26 t407.length co26)) (fun _ hk => hk.2) (.slice Ao28 t410.length co28)) (fun _ hk => hk.1.1.1.1)), pb2_ HB.out GE395.out GE396.out⟩

end Go.Proofs.Ytlcpaebidnaolaa.Print
