-- Written by a program of this session (printx.py) out of the translation; Lean checks it.
import Derived.Test.YtlcpaebidnaolaaPrint0
import Derived.Test.YtlcpaebidnaolaaPrint3
import Derived.Test.YtlcpaebidnaolaaPrint5
namespace Go.Proofs.Ytlcpaebidnaolaa.Print
open Go.RowKit Go.Proofs.YtlcpaebidnaolaaW.PrintWords Go.Proofs.YtlcpaebidnaolaaW.PrintLast Go.Proofs.YtlcpaebidnaolaaW.PrintMore Go.Proofs.Ytlcpaebidnaolaa.Short
attribute [local go_sem] max2_int min2_int max_two min_two max_three min_three max_four min_four   -- for this text's walks alone
set_option linter.unusedVariables false
set_option maxHeartbeats 8000000
set_option maxRecDepth 100000
set_option linter.unusedSimpArgs false

/-! ### spec_Remember: function 57 -/
mutual
def spec_Remember.j0 : Nat → List (S61) → Int → List Int → Int → List (S61) → Bool → Option ((List (S61)))
 | 0, _, _, _, _, _, _ => none
 | k + 1, x0, x1, x2, x3, x9, x10 => spec_Remember.l0 k x0 x1 x2 x3 x9 x10 0
def spec_Remember.l0 : Nat → List (S61) → Int → List Int → Int → List (S61) → Bool → Int → Option ((List (S61)))
 | 0, _, _, _, _, _, _, _ => none
 | k + 1, x0, x1, x2, x3, x9, x10, x11 => if x11 < (x0.length : Int) then (if x10 = true then (if 0 ≤ x11 then (if ((rd_T61 x0 x11).f0) = x1 then (spec_Remember.l0 k x0 x1 x2 x3 x9 x10 (wrap64 (x11 + 1))) else ((spec_l23Copy.f ((rd_T61 x0 x11).f0) ((rd_T61 x0 x11).f1) ((rd_T61 x0 x11).f2)).bind fun bt307 => (if x9.length < 3518437208883 then (spec_Remember.l0 k x0 x1 x2 x3 (x9 ++ [(⟨bt307.1, bt307.2.1, bt307.2.2⟩ : S61)]) x10 (wrap64 (x11 + 1))) else (none)))) else (none)) else (if 0 ≤ x11 then ((spec_l23Copy.f ((rd_T61 x0 x11).f0) ((rd_T61 x0 x11).f1) ((rd_T61 x0 x11).f2)).bind fun bt316 => (if x9.length < 3518437208883 then (spec_Remember.l0 k x0 x1 x2 x3 (x9 ++ [(⟨bt316.1, bt316.2.1, bt316.2.2⟩ : S61)]) x10 (wrap64 (x11 + 1))) else (none))) else (none))) else (if x10 = true then ((some (([] : List Int) : List Int)).bind fun y324 => (if y324.length + x2.length < 17592186044416 then (if x9.length < 3518437208883 then (some (x9 ++ [(⟨x1, (y324 ++ x2), x3⟩ : S61)])) else (none)) else (none))) else (some x9))
end
def spec_Remember.f (k : Nat) (l0 : List (S61)) (a1 : Int) (l2 : List Int) (a3 : Int) : Option ((List (S61))) := (some (([] : List (S61)) : List (S61))).bind fun y301 => ((spec_l1In.f a1 0 5).bind fun t304 => (if t304 = true then (spec_Remember.j0 k l0 a1 l2 a3 y301 (decide (a3 ≥ 0))) else (spec_Remember.j0 k l0 a1 l2 a3 y301 false)))
theorem spec_Remember.mono_l : ∀ k, (∀ y0 y1 y2 y3 y4 y5, LeO (spec_Remember.j0 k y0 y1 y2 y3 y4 y5) (spec_Remember.j0 (k + 1) y0 y1 y2 y3 y4 y5)) ∧ (∀ y0 y1 y2 y3 y4 y5 y6, LeO (spec_Remember.l0 k y0 y1 y2 y3 y4 y5 y6) (spec_Remember.l0 (k + 1) y0 y1 y2 y3 y4 y5 y6))
 | 0 => ⟨fun _ _ _ _ _ _ r h => by simp [spec_Remember.j0] at h, fun _ _ _ _ _ _ _ r h => by simp [spec_Remember.l0] at h⟩
 | k + 1 => by
  obtain ⟨ih0, ih1⟩ := spec_Remember.mono_l k
  refine ⟨?_, ?_⟩
  ·intro y0 y1 y2 y3 y4 y5
   unfold spec_Remember.j0
   exact mo2_ ih0 ih1
  ·intro y0 y1 y2 y3 y4 y5 y6
   unfold spec_Remember.l0
   exact mo2_ ih0 ih1
theorem spec_Remember.mono : ∀ a0 a1 a2 a3 k, LeO (spec_Remember.f k a0 a1 a2 a3) (spec_Remember.f (k + 1) a0 a1 a2 a3) := by
 intro a0 a1 a2 a3 k
 obtain ⟨ih0, ih1⟩ := spec_Remember.mono_l k
 unfold spec_Remember.f
 exact mo2_ ih0 ih1
theorem spec_Remember.calls (k : Nat) (A0 : Option Addr) (c0 : Nat) (l0 : List (S61)) (a1 : Int) (A2 : Option Addr) (c2 : Nat) (l2 : List Int) (a3 : Int) (r : List (S61)) (w : World) (hr0 : Kd.C k61 w A0 l0.length l0) (hc0 : l0.length ≤ c0) (hr2 : Kd.C (Kd.int .i64) w A2 l2.length l2) (hc2 : l2.length ≤ c2) (h : spec_Remember.f k l0 a1 l2 a3 = some r) :
  Calls Try.prog 57 #[.slice A0 l0.length c0, .int .i64 a1, .slice A2 l2.length c2, .int .i64 a3] w fun e w' => ∃ v0_ : Value, e = .returned (v0_) ∧ Kd.S k61 61 w' w.heap.size (fun _ => True) v0_ r ∧ Below w.heap.size w w' := by
 have hu61 := Try.underlying61
 have HR0 := Q_ hr0
 have HC0 := Q_ hc0
 clear hr0 hc0
 have HR2 := Q_ hr2
 have HC2 := Q_ hc2
 clear hr2 hc2
 have HB := Q_ (Below.refl w.heap.size w)
 have H : ((some (([] : List (S61)) : List (S61))).bind fun y301 => ((spec_l1In.f a1 0 5).bind fun t304 => (if t304 = true then (spec_Remember.j0 k l0 a1 l2 a3 y301 (decide (a3 ≥ 0))) else (spec_Remember.j0 k l0 a1 l2 a3 y301 false)))) = some r := h
 clear h
 obtain ⟨y301, hy301⟩ : ∃ y_ : List (S61), y_ = (([] : List (S61))) := ⟨_, rfl⟩
 replace H : ((spec_l1In.f a1 0 5).bind fun t304 => (if t304 = true then (spec_Remember.j0 k l0 a1 l2 a3 y301 (decide (a3 ≥ 0))) else (spec_Remember.j0 k l0 a1 l2 a3 y301 false))) = some r := hb_ hy301 H
 have Ny301 := Q_ hy301
 clear hy301
 have HC5 := Q_ H
 clear H
 go_enter Try.func57, Try.ntmps57
 go_upto_region 2 with (first | ((with_reducible refine gate_dst (N := 12) rfl ?_); refine Kd.S_lit k61 _ 61 ?hg (N := 12) ?hd (xs := ([] : List (S61))) (inner := []) (ok := fun _ => True) (okp := fun _ => True) ?hr ?hp (fun _ hk => hk) trivial (Below.refl _ _) (Nat.le_refl _) (by simp) ?_; (case hd => rfl); (case hg => rfl); (case hr => first | (go_simp; done) | (go_simp; rfl)); (case hp => exact (Reps.none _ _)); intro v302 w6 ho7 hb hg_ hnew_; clear hg_ hnew_; (first | rw [← Ny301.out] at ho7 | (simp only [Int.reduceToNat] at ho7; rw [← Ny301.out] at ho7)); have _ := Q_ (Kd.S_lower ho7 (below_size (pb_ HB.out))); have _ := Q_ (below_step (pb_ HB.out) hb); clear HB; rename_i HO303 HB; clear hb ho7))
 (try simp only [Act.put, List.setIfInBounds_toArray, List.set_cons_zero, List.set_cons_succ])
 go_cut [10] (fun v10 wc => ∃ (kq : Nat) (x10_4 : Bool), v10 = .bool x10_4 ∧ Aside0 (spec_Remember.j0 kq l0 a1 l2 a3 y301 x10_4 = some r) ∧ Aside0 (kq ≤ k) ∧ Aside0 (Kd.S k61 61 wc w.heap.size (fun _ => True) v302 y301) ∧ Aside0 (Below w.heap.size w wc))
 case first =>
  have H := HC5.out
  clear HC5
  replace H := Option.bind_eq_some_iff.mp H
  obtain ⟨t304, A80, H⟩ := H
  (try dsimp only at H)
  have A8 := Q_ A80
  clear A80
  by_cases c9 : t304 = true
  rotate_left
  ·replace c9 := bf_ c9
   subst c9
   rw [if_neg ff_] at H
   have H' := Q_ H
   clear H
   go_wp2_with (first | ((with_reducible refine gate_callee (f := 72) rfl ?_); refine gl_ (some 14) Try.func72 #[.int .i64 a1, .int .i64 0, .int .i64 5] ?_; (with_reducible refine (spec_l1In.calls a1 0 5 false _ A8.out).mono ?_); rintro e w' ⟨rfl, ⟨nd, rfl⟩⟩; refine ⟨_, rfl, ?_⟩))
   go_meet
   case rel => exact ⟨_, (false), el_, H', ⟨by first | omega | exact Nat.le_refl _⟩, ⟨ps_ HO303.out⟩, ⟨pb_ HB.out⟩⟩
  subst c9
  rw [if_pos rfl] at H
  have H' := Q_ H
  clear H
  go_wp2_with (first | ((with_reducible refine gate_callee (f := 72) rfl ?_); refine gl_ (some 14) Try.func72 #[.int .i64 a1, .int .i64 0, .int .i64 5] ?_; (with_reducible refine (spec_l1In.calls a1 0 5 true _ A8.out).mono ?_); rintro e w' ⟨rfl, ⟨nd, rfl⟩⟩; refine ⟨_, rfl, ?_⟩))
  go_meet
  case rel => exact ⟨_, (decide (a3 ≥ 0)), el_, H', ⟨by first | omega | exact Nat.le_refl _⟩, ⟨ps_ HO303.out⟩, ⟨pb_ HB.out⟩⟩
 clear HC5
 try clear c2
 try clear p2
 try clear c5
 try clear c7
 try clear c9
 obtain ⟨kq, x10_4, rfl, HA, HJ4, HO_9, HB⟩ := hcut
 rcases kq with _ | kj4
 ·exact absurd HA.out (by simp [spec_Remember.j0])
 have H := HA.out
 clear HA
 simp only [spec_Remember.j0] at H
 have H' := Q_ H
 clear H
 go_wp2
 go_loopg [9, 11] kj4 (fun kq v9 v11 w' => ∃ (x9_2 : List (S61)) (x11_2 : Int), v11 = .int .i64 x11_2 ∧ Aside0 (spec_Remember.l0 kq l0 a1 l2 a3 x9_2 x10_4 x11_2 = some r) ∧ Aside0 (kq ≤ kj4) ∧ Aside0 (Kd.S k61 61 w' w.heap.size (fun _ => True) v9 x9_2) ∧ Aside0 (Below w.heap.size w w'))
 case atStart => exact ⟨(y301), (0), el_, H', ⟨Nat.le_refl _⟩, ⟨ps_ HO_9.out⟩, ⟨pb_ HB.out⟩⟩
 clear H'
 try clear c2
 try clear p2
 try clear c5
 try clear c7
 try clear c9
 try clear p2
 obtain ⟨x9_2, x11_2, rfl, HA, HK2, HO_9, HB⟩ := hrel
 rcases gk with _ | k2
 ·exact absurd HA.out (by simp [spec_Remember.l0])
 have H := HA.out
 clear HA
 simp only [spec_Remember.l0] at H
 by_cases c10 : x11_2 < (l0.length : Int)
 rotate_left
 ·rw [if_neg c10] at H
  have c10b0 : decide (x11_2 < (l0.length : Int)) = false := decide_eq_false c10
  clear c10
  by_cases c11 : x10_4 = true
  rotate_left
  ·replace c11 := bf_ c11
   subst c11
   rw [if_neg ff_] at H
   obtain rfl := Option.some.inj H
   go_wp2
   go_ret
   exact ⟨_, er_, ps_ HO_9.out, pb_ HB.out⟩
  subst c11
  rw [if_pos rfl] at H
  obtain ⟨y324, hy324⟩ : ∃ y_ : List Int, y_ = (([] : List Int)) := ⟨_, rfl⟩
  replace H : (if y324.length + l2.length < 17592186044416 then (if x9_2.length < 3518437208883 then (some (x9_2 ++ [(⟨a1, (y324 ++ l2), a3⟩ : S61)])) else (none)) else (none)) = some r := hb_ hy324 H
  have Ny324 := Q_ hy324
  clear hy324
  by_cases c12 : y324.length + l2.length < 17592186044416
  rotate_left
  ·rw [if_neg c12] at H
   exact absurd H (by simp)
  rw [if_pos c12] at H
  have LMc12 := Q_ c12
  clear c12
  obtain ⟨y327, hy327⟩ : ∃ y_ : List Int, y_ = (y324 ++ l2) := ⟨_, rfl⟩
  replace H : (if x9_2.length < 3518437208883 then (some (x9_2 ++ [(⟨a1, y327, a3⟩ : S61)])) else (none)) = some r := hb_ hy327 H
  have Ny327 := Q_ hy327
  clear hy327
  by_cases c13 : x9_2.length < 3518437208883
  rotate_left
  ·rw [if_neg c13] at H
   exact absurd H (by simp)
  rw [if_pos c13] at H
  have LMc13 := Q_ c13
  clear c13
  obtain ⟨y330, hy330⟩ : ∃ y_ : List (S61), y_ = (x9_2 ++ [(⟨a1, y327, a3⟩ : S61)]) := ⟨_, rfl⟩
  replace H : (some y330) = some r := hb_ hy330 H
  have Ny330 := Q_ hy330
  clear hy330
  obtain rfl := Option.some.inj H
  go_wp2_with (first | ((with_reducible refine gate_dst (N := 47) rfl ?_); refine Kd.R_lit (Kd.int .i64) _ 3 ?hg (N := 47) ?hd (xs := ([] : List Int)) (inner := []) (ok := fun _ => True) (okp := fun _ => True) ?hr ?hp (fun _ hk => hk) trivial (Below.refl _ _) (Nat.le_refl _) (by simp) ?_; (case hd => rfl); (case hg => rfl); (case hr => first | (go_simp; done) | (go_simp; rfl)); (case hp => exact (Reps.none _ _)); intro v325 w14 ho15 hb hg_ hnew_; clear hg_ hnew_; (first | rw [← Ny324.out] at ho15 | (simp only [Int.reduceToNat] at ho15; rw [← Ny324.out] at ho15)); have _ := Q_ (Kd.S_elder' (ps_ HO_9.out) (Kd.R_base ho15) hb); have _ := Q_ (Kd.R_lower ho15 (below_size (pb_ HB.out))); have _ := Q_ (below_step (pb_ HB.out) hb); clear HO_9 HB; rename_i HO_9 HO326 HB; clear hb ho15) | ((with_reducible refine gate_builtin (b := .append) (xs := #[.tmp 47, .tmp 48]) rfl ?_); at_builtin; refine Kd.R_append_rows (Kd.int .i64) (w0 := w) w.heap.size rfl (.tmp 47) (.tmp 48) 25 3 (.int .i64 0) 8 rfl Try.underlying25 info3 rfl (by decide) (by omega) v325 y324 l2 _ _ _ (fun _ => True) (fun _ => False) rfl rfl ?aO ?aR (fun _ _ h => h) (fun _ h => h.elim) ?aF ?aB ?aS ?aL ?_; (case aR => exact cb_ HR2 HB); (case aB => exact (pb_ HB.out)); (case aF => exact (fun _ _ => trivial)); (case aO => exact (pr_ HO326.out)); (case aS => exact (below_size (pb_ HB.out))); (case aL => have := LMc12.out; omega); intro v328 w16 ho hb hg hat; rw [← Ny327.out] at ho; have _ := Q_ (Kd.S_after (ok := (fun _ => True)) (ps_ HO_9.out) hg hat); have _ := Q_ (hb); have _ := Q_ (ho); clear HO_9 HB HO326; rename_i HO_9 HB HO329; clear ho hb hg hat; obtain ⟨Ao17, co17, eo17⟩ := Kd.R_slice HO329.out; subst eo17) | ((with_reducible refine gate_builtin (b := .append) (xs := #[.tmp 45, .tmp 52]) rfl ?_); at_builtin; refine Kd.S_append k61 (w0 := w) w.heap.size rfl (.tmp 45) (.tmp 52) 24 61 (.agg #[(.int .i64 0), (.slice none 0 0), (.int .i64 0)]) 40 rfl Try.underlying24 info61 rfl (by decide) (by omega) u9 x9_2 (⟨a1, y327, a3⟩ : S61) [.int .i64 a1, .slice Ao17 y327.length co17, .int .i64 a3] (fun _ => True) (fun k_ => some k_ = (.slice Ao17 y327.length co17 : Value).ownBlock) rfl rfl ?aP (fun k_ hk_ => ((Kd.R_mono (ok' := fun k_ => ((fun _ => True)) k_ ∧ some k_ ≠ (u9 : Value).ownBlock) (Kd.R_apart' (HO329.out) (Kd.S_typed HO_9.out) (by decide)) (fun k_ hk => ⟨trivial, hk.2⟩))).1 k_ hk_.symm) ?aF ?aO ?aB ?aS ?aL ?_; (case aP => exact k61_mkM _ _ _ (⟨a1, y327, a3⟩ : S61) (Kd.R_mono (Kd.R_tight rfl (Kd.R_mono (ok' := fun k_ => ((fun _ => True)) k_ ∧ some k_ ≠ (u9 : Value).ownBlock) (Kd.R_apart' (HO329.out) (Kd.S_typed HO_9.out) (by decide)) (fun k_ hk => ⟨trivial, hk.2⟩))) (fun _ h_ => h_))); (case aB => exact (pb_ HB.out)); (case aF => exact (fun _ _ => trivial)); (case aO => exact (by (with_reducible repeat (first | apply Kd.S_alloc | apply Kd.S_drewN | apply Kd.S_drew)); exact Kd.S_mono HO_9.out (fun k_ hk => ⟨trivial, fun e_ => hk.2 e_⟩))); (case aS => exact (below_size (pb_ HB.out))); (case aL => have := LMc13.out; omega); intro v331 w18 ho hb hg hat; rw [← Ny330.out] at ho; have _ := Q_ (hb); have _ := Q_ (ho); clear HB HO_9 HO329; rename_i HB HO332; clear ho hb hg hat))
  go_ret
  exact ⟨_, er_, ps_ HO332.out, pb_ HB.out⟩
 rw [if_pos c10] at H
 have c10b0 : decide (x11_2 < (l0.length : Int)) = true := decide_eq_true c10
 clear c10
 by_cases c19 : x10_4 = true
 rotate_left
 ·replace c19 := bf_ c19
  subst c19
  rw [if_neg ff_] at H
  by_cases c20 : 0 ≤ x11_2
  rotate_left
  ·rw [if_neg c20] at H
   exact absurd H (by simp)
  rw [if_pos c20] at H
  have c20b0 : decide (0 ≤ x11_2) = true := decide_eq_true c20
  clear c20
  replace H := Option.bind_eq_some_iff.mp H
  obtain ⟨⟨t316, t317, t320⟩, A210, H⟩ := H
  (try dsimp only at H)
  have A21 := Q_ A210
  clear A210
  by_cases c22 : x9_2.length < 3518437208883
  rotate_left
  ·rw [if_neg c22] at H
   exact absurd H (by simp)
  rw [if_pos c22] at H
  have LMc22 := Q_ c22
  clear c22
  obtain ⟨y321, hy321⟩ : ∃ y_ : List (S61), y_ = (x9_2 ++ [(⟨t316, t317, t320⟩ : S61)]) := ⟨_, rfl⟩
  replace H : (spec_Remember.l0 k2 l0 a1 l2 a3 y321 false (wrap64 (x11_2 + 1))) = some r := hb_ hy321 H
  have Ny321 := Q_ hy321
  clear hy321
  have H' := Q_ H
  clear H
  have p315 : 0 ≤ (x11_2 : Int) := dt_
  have q315 : x11_2 < (l0.length : Int) := dt_
  obtain ⟨ad315, A315_1, c315_1, e315, hx315_0, hx315_1, hx315_2, hl315_1, hi315_1⟩ := at_T61 HR0.out x11_2 p315 q315
  cases e315
  replace hx315_0 := bt_ HB hx315_0
  replace hx315_1 := bt_ HB hx315_1
  replace hx315_2 := bt_ HB hx315_2
  have HR315_1 := Q_ hi315_1
  have HC315_1 := Q_ hl315_1
  clear hi315_1 hl315_1
  replace p315 := eq_true p315
  replace q315 := eq_true q315
  go_wp2_with (first | ((with_reducible refine gate_callee (f := 75) rfl ?_); refine gl_ (some 41) Try.func75 #[.agg #[.int .i64 ((rd_T61 l0 x11_2).f0), .slice A315_1 ((rd_T61 l0 x11_2).f1).length c315_1, .int .i64 ((rd_T61 l0 x11_2).f2)]] ?_; (with_reducible refine (spec_l23Copy.calls ((rd_T61 l0 x11_2).f0) _ _ ((rd_T61 l0 x11_2).f1) ((rd_T61 l0 x11_2).f2) t316 t317 t320 _ ?side1 ?side2 A21.out).mono ?_); (case side1 => exact cb_ HR315_1 HB); (case side2 => exact HC315_1.out); rintro e w23 ⟨v318, rfl, ho0, hb⟩; refine ⟨_, rfl, ?_⟩; have _ := Q_ (Kd.S_elder' (ps_ HO_9.out) (Kd.R_base ho0) hb); have _ := Q_ (Kd.R_lower ho0 (below_size (pb_ HB.out))); have _ := Q_ (below_step (pb_ HB.out) hb); clear HO_9 HB; rename_i HO_9 HO319 HB; (try clear hb); (try clear hb2); (try clear hk); (try clear hi); (try clear ho0); obtain ⟨Ao25, co25, eo25⟩ := Kd.R_slice HO319.out; subst eo25) | ((with_reducible refine gate_builtin (b := .append) (xs := #[.tmp 36, .tmp 42]) rfl ?_); at_builtin; refine Kd.S_append k61 (w0 := w) w.heap.size rfl (.tmp 36) (.tmp 42) 24 61 (.agg #[(.int .i64 0), (.slice none 0 0), (.int .i64 0)]) 40 rfl Try.underlying24 info61 rfl (by decide) (by omega) u9 x9_2 (⟨t316, t317, t320⟩ : S61) [.int .i64 t316, .slice Ao25 t317.length co25, .int .i64 t320] (fun _ => True) (fun k_ => some k_ = (.slice Ao25 t317.length co25 : Value).ownBlock) rfl rfl ?aP (fun k_ hk_ => ((Kd.R_mono (ok' := fun k_ => ((fun _ => True)) k_ ∧ some k_ ≠ (u9 : Value).ownBlock) (Kd.R_apart' (HO319.out) (Kd.S_typed HO_9.out) (by decide)) (fun k_ hk => ⟨trivial, hk.2⟩))).1 k_ hk_.symm) ?aF ?aO ?aB ?aS ?aL ?_; (case aP => exact k61_mkM _ _ _ (⟨t316, t317, t320⟩ : S61) (Kd.R_mono (Kd.R_tight rfl (Kd.R_mono (ok' := fun k_ => ((fun _ => True)) k_ ∧ some k_ ≠ (u9 : Value).ownBlock) (Kd.R_apart' (HO319.out) (Kd.S_typed HO_9.out) (by decide)) (fun k_ hk => ⟨trivial, hk.2⟩))) (fun _ h_ => h_))); (case aB => exact (pb_ HB.out)); (case aF => exact (fun _ _ => trivial)); (case aO => exact (by (with_reducible repeat (first | apply Kd.S_alloc | apply Kd.S_drewN | apply Kd.S_drew)); exact Kd.S_mono HO_9.out (fun k_ hk => ⟨trivial, fun e_ => hk.2 e_⟩))); (case aS => exact (below_size (pb_ HB.out))); (case aL => have := LMc22.out; omega); intro v322 w24 ho hb hg hat; rw [← Ny321.out] at ho; have _ := Q_ (hb); have _ := Q_ (ho); clear HB HO_9 HO319; rename_i HB HO323; clear ho hb hg hat))
  go_roundg k2
  case measure => have := HJ4.out; have := HK2.out; omega
  case rel => exact ⟨(y321), (wrap64 (x11_2 + 1)), el_, H', ⟨by have := HJ4.out; have := HK2.out; omega⟩, ⟨ps_ HO323.out⟩, ⟨pb_ HB.out⟩⟩
 subst c19
 rw [if_pos rfl] at H
 by_cases c26 : 0 ≤ x11_2
 rotate_left
 ·rw [if_neg c26] at H
  exact absurd H (by simp)
 rw [if_pos c26] at H
 have c26b0 : decide (0 ≤ x11_2) = true := decide_eq_true c26
 clear c26
 by_cases c27 : ((rd_T61 l0 x11_2).f0) = a1
 ·rw [if_pos c27] at H
  have c27b0 : (((rd_T61 l0 x11_2).f0) == a1) = true := beq_iff_eq.mpr c27
  have c27b1 : (((rd_T61 l0 x11_2).f0) != a1) = false := bne_eq_false_iff_eq.mpr c27
  clear c27
  have H' := Q_ H
  clear H
  have p305 : 0 ≤ (x11_2 : Int) := dt_
  have q305 : x11_2 < (l0.length : Int) := dt_
  obtain ⟨ad305, A305_1, c305_1, e305, hx305_0, hx305_1, hx305_2, hl305_1, hi305_1⟩ := at_T61 HR0.out x11_2 p305 q305
  cases e305
  replace hx305_0 := bt_ HB hx305_0
  replace hx305_1 := bt_ HB hx305_1
  replace hx305_2 := bt_ HB hx305_2
  have HR305_1 := Q_ hi305_1
  have HC305_1 := Q_ hl305_1
  clear hi305_1 hl305_1
  replace p305 := eq_true p305
  replace q305 := eq_true q305
  go_wp2
  go_roundg k2
  case measure => have := HJ4.out; have := HK2.out; omega
  case rel => exact ⟨(x9_2), (wrap64 (x11_2 + 1)), el_, H', ⟨by have := HJ4.out; have := HK2.out; omega⟩, ⟨ps_ HO_9.out⟩, ⟨pb_ HB.out⟩⟩
 rw [if_neg c27] at H
 have c27b0 : (((rd_T61 l0 x11_2).f0) == a1) = false := beq_eq_false_iff_ne.mpr c27
 have c27b1 : (((rd_T61 l0 x11_2).f0) != a1) = true := bne_iff_ne.mpr c27
 replace H := Option.bind_eq_some_iff.mp H
 obtain ⟨⟨t307, t308, t311⟩, A280, H⟩ := H
 (try dsimp only at H)
 have A28 := Q_ A280
 clear A280
 by_cases c29 : x9_2.length < 3518437208883
 rotate_left
 ·rw [if_neg c29] at H
  exact absurd H (by simp)
 rw [if_pos c29] at H
 have LMc29 := Q_ c29
 clear c29
 obtain ⟨y312, hy312⟩ : ∃ y_ : List (S61), y_ = (x9_2 ++ [(⟨t307, t308, t311⟩ : S61)]) := ⟨_, rfl⟩
 replace H : (spec_Remember.l0 k2 l0 a1 l2 a3 y312 true (wrap64 (x11_2 + 1))) = some r := hb_ hy312 H
 have Ny312 := Q_ hy312
 clear hy312
 have H' := Q_ H
 clear H
 have p305 : 0 ≤ (x11_2 : Int) := dt_
 have q305 : x11_2 < (l0.length : Int) := dt_
 obtain ⟨ad305, A305_1, c305_1, e305, hx305_0, hx305_1, hx305_2, hl305_1, hi305_1⟩ := at_T61 HR0.out x11_2 p305 q305
 cases e305
 replace hx305_0 := bt_ HB hx305_0
 replace hx305_1 := bt_ HB hx305_1
 replace hx305_2 := bt_ HB hx305_2
 have HR305_1 := Q_ hi305_1
 have HC305_1 := Q_ hl305_1
 clear hi305_1 hl305_1
 replace p305 := eq_true p305
 replace q305 := eq_true q305
 have p306 : 0 ≤ (x11_2 : Int) := dt_
 have q306 : x11_2 < (l0.length : Int) := dt_
 obtain ⟨ad306, A306_1, c306_1, e306, hx306_0, hx306_1, hx306_2, hl306_1, hi306_1⟩ := at_T61 HR0.out x11_2 p306 q306
 obtain rfl : ad305 = ad306 := (by injection e306)
 replace hx306_0 := bt_ HB hx306_0
 replace hx306_1 := bt_ HB hx306_1
 replace hx306_2 := bt_ HB hx306_2
 have HR306_1 := Q_ hi306_1
 have HC306_1 := Q_ hl306_1
 clear hi306_1 hl306_1
 replace p306 := eq_true p306
 replace q306 := eq_true q306
 have ea_ := Option.some.inj (hx305_1.symm.trans hx306_1)
 injection ea_ with ea_ en_ ec_
 subst ea_
 subst ec_
 clear en_
 go_wp2_with (first | ((with_reducible refine gate_callee (f := 75) rfl ?_); refine gl_ (some 41) Try.func75 #[.agg #[.int .i64 ((rd_T61 l0 x11_2).f0), .slice A305_1 ((rd_T61 l0 x11_2).f1).length c305_1, .int .i64 ((rd_T61 l0 x11_2).f2)]] ?_; (with_reducible refine (spec_l23Copy.calls ((rd_T61 l0 x11_2).f0) _ _ ((rd_T61 l0 x11_2).f1) ((rd_T61 l0 x11_2).f2) t307 t308 t311 _ ?side1 ?side2 A28.out).mono ?_); (case side1 => exact cb_ HR306_1 HB); (case side2 => exact HC306_1.out); rintro e w30 ⟨v309, rfl, ho0, hb⟩; refine ⟨_, rfl, ?_⟩; have _ := Q_ (Kd.S_elder' (ps_ HO_9.out) (Kd.R_base ho0) hb); have _ := Q_ (Kd.R_lower ho0 (below_size (pb_ HB.out))); have _ := Q_ (below_step (pb_ HB.out) hb); clear HO_9 HB; rename_i HO_9 HO310 HB; (try clear hb); (try clear hb2); (try clear hk); (try clear hi); (try clear ho0); obtain ⟨Ao32, co32, eo32⟩ := Kd.R_slice HO310.out; subst eo32) | ((with_reducible refine gate_builtin (b := .append) (xs := #[.tmp 36, .tmp 42]) rfl ?_); at_builtin; refine Kd.S_append k61 (w0 := w) w.heap.size rfl (.tmp 36) (.tmp 42) 24 61 (.agg #[(.int .i64 0), (.slice none 0 0), (.int .i64 0)]) 40 rfl Try.underlying24 info61 rfl (by decide) (by omega) u9 x9_2 (⟨t307, t308, t311⟩ : S61) [.int .i64 t307, .slice Ao32 t308.length co32, .int .i64 t311] (fun _ => True) (fun k_ => some k_ = (.slice Ao32 t308.length co32 : Value).ownBlock) rfl rfl ?aP (fun k_ hk_ => ((Kd.R_mono (ok' := fun k_ => ((fun _ => True)) k_ ∧ some k_ ≠ (u9 : Value).ownBlock) (Kd.R_apart' (HO310.out) (Kd.S_typed HO_9.out) (by decide)) (fun k_ hk => ⟨trivial, hk.2⟩))).1 k_ hk_.symm) ?aF ?aO ?aB ?aS ?aL ?_; (case aP => exact k61_mkM _ _ _ (⟨t307, t308, t311⟩ : S61) (Kd.R_mono (Kd.R_tight rfl (Kd.R_mono (ok' := fun k_ => ((fun _ => True)) k_ ∧ some k_ ≠ (u9 : Value).ownBlock) (Kd.R_apart' (HO310.out) (Kd.S_typed HO_9.out) (by decide)) (fun k_ hk => ⟨trivial, hk.2⟩))) (fun _ h_ => h_))); (case aB => exact (pb_ HB.out)); (case aF => exact (fun _ _ => trivial)); (case aO => exact (by (with_reducible repeat (first | apply Kd.S_alloc | apply Kd.S_drewN | apply Kd.S_drew)); exact Kd.S_mono HO_9.out (fun k_ hk => ⟨trivial, fun e_ => hk.2 e_⟩))); (case aS => exact (below_size (pb_ HB.out))); (case aL => have := LMc29.out; omega); intro v313 w31 ho hb hg hat; rw [← Ny312.out] at ho; have _ := Q_ (hb); have _ := Q_ (ho); clear HB HO_9 HO310; rename_i HB HO314; clear ho hb hg hat))
 go_roundg k2
 case measure => have := HJ4.out; have := HK2.out; omega
 case rel => exact ⟨(y312), (wrap64 (x11_2 + 1)), el_, H', ⟨by have := HJ4.out; have := HK2.out; omega⟩, ⟨ps_ HO314.out⟩, ⟨pb_ HB.out⟩⟩

end Go.Proofs.Ytlcpaebidnaolaa.Print
