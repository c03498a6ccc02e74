-- Written by a program of this session (printx.py) out of the translation; Lean checks it.
import Derived.Test.YtlcpaebidnaolaaPrint0
import Derived.Test.YtlcpaebidnaolaaPrint2
import Derived.Test.YtlcpaebidnaolaaPrint3
namespace Go.Proofs.Ytlcpaebidnaolaa.Print
open Go.RowKit Go.Proofs.YtlcpaebidnaolaaW.PrintWords Go.Proofs.YtlcpaebidnaolaaW.PrintLast Go.Proofs.YtlcpaebidnaolaaW.PrintMore Go.Proofs.Ytlcpaebidnaolaa.Short
attribute [local go_sem] max2_int min2_int max_two min_two max_three min_three max_four min_four   -- for this text's walks alone
set_option linter.unusedVariables false
set_option maxHeartbeats 8000000
set_option maxRecDepth 100000
set_option linter.unusedSimpArgs false

/-! ### spec_l18Hello: function 61 -/
def spec_l18Hello.f (k : Nat) (l0_0 : List Int) (l0_1 : List (S113)) : Option (List Int × (List (S113))) := (some (([] : List Int) : List Int)).bind fun y216 => (if y216.length + l0_0.length < 17592186044416 then ((spec_l11Copy.f k l0_1).bind fun t222 => (some ((y216 ++ l0_0), t222))) else (none))
theorem spec_l18Hello.mono : ∀ a0 a1 k, LeO (spec_l18Hello.f k a0 a1) (spec_l18Hello.f (k + 1) a0 a1) := by
 intro a0 a1 k
 unfold spec_l18Hello.f
 exact mo1_ spec_l11Copy.mono
def spec_l18Hello.T1 : Bool × List (List Nat × List Nat) := (true, [([], []), ([], []), ([1], [1]), ([0, 2], [0, 2]), ([], []), ([4], [4]), ([5, 3], [5]), ([3, 6], [3, 6]), ([7, 6, 0, 1, 2, 3, 4, 5, 6, 7], [7])])
def spec_l18Hello.B1 : List Nat := [0, 0, 2, 7, 0, 16, 63, 127, 255]
theorem spec_l18Hello.tab1 : rtab .any (opsOf Try.f61 1) = spec_l18Hello.T1 := by kernel_rfl
theorem spec_l18Hello.bits1 : waitsOk spec_l18Hello.T1.2 spec_l18Hello.B1 = true := by kernel_rfl
theorem spec_l18Hello.calls (k : Nat) (A0_0 : Option Addr) (c0_0 : Nat) (l0_0 : List Int) (A0_1 : Option Addr) (c0_1 : Nat) (l0_1 : List (S113)) (r1 : List Int) (r2 : List (S113)) (w : World) (hr0_0 : Kd.C (Kd.int .i64) w A0_0 l0_0.length l0_0) (hc0_0 : l0_0.length ≤ c0_0) (hr0_1 : Kd.C k113 w A0_1 l0_1.length l0_1) (hc0_1 : l0_1.length ≤ c0_1) (h : spec_l18Hello.f k l0_0 l0_1 = some (r1, r2)) :
  Calls Try.prog 61 #[.agg #[.slice A0_0 l0_0.length c0_0, .slice A0_1 l0_1.length c0_1]] w fun e w' => ∃ v0_ v1_ : Value, e = .returned (.agg #[v0_, v1_]) ∧ Kd.R (Kd.int .i64) 3 w' w.heap.size (fun _ => True) v0_ r1 ∧ Kd.S k113 113 w' w.heap.size (fun k_ => some k_ ≠ (v0_ : Value).ownBlock) v1_ r2 ∧ Below w.heap.size w w' := by
 have hu71 := Try.underlying71
 have HR0_0 := Q_ hr0_0
 have HC0_0 := Q_ hc0_0
 clear hr0_0 hc0_0
 have HR0_1 := Q_ hr0_1
 have HC0_1 := Q_ hc0_1
 clear hr0_1 hc0_1
 have HB := Q_ (Below.refl w.heap.size w)
 have H : ((some (([] : List Int) : List Int)).bind fun y216 => (if y216.length + l0_0.length < 17592186044416 then ((spec_l11Copy.f k l0_1).bind fun t222 => (some ((y216 ++ l0_0), t222))) else (none))) = some (r1, r2) := h
 clear h
 obtain ⟨y216, hy216⟩ : ∃ y_ : List Int, y_ = (([] : List Int)) := ⟨_, rfl⟩
 replace H : (if y216.length + l0_0.length < 17592186044416 then ((spec_l11Copy.f k l0_1).bind fun t222 => (some ((y216 ++ l0_0), t222))) else (none)) = some (r1, r2) := hb_ hy216 H
 have Ny216 := Q_ hy216
 clear hy216
 by_cases c2 : y216.length + l0_0.length < 17592186044416
 rotate_left
 ·rw [if_neg c2] at H
  exact absurd H (by simp)
 rw [if_pos c2] at H
 have LMc2 := Q_ c2
 clear c2
 obtain ⟨y219, hy219⟩ : ∃ y_ : List Int, y_ = (y216 ++ l0_0) := ⟨_, rfl⟩
 replace H : ((spec_l11Copy.f k l0_1).bind fun t222 => (some (y219, t222))) = some (r1, r2) := hb_ hy219 H
 have Ny219 := Q_ hy219
 clear hy219
 replace H := Option.bind_eq_some_iff.mp H
 obtain ⟨t222, A30, H⟩ := H
 replace H : (some (y219, t222)) = some (r1, r2) := H
 have A3 := Q_ A30
 clear A30
 simp only [Option.some.injEq, Prod.mk.injEq] at H
 obtain ⟨rfl, rfl⟩ := H
 go_enter Try.func61, Try.ntmps61
 try go_wp2_with (first | ((with_reducible refine gate_dst (N := 1) rfl ?_); refine box_event ?hg (N := 1) ?hd (cs := #[.slice A0_0 l0_0.length c0_0, .slice A0_1 l0_1.length c0_1]) (t := 71) ?hr ?_; (case hd => rfl); (case hg => rfl); (case hr => first | (go_simp; done) | (go_simp; rfl)); intro gb214 hg w4 hbox hb; have _ := Q_ (below_step (pb_ HB.out) hb); have BK214 := Q_ (hbox); have GW214 := Q_ ((by rw [hg]; exact (below_size (pb_ HB.out)) : w.heap.size ≤ gb214)); have GE214 := GW214; clear HB; rename_i HB; clear hb hbox hg) | ((with_reducible refine gate_dst (N := 2) rfl ?_); refine box_event ?hg (N := 2) ?hd (cs := #[.slice none 0 0, .slice none 0 0]) (t := 71) ?hr ?_; (case hd => rfl); (case hg => rfl); (case hr => first | (go_simp; done) | (go_simp; rfl)); intro gb215 hg w5 hbox hb; have _ := Q_ (bb_ BK214.out hb); have _ := Q_ (below_step (pb1_ HB.out GE214.out) hb); have BK215 := Q_ (hbox); have GW215 := Q_ ((by rw [hg]; exact (below_size (pb1_ HB.out GE214.out)) : w.heap.size ≤ gb215)); have GE215 := GW215; have NB214_215 := Q_ ((by rw [hg]; exact Nat.ne_of_lt (blk_lt (pk_ BK214.out)) : gb214 ≠ gb215)); have NB215_214 := Q_ NB214_215.out.symm; clear BK214 HB; rename_i BK214 HB; clear hb hbox hg))
 have _ := Q_ (blk_drew BK214.out)
 have _ := Q_ (blk_drew BK215.out)
 have _ := Q_ (below_drew1 HB.out)
 clear BK214 BK215 HB
 rename_i BK214 BK215 HB
 refine start_ (n := 9) (S := fun w' => w'.cell? ⟨gb214, 0, none⟩ = some (.slice A0_0 l0_0.length c0_0) ∧ w'.cell? ⟨gb214, 1, none⟩ = some (.slice A0_1 l0_1.length c0_1)) (ds := []) (tf_ 0 9) (by kernel_rfl) rfl rfl (sb_ BK214.out) (fun hHeld => ?_); refine with_tabW spec_l18Hello.tab1 spec_l18Hello.bits1 (fun HT_ HW_ => ?_)
 generalize w5.drew = w6 at BK214 BK215 HB hHeld ⊢
 refine pu_ 1 (some 4) (tm_ 9 2) HT_ ?_
 refine pu_ 4 (some 7) (tm_ 9 18) HT_ ?_
 refine ta_ 2 (some 5) (tm_ 9 22) HT_ HW_ hHeld ?_
 refine ta_ 5 (some 8) (tm_ 9 54) HT_ HW_ hHeld ?_
 refine on_ 0 (some 3) (tm_ 9 55) HT_ (fun K hK => ?_)
 refine Kd.R_lit_step (Kd.int .i64) _ 3 ?hg (N := 3) ?hd (xs := ([] : List Int)) (inner := []) (ok := fun _ => True) (okp := fun _ => True) ?hr ?hp (fun _ hk => hk) trivial (Below.refl _ _) (Nat.le_refl _) (by simp) ?_; (case hd => rfl); (case hg => rfl); (case hr => first | (go_simp; done) | (go_simp; rfl)); (case hp => exact (Reps.none _ _))
 intro v217 w7 ho8 hb hg_ hnew_
 clear hg_ hnew_
 (first | rw [← Ny216.out] at ho8 | (simp only [Int.reduceToNat] at ho8; rw [← Ny216.out] at ho8))
 have _ := Q_ (Kd.R_lower ho8 (below_size (pb2_ HB.out GE214.out GE215.out)))
 have _ := Q_ (bb_ BK214.out hb)
 have _ := Q_ (bb_ BK215.out hb)
 have _ := Q_ (below_step (pb2_ HB.out GE214.out GE215.out) hb)
 clear BK214 BK215 HB
 rename_i HO218 BK214 BK215 HB
 clear hb ho8
 refine hK.out _ _ (sb_ BK214.out) (fun hHeld => ?_)
 clear hK K
 refine no_ (some 3) ?_
 refine on_ 3 (some 6) (tf_ 6 9) HT_ (fun K hK => ?_)
 refine Kd.R_append_rows_step (Kd.int .i64) (w0 := w) w.heap.size (by rfl) (.tmp 3) (.tmp 5) 25 3 (.int .i64 0) 8 rfl Try.underlying25 info3 rfl (by decide) (by omega) v217 y216 l0_0 _ _ _ (fun _ => True) (fun _ => False) rfl rfl ?aO ?aR (fun _ _ h => h) (fun _ h => h.elim) ?aF ?aB ?aS ?aL ?_
 (case aR => exact cb_ HR0_0 HB)
 (case aB => exact (pb2_ HB.out GE214.out GE215.out))
 (case aF => exact (fun _ _ => trivial))
 (case aO => exact (pr_ HO218.out))
 (case aS => exact (below_size (pb2_ HB.out GE214.out GE215.out)))
 (case aL => have := LMc2.out; omega)
 intro v220 w9 ho hb hg hat
 rw [← Ny219.out] at ho
 have _ := Q_ (blk_grown (g := gb214) (o := .cells #[.slice A0_0 l0_0.length c0_0, .slice A0_1 l0_1.length c0_1] 71 (0, 0)) (pk_ BK214.out) hg (Kd.R_ne HO218.out BK214.out (by decide)))
 have _ := Q_ (blk_grown (g := gb215) (o := .cells #[.slice none 0 0, .slice none 0 0] 71 (0, 0)) (pk_ BK215.out) hg (Kd.R_ne HO218.out BK215.out (by decide)))
 have _ := Q_ (hb)
 have _ := Q_ (ho)
 clear BK214 BK215 HB HO218
 rename_i BK214 BK215 HB HO221
 clear ho hb hg hat
 refine hK.out _ _ (sb_ BK214.out) (fun hHeld => ?_)
 clear hK K
 refine no_ (some 6) ?_
 refine on_ 6 (some 9) (tf_ 7 9) HT_ (fun K hK => ?_)
 refine goes_ Try.func79 (by kernel_rfl) rfl #[.slice A0_1 l0_1.length c0_1] (by rfl) rfl rfl mp_ ?_
 with_reducible refine (spec_l11Copy.calls k _ _ l0_1 t222 _ ?side1 ?side2 A3.out).mono ?_
 (case side1 => exact cb_ HR0_1 HB)
 (case side2 => exact HC0_1.out)
 rintro e w10 ⟨v223, rfl, ho0, hb⟩
 refine ⟨_, rfl, ?_⟩
 have _ := Q_ (Kd.R_below (pr_ HO221.out) hb)
 have _ := Q_ (Kd.S_lower (Kd.S_new' ho0 (Kd.R_lt (pr_ HO221.out))) (below_size (pb2_ HB.out GE214.out GE215.out)))
 have _ := Q_ (bb_ BK214.out hb)
 have _ := Q_ (bb_ BK215.out hb)
 have _ := Q_ (below_step (pb2_ HB.out GE214.out GE215.out) hb)
 clear HO221 BK214 BK215 HB
 rename_i HO221 HO224 BK214 BK215 HB
 (try clear hb)
 (try clear hb2)
 (try clear hk)
 (try clear hi)
 (try clear ho0)
 obtain ⟨Ao11, co11, eo11⟩ := Kd.S_slice HO224.out
 (first | subst eo11 | (injection eo11 with f1_ f2_ f3_; have f4_ := f1_.symm; have f5_ := f3_.symm; clear f1_ f2_ f3_; subst f4_; subst f5_))
 obtain ⟨Ao12, co12, eo12⟩ := Kd.R_slice HO221.out
 (first | subst eo12 | (injection eo12 with f1_ f2_ f3_; have f4_ := f1_.symm; have f5_ := f3_.symm; clear f1_ f2_ f3_; subst f4_; subst f5_))
 refine hK.out _ _ (sb_ BK214.out) (fun hHeld => ?_)
 clear hK K
 refine no_ (some 9) ?_
 refine pu_ 7 (some 10) (tf_ 8 9) HT_ ?_
 refine on_ 8 (none) (tf_ 9 9) HT_ (fun K hK => ?_)
 have hs13 : w10.cell? ⟨gb215, 0, none⟩ = some (.slice none 0 0) := (blk_cell BK215.out 0).trans rfl
 have hfs13 := blk_frozen BK215.out 0
 have hns13_0 := NB214_215.out
 have hms13_0 := NB215_214.out
 have hs14 : w10.cell? ⟨gb215, 1, none⟩ = some (.slice none 0 0) := (blk_cell BK215.out 1).trans rfl
 have hfs14 := blk_frozen BK215.out 1
 have hns14_0 := NB214_215.out
 have hms14_0 := NB215_214.out
 refine skip_ (w1 := ?_) (by rfl) rfl ?_ ?_
 rotate_left
 ·go_simp
  rfl
 refine hK.out _ _ ⟨((cell_far (p := ⟨gb215, _, none⟩) NB214_215.out _).trans (((cell_far (p := ⟨gb215, _, none⟩) NB214_215.out _).trans (hHeld.1)))), ((cell_far (p := ⟨gb215, _, none⟩) NB214_215.out _).trans (((cell_far (p := ⟨gb215, _, none⟩) NB214_215.out _).trans (hHeld.2))))⟩ (fun hHeld => ?_)
 clear hK K
 refine done_ (done_of HT_.out (by kernel_rfl)) ?_
 try go_wp2
 refine bodyPost_ret (results_cell_row rfl _ _ gb215 71 #[.slice Ao12 y219.length co12, .slice Ao11 t222.length co11] (0, 0) _ rfl (pp_ BK215.out) Try.underlying71 rfl (by kernel_rfl)) rfl ?_
 exact ⟨_, _, er_, pr_ (Kd.R_mono (rf2_ HO221.out BK215.out) (fun _ hk => trivial)), ps_ (Kd.S_mono (Kd.S_far (p := ⟨gb215, 1, none⟩) (Kd.S_far (p := ⟨gb215, 0, none⟩) (Kd.S_types HO224.out BK215.out (by decide)) (fun _ hk => hk.2) (.slice Ao12 y219.length co12)) (fun _ hk => hk.2) (.slice Ao11 t222.length co11)) (fun _ hk => hk.1.2)), pb2_ HB.out GE214.out GE215.out⟩

/-! ### spec_IsBox: function 98 -/
def spec_IsBox.f (k : Nat) (a0_0 : Int) (l0_1 : List Int) (l0_2 : List Int) (a0_3 : Bool) : Option (Bool) := (spec_l1In.f a0_0 0 9).bind fun t226 => (if t226 = true then (if (l0_1.length : Int) ≤ 6 then (if (l0_2.length : Int) ≤ 6 then ((spec_l9Byte.f k l0_1).bind fun t227 => (if t227 = true then ((spec_l9Byte.f k l0_2).bind fun t228 => (some t228)) else (some false))) else (some false)) else (some false)) else (some false))
theorem spec_IsBox.mono : ∀ a0 a1 a2 a3 k, LeO (spec_IsBox.f k a0 a1 a2 a3) (spec_IsBox.f (k + 1) a0 a1 a2 a3) := by
 intro a0 a1 a2 a3 k
 unfold spec_IsBox.f
 exact mo1_ spec_l9Byte.mono
theorem spec_IsBox.calls (k : Nat) (a0_0 : Int) (A0_1 : Option Addr) (c0_1 : Nat) (l0_1 : List Int) (A0_2 : Option Addr) (c0_2 : Nat) (l0_2 : List Int) (a0_3 : Bool) (r : Bool) (w : World) (hr0_1 : Kd.C (Kd.int .i64) w A0_1 l0_1.length l0_1) (hc0_1 : l0_1.length ≤ c0_1) (hr0_2 : Kd.C (Kd.int .i64) w A0_2 l0_2.length l0_2) (hc0_2 : l0_2.length ≤ c0_2) (h : spec_IsBox.f k a0_0 l0_1 l0_2 a0_3 = some r) :
  Calls Try.prog 98 #[.agg #[.int .i64 a0_0, .slice A0_1 l0_1.length c0_1, .slice A0_2 l0_2.length c0_2, .bool a0_3]] w fun e w' => e = .returned (.bool r) ∧ Below w.heap.size w w' := by
 have hu89 := Try.underlying89
 have HR0_1 := Q_ hr0_1
 have HC0_1 := Q_ hc0_1
 clear hr0_1 hc0_1
 have HR0_2 := Q_ hr0_2
 have HC0_2 := Q_ hc0_2
 clear hr0_2 hc0_2
 have HB := Q_ (Below.refl w.heap.size w)
 have H : ((spec_l1In.f a0_0 0 9).bind fun t226 => (if t226 = true then (if (l0_1.length : Int) ≤ 6 then (if (l0_2.length : Int) ≤ 6 then ((spec_l9Byte.f k l0_1).bind fun t227 => (if t227 = true then ((spec_l9Byte.f k l0_2).bind fun t228 => (some t228)) else (some false))) else (some false)) else (some false)) else (some false))) = some r := h
 clear h
 have HS_ := Q_ H
 clear H
 go_enter Try.func98, Try.ntmps98
 go_upto_region 1 with (first | ((with_reducible refine gate_dst (N := 1) rfl ?_); (try (refine gate_guard (by rfl) ?_; dsimp only)); refine box_event ?hg (N := 1) ?hd (cs := #[.int .i64 a0_0, .slice A0_1 l0_1.length c0_1, .slice A0_2 l0_2.length c0_2, .bool a0_3]) (t := 89) ?hr ?_; (case hd => rfl); (case hg => rfl); (case hr => first | (go_simp; done) | (go_simp; rfl)); intro gb225 hg w2 hbox hb; have _ := Q_ (below_step (pb_ HB.out) hb); have BK225 := Q_ (hbox); have GW225 := Q_ ((by rw [hg]; exact (below_size (pb_ HB.out)) : w.heap.size ≤ gb225)); have GE225 := GW225; clear HB; rename_i HB; clear hb hbox hg))
 (try simp only [Act.put, List.setIfInBounds_toArray, List.set_cons_zero, List.set_cons_succ])
 have H := HS_.out
 clear HS_
 replace H := Option.bind_eq_some_iff.mp H
 obtain ⟨t226, A30, H⟩ := H
 (try dsimp only at H)
 have A3 := Q_ A30
 clear A30
 by_cases c4 : t226 = true
 rotate_left
 ·replace c4 := bf_ c4
  subst c4
  rw [if_neg ff_] at H
  obtain rfl := Option.some.inj H
  have hcz5 := bc4_ BK225.out
  go_wp2_with (first | ((with_reducible refine gate_callee (f := 72) rfl ?_); refine gl_ (some 5) Try.func72 #[.int .i64 a0_0, .int .i64 0, .int .i64 9] ?_; (with_reducible refine (spec_l1In.calls a0_0 0 9 false _ A3.out).mono ?_); rintro e w' ⟨rfl, ⟨nd, rfl⟩⟩; refine ⟨_, rfl, ?_⟩))
  go_ret
  exact ⟨er_, pb1_ HB.out GE225.out⟩
 subst c4
 rw [if_pos rfl] at H
 by_cases c6 : (l0_1.length : Int) ≤ 6
 rotate_left
 ·rw [if_neg c6] at H
  have c6b0 : decide ((l0_1.length : Int) ≤ 6) = false := decide_eq_false c6
  have c6b1 : decide (l0_1.length ≤ 6) = false := decide_eq_false (by omega)
  clear c6
  (first | rw [c6b0] | (simp only [i64_w, i32_w]; rw [c6b0]) | rw [c6b1] | skip)
  obtain rfl := Option.some.inj H
  have hcz7 := bc4_ BK225.out
  go_wp2_with (first | ((with_reducible refine gate_callee (f := 72) rfl ?_); refine gl_ (some 5) Try.func72 #[.int .i64 a0_0, .int .i64 0, .int .i64 9] ?_; (with_reducible refine (spec_l1In.calls a0_0 0 9 true _ A3.out).mono ?_); rintro e w' ⟨rfl, ⟨nd, rfl⟩⟩; refine ⟨_, rfl, ?_⟩))
  go_ret
  exact ⟨er_, pb1_ HB.out GE225.out⟩
 rw [if_pos c6] at H
 have c6b0 : decide ((l0_1.length : Int) ≤ 6) = true := decide_eq_true c6
 have c6b1 : decide (l0_1.length ≤ 6) = true := decide_eq_true (by omega)
 clear c6
 (first | rw [c6b0] | (simp only [i64_w, i32_w]; rw [c6b0]) | rw [c6b1] | skip)
 by_cases c8 : (l0_2.length : Int) ≤ 6
 rotate_left
 ·rw [if_neg c8] at H
  have c8b0 : decide ((l0_2.length : Int) ≤ 6) = false := decide_eq_false c8
  have c8b1 : decide (l0_2.length ≤ 6) = false := decide_eq_false (by omega)
  clear c8
  obtain rfl := Option.some.inj H
  have hcz9 := bc4_ BK225.out
  go_wp2_with (first | ((with_reducible refine gate_callee (f := 72) rfl ?_); refine gl_ (some 5) Try.func72 #[.int .i64 a0_0, .int .i64 0, .int .i64 9] ?_; (with_reducible refine (spec_l1In.calls a0_0 0 9 true _ A3.out).mono ?_); rintro e w' ⟨rfl, ⟨nd, rfl⟩⟩; refine ⟨_, rfl, ?_⟩))
  go_ret
  exact ⟨er_, pb1_ HB.out GE225.out⟩
 rw [if_pos c8] at H
 have c8b0 : decide ((l0_2.length : Int) ≤ 6) = true := decide_eq_true c8
 have c8b1 : decide (l0_2.length ≤ 6) = true := decide_eq_true (by omega)
 clear c8
 replace H := Option.bind_eq_some_iff.mp H
 obtain ⟨t227, A100, H⟩ := H
 (try dsimp only at H)
 have A10 := Q_ A100
 clear A100
 by_cases c11 : t227 = true
 rotate_left
 ·replace c11 := bf_ c11
  subst c11
  rw [if_neg ff_] at H
  obtain rfl := Option.some.inj H
  have hcz12 := bc4_ BK225.out
  go_wp2_with (first | ((with_reducible refine gate_callee (f := 72) rfl ?_); refine gl_ (some 5) Try.func72 #[.int .i64 a0_0, .int .i64 0, .int .i64 9] ?_; (with_reducible refine (spec_l1In.calls a0_0 0 9 true _ A3.out).mono ?_); rintro e w' ⟨rfl, ⟨nd, rfl⟩⟩; refine ⟨_, rfl, ?_⟩) | (go_at_call 93; (with_reducible refine (spec_l9Byte.calls k _ _ l0_1 false _ ?side1 ?side2 A10.out).mono ?_); (case side1 => exact pc_ (Kd.C_below HR0_1.out (pb1_ HB.out GE225.out))); (case side2 => exact HC0_1.out); rintro e w' ⟨rfl, ⟨nd, rfl⟩⟩))
  go_ret
  exact ⟨er_, pb1_ HB.out GE225.out⟩
 subst c11
 rw [if_pos rfl] at H
 replace H := Option.bind_eq_some_iff.mp H
 obtain ⟨t228, A130, H⟩ := H
 replace H : (some t228) = some r := H
 have A13 := Q_ A130
 clear A130
 obtain rfl := Option.some.inj H
 have hcz14 := bc4_ BK225.out
 go_wp2_with (first | ((with_reducible refine gate_callee (f := 72) rfl ?_); refine gl_ (some 5) Try.func72 #[.int .i64 a0_0, .int .i64 0, .int .i64 9] ?_; (with_reducible refine (spec_l1In.calls a0_0 0 9 true _ A3.out).mono ?_); rintro e w' ⟨rfl, ⟨nd, rfl⟩⟩; refine ⟨_, rfl, ?_⟩) | (go_at_call 93; (with_reducible refine (spec_l9Byte.calls k _ _ l0_1 true _ ?side1 ?side2 A10.out).mono ?_); (case side1 => exact pc_ (Kd.C_below HR0_1.out (pb1_ HB.out GE225.out))); (case side2 => exact HC0_1.out); rintro e w' ⟨rfl, ⟨nd, rfl⟩⟩) | (go_at_call 93; (with_reducible refine (spec_l9Byte.calls k _ _ l0_2 t228 _ ?side1 ?side2 A13.out).mono ?_); (case side1 => exact pc_ (Kd.C_below HR0_2.out (pb1_ HB.out GE225.out))); (case side2 => exact HC0_2.out); rintro e w' ⟨rfl, ⟨nd, rfl⟩⟩))
 go_ret
 exact ⟨er_, pb1_ HB.out GE225.out⟩

end Go.Proofs.Ytlcpaebidnaolaa.Print
