-- Written by a program of this session (printx.py) out of the translation; Lean checks it.
import Derived.Test.YtlcpaebidnaolaaPrint0
import Derived.Test.YtlcpaebidnaolaaPrint2
import Derived.Test.YtlcpaebidnaolaaPrint3
import Derived.Test.YtlcpaebidnaolaaPrint11
namespace Go.Proofs.Ytlcpaebidnaolaa.Print
open Go.RowKit Go.Proofs.YtlcpaebidnaolaaW.PrintWords Go.Proofs.YtlcpaebidnaolaaW.PrintLast Go.Proofs.YtlcpaebidnaolaaW.PrintMore Go.Proofs.Ytlcpaebidnaolaa.Short
attribute [local go_sem] max2_int min2_int max_two min_two max_three min_three max_four min_four   -- for this text's walks alone
set_option linter.unusedVariables false
set_option maxHeartbeats 8000000
set_option maxRecDepth 100000
set_option linter.unusedSimpArgs false

/-! ### spec_TranscriptHash: function 91 -/
def spec_TranscriptHash.l0 : Nat → List (List Int) → Int → Int → Option (Int)
 | 0, _, _, _ => none
 | k + 1, x0, x3, x4 => if x4 < (x0.length : Int) then (if 0 ≤ x4 then ((some (([x3, ((rd_L2 x0 x4).length : Int)] : List Int) : List Int)).bind fun y505 => (if y505.length + (rd_L2 x0 x4).length < 17592186044416 then ((spec_Hash.f k (y505 ++ (rd_L2 x0 x4))).bind fun t512 => (spec_TranscriptHash.l0 k x0 t512 (wrap64 (x4 + 1)))) else (none))) else (none)) else (some x3)
def spec_TranscriptHash.f (k : Nat) (l0 : List (List Int)) : Option (Int) := (spec_IsTranscript.f k l0).bind fun t503 => (if t503 = true then (spec_TranscriptHash.l0 k l0 1 0) else (some 0))
theorem spec_TranscriptHash.mono_l : ∀ k, (∀ y0 y1 y2, LeO (spec_TranscriptHash.l0 k y0 y1 y2) (spec_TranscriptHash.l0 (k + 1) y0 y1 y2))
 | 0 => fun _ _ _ r h => by simp [spec_TranscriptHash.l0] at h
 | k + 1 => by
  have ih0 := spec_TranscriptHash.mono_l k
  ·intro y0 y1 y2
   unfold spec_TranscriptHash.l0
   exact mo3_ ih0 spec_Hash.mono spec_IsTranscript.mono
theorem spec_TranscriptHash.mono : ∀ a0 k, LeO (spec_TranscriptHash.f k a0) (spec_TranscriptHash.f (k + 1) a0) := by
 intro a0 k
 have ih0 := spec_TranscriptHash.mono_l k
 unfold spec_TranscriptHash.f
 exact mo3_ ih0 spec_Hash.mono spec_IsTranscript.mono
def spec_TranscriptHash.T7 : Bool × List (List Nat × List Nat) := (true, [([], []), ([], []), ([], []), ([1, 2], [1, 2]), ([3], [3]), ([4], [4]), ([0, 5], [0, 5]), ([], []), ([], []), ([7, 8], [7, 8]), ([9], [9]), ([6, 10], [6, 10]), ([11, 11], [11]), ([12, 12, 0, 1, 2, 3, 4, 5, 6, 7, 8, 9, 10, 11, 12], [0, 12])])
def spec_TranscriptHash.B7 : List Nat := [0, 0, 0, 6, 14, 30, 63, 0, 0, 384, 896, 2047, 4095, 8191]
theorem spec_TranscriptHash.tab7 : rtab .any (opsOf Try.f91 7) = spec_TranscriptHash.T7 := by kernel_rfl
theorem spec_TranscriptHash.bits7 : waitsOk spec_TranscriptHash.T7.2 spec_TranscriptHash.B7 = true := by kernel_rfl
theorem spec_TranscriptHash.calls (k : Nat) (A0 : Option Addr) (c0 : Nat) (l0 : List (List Int)) (r : Int) (w : World) (hr0 : Kd.C (Kd.slice 3 (Kd.int .i64)) w A0 l0.length l0) (hc0 : l0.length ≤ c0) (h : spec_TranscriptHash.f k l0 = some r) :
  Calls Try.prog 91 #[.slice A0 l0.length c0] w fun e w' => e = .returned (.int .i64 r) ∧ Below w.heap.size w w' := by
 have HR0 := Q_ hr0
 have HC0 := Q_ hc0
 clear hr0 hc0
 have HB := Q_ (Below.refl w.heap.size w)
 have H : ((spec_IsTranscript.f k l0).bind fun t503 => (if t503 = true then (spec_TranscriptHash.l0 k l0 1 0) else (some 0))) = some r := h
 clear h
 replace H := Option.bind_eq_some_iff.mp H
 obtain ⟨t503, A20, H⟩ := H
 (try dsimp only at H)
 have A2 := Q_ A20
 clear A20
 have HS_ := Q_ H
 clear H
 go_enter Try.func91, Try.ntmps91
 go_upto_if 7 with (first | ((with_reducible refine gate_callee (f := 89) rfl ?_); refine gl_ (some 6) Try.func89 #[.slice A0 l0.length c0] ?_; (with_reducible refine (spec_IsTranscript.calls k _ _ l0 t503 _ ?side1 ?side2 A2.out).mono ?_); (case side1 => exact pc_ HR0.out); (case side2 => exact HC0.out); rintro e w' ⟨rfl, ⟨nd, rfl⟩⟩; refine ⟨_, rfl, ?_⟩))
 (try simp only [Act.put, List.setIfInBounds_toArray, List.set_cons_zero, List.set_cons_succ])
 have H := HS_.out
 clear HS_
 by_cases c3 : t503 = true
 rotate_left
 ·replace c3 := bf_ c3
  subst c3
  rw [if_neg ff_] at H
  obtain rfl := Option.some.inj H
  go_wp2
  go_ret
  exact ⟨er_, pb_ HB.out⟩
 subst c3
 rw [if_pos rfl] at H
 have H' := Q_ H
 clear H
 go_wp2
 go_loopg [3, 4] k (fun kq v3 v4 w' => ∃ (x3_1 : Int) (x4_1 : Int), v3 = .int .i64 x3_1 ∧ v4 = .int .i64 x4_1 ∧ Aside0 (spec_TranscriptHash.l0 kq l0 x3_1 x4_1 = some r) ∧ Aside0 (kq ≤ k) ∧ Aside0 (Below w.heap.size w w'))
 case atStart => exact ⟨(1), (0), el_, el_, H', ⟨Nat.le_refl _⟩, ⟨pb_ HB.out⟩⟩
 clear H'
 try clear p2
 try clear c3
 obtain ⟨x3_1, x4_1, rfl, rfl, HA, HK1, HB⟩ := hrel
 rcases gk with _ | k1
 ·exact absurd HA.out (by simp [spec_TranscriptHash.l0])
 have H := HA.out
 clear HA
 simp only [spec_TranscriptHash.l0] at H
 by_cases c4 : x4_1 < (l0.length : Int)
 rotate_left
 ·rw [if_neg c4] at H
  have c4b0 : decide (x4_1 < (l0.length : Int)) = false := decide_eq_false c4
  clear c4
  (first | rw [c4b0] | (simp only [i64_w, i32_w]; rw [c4b0]) | skip)
  obtain rfl := Option.some.inj H
  go_wp2
  go_ret
  exact ⟨er_, pb_ HB.out⟩
 rw [if_pos c4] at H
 have c4b0 : decide (x4_1 < (l0.length : Int)) = true := decide_eq_true c4
 clear c4
 (first | rw [c4b0] | (simp only [i64_w, i32_w]; rw [c4b0]) | skip)
 by_cases c5 : 0 ≤ x4_1
 rotate_left
 ·rw [if_neg c5] at H
  exact absurd H (by simp)
 rw [if_pos c5] at H
 have c5b0 : decide (0 ≤ x4_1) = true := decide_eq_true c5
 clear c5
 obtain ⟨y505, hy505⟩ : ∃ y_ : List Int, y_ = (([x3_1, ((rd_L2 l0 x4_1).length : Int)] : List Int)) := ⟨_, rfl⟩
 replace H : (if y505.length + (rd_L2 l0 x4_1).length < 17592186044416 then ((spec_Hash.f k1 (y505 ++ (rd_L2 l0 x4_1))).bind fun t512 => (spec_TranscriptHash.l0 k1 l0 t512 (wrap64 (x4_1 + 1)))) else (none)) = some r := hb_ hy505 H
 have Ny505 := Q_ hy505
 clear hy505
 by_cases c6 : y505.length + (rd_L2 l0 x4_1).length < 17592186044416
 rotate_left
 ·rw [if_neg c6] at H
  exact absurd H (by simp)
 rw [if_pos c6] at H
 have LMc6 := Q_ c6
 clear c6
 obtain ⟨y509, hy509⟩ : ∃ y_ : List Int, y_ = (y505 ++ (rd_L2 l0 x4_1)) := ⟨_, rfl⟩
 replace H : ((spec_Hash.f k1 y509).bind fun t512 => (spec_TranscriptHash.l0 k1 l0 t512 (wrap64 (x4_1 + 1)))) = some r := hb_ hy509 H
 have Ny509 := Q_ hy509
 clear hy509
 replace H := Option.bind_eq_some_iff.mp H
 obtain ⟨t512, A70, H⟩ := H
 replace H : (spec_TranscriptHash.l0 k1 l0 t512 (wrap64 (x4_1 + 1))) = some r := H
 have A7 := Q_ A70
 clear A70
 have H' := Q_ H
 clear H
 try go_wp2
 have _ := Q_ (below_drew1 HB.out)
 clear HB
 rename_i HB
 have p504 : 0 ≤ (x4_1 : Int) := dt_
 have q504 : x4_1 < (l0.length : Int) := dt_
 obtain ⟨ad504, A504_0, c504_0, e504, hx504_0, hl504_0, hi504_0⟩ := at_L2 HR0.out x4_1 p504 q504
 have hw504_0 := hx504_0
 cases e504
 replace hx504_0 := bt_ HB hx504_0
 have HR504_0 := Q_ hi504_0
 have HC504_0 := Q_ hl504_0
 clear hi504_0 hl504_0
 replace p504 := eq_true p504
 replace q504 := eq_true q504
 have p508 : 0 ≤ (x4_1 : Int) := dt_
 have q508 : x4_1 < (l0.length : Int) := dt_
 obtain ⟨ad508, A508_0, c508_0, e508, hx508_0, hl508_0, hi508_0⟩ := at_L2 HR0.out x4_1 p508 q508
 have hw508_0 := hx508_0
 obtain rfl : ad504 = ad508 := (by injection e508)
 replace hx508_0 := bt_ HB hx508_0
 have HR508_0 := Q_ hi508_0
 have HC508_0 := Q_ hl508_0
 clear hi508_0 hl508_0
 replace p508 := eq_true p508
 replace q508 := eq_true q508
 have ea_ := Option.some.inj (hx504_0.symm.trans hx508_0)
 injection ea_ with ea_ en_ ec_
 subst ea_
 subst ec_
 clear en_
 refine start_ (n := 14) (S := fun w' => w'.cell? (ad504.add (x4_1).toNat) = some (.slice A504_0 (rd_L2 l0 x4_1).length c504_0) ∧ w'.cell? (ad504.add (x4_1).toNat) = some (.slice A504_0 (rd_L2 l0 x4_1).length c504_0)) (ds := []) (tf_ 0 14) (by kernel_rfl) rfl rfl ⟨(bt_ HB hw504_0), (bt_ HB hw508_0)⟩ (fun hHeld => ?_); refine with_tabW spec_TranscriptHash.tab7 spec_TranscriptHash.bits7 (fun HT_ HW_ => ?_)
 generalize wr.drew = w8 at HB HR504_0 HR508_0 hx504_0 hx508_0 hHeld ⊢
 refine pu_ 0 (some 14) (tf_ 1 14) HT_ ?_
 refine pu_ 1 (some 15) (tf_ 2 14) HT_ ?_
 refine pu_ 2 (some 16) (tf_ 3 14) HT_ ?_
 refine pu_ 3 (some 17) (tf_ 4 14) HT_ ?_
 refine pu_ 7 (some 21) (tm_ 14 143) HT_ ?_
 refine pu_ 8 (some 22) (tm_ 14 399) HT_ ?_
 refine pu_ 9 (some 23) (tm_ 14 911) HT_ ?_
 refine ta_ 4 (some 18) (tm_ 14 927) HT_ HW_ hHeld ?_
 refine pu_ 5 (some 19) (tm_ 14 959) HT_ ?_
 refine ta_ 10 (some 24) (tm_ 14 1983) HT_ HW_ hHeld ?_
 refine on_ 6 (some 20) (tf_ 11 14) HT_ (fun K hK => ?_)
 refine Kd.R_lit_step (Kd.int .i64) _ 3 ?hg (N := 20) ?hd (xs := ([x3_1, ((rd_L2 l0 x4_1).length : Int)] : List Int)) (inner := [.int .i64 x3_1, .int .i64 ((rd_L2 l0 x4_1).length : Int)]) (ok := fun _ => True) (okp := fun _ => True) ?hr ?hp (fun _ hk => hk) trivial (Below.refl _ _) (Nat.le_refl _) (by simp) ?_; (case hd => rfl); (case hg => rfl); (case hr => first | (go_simp; done) | (go_simp; rfl)); (case hp => exact (Reps.one (show Kd.M (Kd.int .i64) _ _ _ x3_1 [.int .i64 x3_1] from rfl) (Reps.one (show Kd.M (Kd.int .i64) _ _ _ ((rd_L2 l0 x4_1).length : Int) [.int .i64 ((rd_L2 l0 x4_1).length : Int)] from rfl) (Reps.none _ _))))
 intro v506 w9 ho10 hb hg_ hnew_
 clear hg_ hnew_
 (first | rw [← Ny505.out] at ho10 | (simp only [Int.reduceToNat] at ho10; rw [← Ny505.out] at ho10))
 have _ := Q_ (Kd.R_lower ho10 (below_size (pb_ HB.out)))
 have _ := Q_ (below_step (pb_ HB.out) hb)
 clear HB
 rename_i HO507 HB
 clear hb ho10
 refine hK.out _ _ ⟨(bt_ HB hw504_0), (bt_ HB hw508_0)⟩ (fun hHeld => ?_)
 clear hK K
 refine no_ (some 20) ?_
 refine on_ 11 (some 25) (tf_ 12 14) HT_ (fun K hK => ?_)
 refine Kd.R_append_rows_step (Kd.int .i64) (w0 := w) w.heap.size (by rfl) (.tmp 20) (.tmp 24) 25 3 (.int .i64 0) 8 rfl Try.underlying25 info3 rfl (by decide) (by omega) v506 y505 (rd_L2 l0 x4_1) _ _ _ (fun _ => True) (fun _ => False) rfl rfl ?aO ?aR (fun _ _ h => h) (fun _ h => h.elim) ?aF ?aB ?aS ?aL ?_
 (case aR => exact cb_ HR508_0 HB)
 (case aB => exact (pb_ HB.out))
 (case aF => exact (fun _ _ => trivial))
 (case aO => exact (pr_ HO507.out))
 (case aS => exact (below_size (pb_ HB.out)))
 (case aL => have := LMc6.out; omega)
 intro v510 w11 ho hb hg hat
 rw [← Ny509.out] at ho
 have _ := Q_ (hb)
 have _ := Q_ (ho)
 clear HB HO507
 rename_i HB HO511
 clear ho hb hg hat
 obtain ⟨Ao12, co12, eo12⟩ := Kd.R_slice HO511.out
 (first | subst eo12 | (injection eo12 with f1_ f2_ f3_; have f4_ := f1_.symm; have f5_ := f3_.symm; clear f1_ f2_ f3_; subst f4_; subst f5_))
 refine hK.out _ _ ⟨(bt_ HB hw504_0), (bt_ HB hw508_0)⟩ (fun hHeld => ?_)
 clear hK K
 refine no_ (some 25) ?_
 refine on_ 12 (some 26) (tf_ 13 14) HT_ (fun K hK => ?_)
 refine goes_ Try.func100 (by kernel_rfl) rfl #[.slice Ao12 y509.length co12] (by rfl) rfl rfl mp_ ?_
 with_reducible refine (spec_Hash.calls k1 _ _ y509 t512 _ ?side1 ?side2 A7.out).mono ?_
 (case side1 => exact pc_ ((Kd.R_reads' HO511.out).2.2))
 (case side2 => exact (Kd.R_reads' HO511.out).2.1)
 rintro e w' ⟨rfl, ⟨nd, rfl⟩⟩
 refine ⟨_, rfl, ?_⟩
 refine hK.out _ _ ⟨(bt_ HB hw504_0), (bt_ HB hw508_0)⟩ (fun hHeld => ?_)
 clear hK K
 refine no_ (some 26) ?_
 refine pu_ 13 (some 3) (tf_ 14 14) HT_ ?_
 refine done_ (done_of HT_.out (by kernel_rfl)) ?_
 try go_wp2
 go_roundg k1
 case measure => have := HK1.out; omega
 case rel => exact ⟨(t512), (wrap64 (x4_1 + 1)), el_, el_, H', ⟨by have := HK1.out; omega⟩, ⟨pb_ HB.out⟩⟩

/-! ### spec_FinishOf: function 66 -/
def spec_FinishOf.j0 : Nat → Int → List (List Int) → Int → Bool → Option (Int)
 | 0, _, _, _, _ => none
 | k + 1, x0, x1, x2, x19 => if x19 = true then (some 0) else ((spec_TranscriptHash.f k x1).bind fun t516 => ((spec_KeyedHash.f k x0 (([x2, t516] : List Int))).bind fun t520 => (some t520)))
def spec_FinishOf.f (k : Nat) (a0 : Int) (l1 : List (List Int)) (a2 : Int) : Option (Int) := (spec_IsValidKey.f a0).bind fun t513 => (if t513 = true then ((spec_IsTranscript.f k l1).bind fun t514 => (if t514 = true then ((spec_l1In.f a2 0 1).bind fun t515 => (spec_FinishOf.j0 k a0 l1 a2 (!t515))) else (spec_FinishOf.j0 k a0 l1 a2 true))) else (spec_FinishOf.j0 k a0 l1 a2 true))
theorem spec_FinishOf.mono_l : ∀ k, (∀ y0 y1 y2 y3, LeO (spec_FinishOf.j0 k y0 y1 y2 y3) (spec_FinishOf.j0 (k + 1) y0 y1 y2 y3))
 | 0 => fun _ _ _ _ r h => by simp [spec_FinishOf.j0] at h
 | k + 1 => by
  have ih0 := spec_FinishOf.mono_l k
  ·intro y0 y1 y2 y3
   unfold spec_FinishOf.j0
   exact mo4_ ih0 spec_IsTranscript.mono spec_KeyedHash.mono spec_TranscriptHash.mono
theorem spec_FinishOf.mono : ∀ a0 a1 a2 k, LeO (spec_FinishOf.f k a0 a1 a2) (spec_FinishOf.f (k + 1) a0 a1 a2) := by
 intro a0 a1 a2 k
 have ih0 := spec_FinishOf.mono_l k
 unfold spec_FinishOf.f
 exact mo4_ ih0 spec_IsTranscript.mono spec_KeyedHash.mono spec_TranscriptHash.mono
theorem spec_FinishOf.calls (k : Nat) (a0 : Int) (A1 : Option Addr) (c1 : Nat) (l1 : List (List Int)) (a2 : Int) (r : Int) (w : World) (hr1 : Kd.C (Kd.slice 3 (Kd.int .i64)) w A1 l1.length l1) (hc1 : l1.length ≤ c1) (h : spec_FinishOf.f k a0 l1 a2 = some r) :
  Calls Try.prog 66 #[.int .i64 a0, .slice A1 l1.length c1, .int .i64 a2] w fun e w' => e = .returned (.int .i64 r) ∧ Below w.heap.size w w' := by
 have HR1 := Q_ hr1
 have HC1 := Q_ hc1
 clear hr1 hc1
 have HB := Q_ (Below.refl w.heap.size w)
 have H : ((spec_IsValidKey.f a0).bind fun t513 => (if t513 = true then ((spec_IsTranscript.f k l1).bind fun t514 => (if t514 = true then ((spec_l1In.f a2 0 1).bind fun t515 => (spec_FinishOf.j0 k a0 l1 a2 (!t515))) else (spec_FinishOf.j0 k a0 l1 a2 true))) else (spec_FinishOf.j0 k a0 l1 a2 true))) = some r := h
 clear h
 have HC4 := Q_ H
 clear H
 go_enter Try.func66, Try.ntmps66
 go_upto_region 1 with (fail)
 go_cut [19] (fun v19 wc => ∃ (kq : Nat) (x19_3 : Bool), v19 = .bool x19_3 ∧ Aside0 (spec_FinishOf.j0 kq a0 l1 a2 x19_3 = some r) ∧ Aside0 (kq ≤ k) ∧ Aside0 (Below w.heap.size w wc))
 case first =>
  have H := HC4.out
  clear HC4
  replace H := Option.bind_eq_some_iff.mp H
  obtain ⟨t513, A50, H⟩ := H
  (try dsimp only at H)
  have A5 := Q_ A50
  clear A50
  by_cases c6 : t513 = true
  rotate_left
  ·replace c6 := bf_ c6
   subst c6
   rw [if_neg ff_] at H
   have H' := Q_ H
   clear H
   go_wp2_with (first | ((with_reducible refine gate_callee (f := 88) rfl ?_); refine gl_ (some 8) Try.func88 #[.int .i64 a0] ?_; (with_reducible refine (spec_IsValidKey.calls a0 false _ A5.out).mono ?_); rintro e w' ⟨rfl, ⟨nd, rfl⟩⟩; refine ⟨_, rfl, ?_⟩))
   go_meet
   case rel => exact ⟨_, (true), el_, H', ⟨by first | omega | exact Nat.le_refl _⟩, ⟨pb_ HB.out⟩⟩
  subst c6
  rw [if_pos rfl] at H
  replace H := Option.bind_eq_some_iff.mp H
  obtain ⟨t514, A70, H⟩ := H
  (try dsimp only at H)
  have A7 := Q_ A70
  clear A70
  by_cases c8 : t514 = true
  rotate_left
  ·replace c8 := bf_ c8
   subst c8
   rw [if_neg ff_] at H
   have H' := Q_ H
   clear H
   go_wp2_with (first | ((with_reducible refine gate_callee (f := 88) rfl ?_); refine gl_ (some 8) Try.func88 #[.int .i64 a0] ?_; (with_reducible refine (spec_IsValidKey.calls a0 true _ A5.out).mono ?_); rintro e w' ⟨rfl, ⟨nd, rfl⟩⟩; refine ⟨_, rfl, ?_⟩) | (go_at_call 89; (with_reducible refine (spec_IsTranscript.calls k _ _ l1 false _ ?side1 ?side2 A7.out).mono ?_); (case side1 => exact pc_ (Kd.C_below HR1.out (pb_ HB.out))); (case side2 => exact HC1.out); rintro e w' ⟨rfl, ⟨nd, rfl⟩⟩))
   go_meet
   case rel => exact ⟨_, (true), el_, H', ⟨by first | omega | exact Nat.le_refl _⟩, ⟨pb_ HB.out⟩⟩
  subst c8
  rw [if_pos rfl] at H
  replace H := Option.bind_eq_some_iff.mp H
  obtain ⟨t515, A90, H⟩ := H
  replace H : (spec_FinishOf.j0 k a0 l1 a2 (!t515)) = some r := H
  have A9 := Q_ A90
  clear A90
  have H' := Q_ H
  clear H
  go_wp2_with (first | ((with_reducible refine gate_callee (f := 88) rfl ?_); refine gl_ (some 8) Try.func88 #[.int .i64 a0] ?_; (with_reducible refine (spec_IsValidKey.calls a0 true _ A5.out).mono ?_); rintro e w' ⟨rfl, ⟨nd, rfl⟩⟩; refine ⟨_, rfl, ?_⟩) | (go_at_call 89; (with_reducible refine (spec_IsTranscript.calls k _ _ l1 true _ ?side1 ?side2 A7.out).mono ?_); (case side1 => exact pc_ (Kd.C_below HR1.out (pb_ HB.out))); (case side2 => exact HC1.out); rintro e w' ⟨rfl, ⟨nd, rfl⟩⟩) | (go_at_call 72; (with_reducible refine (spec_l1In.calls a2 0 1 t515 _ A9.out).mono ?_); rintro e w' ⟨rfl, ⟨nd, rfl⟩⟩))
  go_meet
  case rel => exact ⟨_, (!t515), el_, H', ⟨by first | omega | exact Nat.le_refl _⟩, ⟨pb_ HB.out⟩⟩
 clear HC4
 try clear c1
 try clear p2
 try clear c6
 try clear c8
 obtain ⟨kq, x19_3, rfl, HA, HJ3, HB⟩ := hcut
 rcases kq with _ | kj3
 ·exact absurd HA.out (by simp [spec_FinishOf.j0])
 have H := HA.out
 clear HA
 simp only [spec_FinishOf.j0] at H
 by_cases c10 : x19_3 = true
 ·subst c10
  rw [if_pos rfl] at H
  obtain rfl := Option.some.inj H
  go_wp2
  go_ret
  exact ⟨er_, pb_ HB.out⟩
 replace c10 := bf_ c10
 subst c10
 rw [if_neg ff_] at H
 replace H := Option.bind_eq_some_iff.mp H
 obtain ⟨t516, A110, H⟩ := H
 (try dsimp only at H)
 have A11 := Q_ A110
 clear A110
 obtain ⟨y517, hy517⟩ : ∃ y_ : List Int, y_ = (([a2, t516] : List Int)) := ⟨_, rfl⟩
 replace H : ((spec_KeyedHash.f kj3 a0 y517).bind fun t520 => (some t520)) = some r := hb_ hy517 H
 have Ny517 := Q_ hy517
 clear hy517
 replace H := Option.bind_eq_some_iff.mp H
 obtain ⟨t520, A120, H⟩ := H
 replace H : (some t520) = some r := H
 have A12 := Q_ A120
 clear A120
 obtain rfl := Option.some.inj H
 go_wp2_with (first | ((with_reducible refine gate_callee (f := 91) rfl ?_); refine gl_ (some 23) Try.func91 #[.slice A1 l1.length c1] ?_; (with_reducible refine (spec_TranscriptHash.calls kj3 _ _ l1 t516 _ ?side1 ?side2 A11.out).mono ?_); (case side1 => exact cb_ HR1 HB); (case side2 => exact HC1.out); rintro e w13 ⟨rfl, hb⟩; refine ⟨_, rfl, ?_⟩; have _ := Q_ (below_step (pb_ HB.out) hb); clear HB; rename_i HB; (try clear hb); (try clear hb2); (try clear hk); (try clear hi)) | ((with_reducible refine gate_dst (N := 24) rfl ?_); refine Kd.R_lit (Kd.int .i64) _ 3 ?hg (N := 24) ?hd (xs := ([a2, t516] : List Int)) (inner := [.int .i64 a2, .int .i64 t516]) (ok := fun _ => True) (okp := fun _ => True) ?hr ?hp (fun _ hk => hk) trivial (Below.refl _ _) (Nat.le_refl _) (by simp) ?_; (case hd => rfl); (case hg => rfl); (case hr => first | (go_simp; done) | (go_simp; rfl)); (case hp => exact (Reps.one (show Kd.M (Kd.int .i64) _ _ _ a2 [.int .i64 a2] from rfl) (Reps.one (show Kd.M (Kd.int .i64) _ _ _ t516 [.int .i64 t516] from rfl) (Reps.none _ _)))); intro v518 w14 ho15 hb hg_ hnew_; clear hg_ hnew_; (first | rw [← Ny517.out] at ho15 | (simp only [Int.reduceToNat] at ho15; rw [← Ny517.out] at ho15)); have _ := Q_ (Kd.R_lower ho15 (below_size (pb_ HB.out))); have _ := Q_ (below_step (pb_ HB.out) hb); clear HB; rename_i HO519 HB; clear hb ho15; obtain ⟨Ao16, co16, eo16⟩ := Kd.R_slice HO519.out; subst eo16) | ((with_reducible refine gate_callee (f := 90) rfl ?_); refine gl_ (some 25) Try.func90 #[.int .i64 a0, .slice Ao16 y517.length co16] ?_; (with_reducible refine (spec_KeyedHash.calls kj3 a0 _ _ y517 t520 _ ?side1 ?side2 A12.out).mono ?_); (case side1 => exact pc_ ((Kd.R_reads' HO519.out).2.2)); (case side2 => exact (Kd.R_reads' HO519.out).2.1); rintro e w17 ⟨rfl, hb⟩; refine ⟨_, rfl, ?_⟩; have _ := Q_ (Kd.R_below (pr_ HO519.out) hb); have _ := Q_ (below_step (pb_ HB.out) hb); clear HO519 HB; rename_i HO519 HB; (try clear hb); (try clear hb2); (try clear hk); (try clear hi)))
 go_ret
 exact ⟨er_, pb_ HB.out⟩

/-! ### spec_EncodeExts: function 92 -/
def spec_EncodeExts.l0 : Nat → List (S113) → List Int → Int → Option (List Int × Bool)
 | 0, _, _, _ => none
 | k + 1, x0, x4, x5 => if x5 < (x0.length : Int) then (if 0 ≤ x5 then ((some (([(rd_T113 x0 x5).f0, (((rd_T113 x0 x5).f1).length : Int)] : List Int) : List Int)).bind fun y530 => (if x4.length + y530.length < 17592186044416 then ((some (x4 ++ y530 : List Int)).bind fun y533 => (if y533.length + ((rd_T113 x0 x5).f1).length < 17592186044416 then (spec_EncodeExts.l0 k x0 (y533 ++ ((rd_T113 x0 x5).f1)) (wrap64 (x5 + 1))) else (none))) else (none))) else (none)) else (some (x4, true))
def spec_EncodeExts.f (k : Nat) (l0 : List (S113)) : Option (List Int × Bool) := (spec_AreExts.f k l0).bind fun t521 => (if t521 = true then (spec_EncodeExts.l0 k l0 (([(l0.length : Int)] : List Int)) 0) else (some ((([] : List Int)), false)))
theorem spec_EncodeExts.mono_l : ∀ k, (∀ y0 y1 y2, LeO (spec_EncodeExts.l0 k y0 y1 y2) (spec_EncodeExts.l0 (k + 1) y0 y1 y2))
 | 0 => fun _ _ _ r h => by simp [spec_EncodeExts.l0] at h
 | k + 1 => by
  have ih0 := spec_EncodeExts.mono_l k
  ·intro y0 y1 y2
   unfold spec_EncodeExts.l0
   exact mo2_ ih0 spec_AreExts.mono
theorem spec_EncodeExts.mono : ∀ a0 k, LeO (spec_EncodeExts.f k a0) (spec_EncodeExts.f (k + 1) a0) := by
 intro a0 k
 have ih0 := spec_EncodeExts.mono_l k
 unfold spec_EncodeExts.f
 exact mo2_ ih0 spec_AreExts.mono
def spec_EncodeExts.T7 : Bool × List (List Nat × List Nat) := (true, [([], []), ([], []), ([], []), ([1, 2], [1, 2]), ([3], [3]), ([4], [4]), ([], []), ([], []), ([6, 7], [6, 7]), ([8], [8]), ([9], [9]), ([10], [10]), ([5, 11], [5, 11]), ([0, 12], [0, 12]), ([13, 13, 0, 1, 2, 3, 4, 5, 6, 7, 8, 9, 10, 11, 12, 13], [0, 13])])
def spec_EncodeExts.B7 : List Nat := [0, 0, 0, 6, 14, 30, 0, 0, 192, 448, 960, 1984, 4094, 8191, 16383]
theorem spec_EncodeExts.tab7 : rtab .any (opsOf Try.f92 7) = spec_EncodeExts.T7 := by kernel_rfl
theorem spec_EncodeExts.bits7 : waitsOk spec_EncodeExts.T7.2 spec_EncodeExts.B7 = true := by kernel_rfl
theorem spec_EncodeExts.calls (k : Nat) (A0 : Option Addr) (c0 : Nat) (l0 : List (S113)) (r1 : List Int) (r2 : Bool) (w : World) (hr0 : Kd.C k113 w A0 l0.length l0) (hc0 : l0.length ≤ c0) (h : spec_EncodeExts.f k l0 = some (r1, r2)) :
  Calls Try.prog 92 #[.slice A0 l0.length c0] w fun e w' => ∃ v0_ : Value, e = .returned (.tuple #[v0_, .bool r2]) ∧ Kd.R (Kd.int .i64) 3 w' w.heap.size (fun _ => True) v0_ r1 ∧ Below w.heap.size w w' := by
 have HR0 := Q_ hr0
 have HC0 := Q_ hc0
 clear hr0 hc0
 have HB := Q_ (Below.refl w.heap.size w)
 have H : ((spec_AreExts.f k l0).bind fun t521 => (if t521 = true then (spec_EncodeExts.l0 k l0 (([(l0.length : Int)] : List Int)) 0) else (some ((([] : List Int)), false)))) = some (r1, r2) := h
 clear h
 replace H := Option.bind_eq_some_iff.mp H
 obtain ⟨t521, A20, H⟩ := H
 (try dsimp only at H)
 have A2 := Q_ A20
 clear A20
 have HS_ := Q_ H
 clear H
 go_enter Try.func92, Try.ntmps92
 go_upto_if 8 with (first | ((with_reducible refine gate_callee (f := 77) rfl ?_); refine gl_ (some 7) Try.func77 #[.slice A0 l0.length c0] ?_; (with_reducible refine (spec_AreExts.calls k _ _ l0 t521 _ ?side1 ?side2 A2.out).mono ?_); (case side1 => exact pc_ HR0.out); (case side2 => exact HC0.out); rintro e w' ⟨rfl, ⟨nd, rfl⟩⟩; refine ⟨_, rfl, ?_⟩))
 (try simp only [Act.put, List.setIfInBounds_toArray, List.set_cons_zero, List.set_cons_succ])
 have H := HS_.out
 clear HS_
 by_cases c3 : t521 = true
 rotate_left
 ·replace c3 := bf_ c3
  subst c3
  rw [if_neg ff_] at H
  obtain ⟨y522, hy522⟩ : ∃ y_ : List Int, y_ = (([] : List Int)) := ⟨_, rfl⟩
  replace H : (some (y522, false)) = some (r1, r2) := hb_ hy522 H
  have Ny522 := Q_ hy522
  clear hy522
  simp only [Option.some.injEq, Prod.mk.injEq] at H
  obtain ⟨rfl, rfl⟩ := H
  go_wp2_with (first | ((with_reducible refine gate_dst (N := 9) rfl ?_); refine Kd.R_lit (Kd.int .i64) _ 3 ?hg (N := 9) ?hd (xs := ([] : List Int)) (inner := []) (ok := fun _ => True) (okp := fun _ => True) ?hr ?hp (fun _ hk => hk) trivial (Below.refl _ _) (Nat.le_refl _) (by simp) ?_; (case hd => rfl); (case hg => rfl); (case hr => first | (go_simp; done) | (go_simp; rfl)); (case hp => exact (Reps.none _ _)); intro v523 w4 ho5 hb hg_ hnew_; clear hg_ hnew_; (first | rw [← Ny522.out] at ho5 | (simp only [Int.reduceToNat] at ho5; rw [← Ny522.out] at ho5)); have _ := Q_ (Kd.R_lower ho5 (below_size (pb_ HB.out))); have _ := Q_ (below_step (pb_ HB.out) hb); clear HB; rename_i HO524 HB; clear hb ho5))
  go_ret2
  exact ⟨_, er_, pr_ HO524.out, pb_ HB.out⟩
 subst c3
 rw [if_pos rfl] at H
 obtain ⟨y525, hy525⟩ : ∃ y_ : List Int, y_ = (([(l0.length : Int)] : List Int)) := ⟨_, rfl⟩
 replace H : (spec_EncodeExts.l0 k l0 y525 0) = some (r1, r2) := hb_ hy525 H
 have Ny525 := Q_ hy525
 clear hy525
 have H' := Q_ H
 clear H
 go_wp2_with (first | ((with_reducible refine gate_dst (N := 12) rfl ?_); refine Kd.R_lit (Kd.int .i64) _ 3 ?hg (N := 12) ?hd (xs := ([(l0.length : Int)] : List Int)) (inner := [.int .i64 (l0.length : Int)]) (ok := fun _ => True) (okp := fun _ => True) ?hr ?hp (fun _ hk => hk) trivial (Below.refl _ _) (Nat.le_refl _) (by simp) ?_; (case hd => rfl); (case hg => rfl); (case hr => first | (go_simp; done) | (go_simp; rfl)); (case hp => exact (Reps.one (show Kd.M (Kd.int .i64) _ _ _ (l0.length : Int) [.int .i64 (l0.length : Int)] from rfl) (Reps.none _ _))); intro v526 w6 ho7 hb hg_ hnew_; clear hg_ hnew_; (first | rw [← Ny525.out] at ho7 | (simp only [Int.reduceToNat] at ho7; rw [← Ny525.out] at ho7)); have _ := Q_ (Kd.R_lower ho7 (below_size (pb_ HB.out))); have _ := Q_ (below_step (pb_ HB.out) hb); clear HB; rename_i HO527 HB; clear hb ho7))
 (try simp only [Act.put, List.setIfInBounds_toArray, List.set_cons_zero, List.set_cons_succ])
 go_loopg [4, 5] k (fun kq v4 v5 w' => ∃ (x4_1 : List Int) (x5_1 : Int), v5 = .int .i64 x5_1 ∧ Aside0 (spec_EncodeExts.l0 kq l0 x4_1 x5_1 = some (r1, r2)) ∧ Aside0 (kq ≤ k) ∧ Aside0 (Kd.R (Kd.int .i64) 3 w' w.heap.size (fun _ => True) v4 x4_1) ∧ Aside0 (Below w.heap.size w w'))
 case atStart => exact ⟨(y525), (0), el_, H', ⟨Nat.le_refl _⟩, ⟨pr_ HO527.out⟩, ⟨pb_ HB.out⟩⟩
 clear H'
 try clear p2
 try clear c3
 try clear c7
 obtain ⟨x4_1, x5_1, rfl, HA, HK1, HO_4, HB⟩ := hrel
 rcases gk with _ | k1
 ·exact absurd HA.out (by simp [spec_EncodeExts.l0])
 have H := HA.out
 clear HA
 simp only [spec_EncodeExts.l0] at H
 by_cases c8 : x5_1 < (l0.length : Int)
 rotate_left
 ·rw [if_neg c8] at H
  have c8b0 : decide (x5_1 < (l0.length : Int)) = false := decide_eq_false c8
  clear c8
  (first | rw [c8b0] | (simp only [i64_w, i32_w]; rw [c8b0]) | skip)
  simp only [Option.some.injEq, Prod.mk.injEq] at H
  obtain ⟨rfl, rfl⟩ := H
  go_wp2
  go_ret2
  exact ⟨_, er_, pr_ HO_4.out, pb_ HB.out⟩
 rw [if_pos c8] at H
 have c8b0 : decide (x5_1 < (l0.length : Int)) = true := decide_eq_true c8
 clear c8
 (first | rw [c8b0] | (simp only [i64_w, i32_w]; rw [c8b0]) | skip)
 by_cases c9 : 0 ≤ x5_1
 rotate_left
 ·rw [if_neg c9] at H
  exact absurd H (by simp)
 rw [if_pos c9] at H
 have c9b0 : decide (0 ≤ x5_1) = true := decide_eq_true c9
 clear c9
 obtain ⟨y530, hy530⟩ : ∃ y_ : List Int, y_ = (([(rd_T113 l0 x5_1).f0, (((rd_T113 l0 x5_1).f1).length : Int)] : List Int)) := ⟨_, rfl⟩
 replace H : (if x4_1.length + y530.length < 17592186044416 then ((some (x4_1 ++ y530 : List Int)).bind fun y533 => (if y533.length + ((rd_T113 l0 x5_1).f1).length < 17592186044416 then (spec_EncodeExts.l0 k1 l0 (y533 ++ ((rd_T113 l0 x5_1).f1)) (wrap64 (x5_1 + 1))) else (none))) else (none)) = some (r1, r2) := hb_ hy530 H
 have Ny530 := Q_ hy530
 clear hy530
 by_cases c10 : x4_1.length + y530.length < 17592186044416
 rotate_left
 ·rw [if_neg c10] at H
  exact absurd H (by simp)
 rw [if_pos c10] at H
 have LMc10 := Q_ c10
 clear c10
 obtain ⟨y533, hy533⟩ : ∃ y_ : List Int, y_ = (x4_1 ++ y530) := ⟨_, rfl⟩
 replace H : (if y533.length + ((rd_T113 l0 x5_1).f1).length < 17592186044416 then (spec_EncodeExts.l0 k1 l0 (y533 ++ ((rd_T113 l0 x5_1).f1)) (wrap64 (x5_1 + 1))) else (none)) = some (r1, r2) := hb_ hy533 H
 have Ny533 := Q_ hy533
 clear hy533
 by_cases c11 : y533.length + ((rd_T113 l0 x5_1).f1).length < 17592186044416
 rotate_left
 ·rw [if_neg c11] at H
  exact absurd H (by simp)
 rw [if_pos c11] at H
 have LMc11 := Q_ c11
 clear c11
 obtain ⟨y537, hy537⟩ : ∃ y_ : List Int, y_ = (y533 ++ ((rd_T113 l0 x5_1).f1)) := ⟨_, rfl⟩
 replace H : (spec_EncodeExts.l0 k1 l0 y537 (wrap64 (x5_1 + 1))) = some (r1, r2) := hb_ hy537 H
 have Ny537 := Q_ hy537
 clear hy537
 have H' := Q_ H
 clear H
 try go_wp2
 have _ := Q_ (Kd.R_drew HO_4.out)
 have _ := Q_ (below_drew1 HB.out)
 clear HO_4 HB
 rename_i HO_4 HB
 have p528 : 0 ≤ (x5_1 : Int) := dt_
 have q528 : x5_1 < (l0.length : Int) := dt_
 obtain ⟨ad528, A528_1, c528_1, e528, hx528_0, hx528_1, hl528_1, hi528_1⟩ := at_T113 HR0.out x5_1 p528 q528
 have hw528_1 := hx528_1
 have hw528_0 := hx528_0
 cases e528
 replace hx528_0 := bt_ HB hx528_0
 replace hx528_1 := bt_ HB hx528_1
 have HR528_1 := Q_ hi528_1
 have HC528_1 := Q_ hl528_1
 clear hi528_1 hl528_1
 replace p528 := eq_true p528
 replace q528 := eq_true q528
 have p529 : 0 ≤ (x5_1 : Int) := dt_
 have q529 : x5_1 < (l0.length : Int) := dt_
 obtain ⟨ad529, A529_1, c529_1, e529, hx529_0, hx529_1, hl529_1, hi529_1⟩ := at_T113 HR0.out x5_1 p529 q529
 have hw529_1 := hx529_1
 have hw529_0 := hx529_0
 obtain rfl : ad528 = ad529 := (by injection e529)
 replace hx529_0 := bt_ HB hx529_0
 replace hx529_1 := bt_ HB hx529_1
 have HR529_1 := Q_ hi529_1
 have HC529_1 := Q_ hl529_1
 clear hi529_1 hl529_1
 replace p529 := eq_true p529
 replace q529 := eq_true q529
 have ea_ := Option.some.inj (hx528_1.symm.trans hx529_1)
 injection ea_ with ea_ en_ ec_
 subst ea_
 subst ec_
 clear en_
 refine start_ (n := 15) (S := fun w' => w'.cell? (ad528.add ((x5_1).toNat * 2)) = some (.int .i64 ((rd_T113 l0 x5_1).f0)) ∧ w'.cell? ⟨(ad528.add ((x5_1).toNat * 2)).block, (ad528.add ((x5_1).toNat * 2)).off + 1, none⟩ = some (.slice A528_1 ((rd_T113 l0 x5_1).f1).length c528_1) ∧ w'.cell? (ad528.add ((x5_1).toNat * 2)) = some (.int .i64 ((rd_T113 l0 x5_1).f0)) ∧ w'.cell? ⟨(ad528.add ((x5_1).toNat * 2)).block, (ad528.add ((x5_1).toNat * 2)).off + 1, none⟩ = some (.slice A528_1 ((rd_T113 l0 x5_1).f1).length c528_1)) (ds := []) (tf_ 0 15) (by kernel_rfl) rfl rfl ⟨(bt_ HB hw528_0), (bt_ HB hw528_1), (bt_ HB hw529_0), (bt_ HB hw529_1)⟩ (fun hHeld => ?_); refine with_tabW spec_EncodeExts.tab7 spec_EncodeExts.bits7 (fun HT_ HW_ => ?_)
 generalize wr.drew = w12 at HO_4 HB HR528_1 HR529_1 hx528_0 hx528_1 hx529_0 hx529_1 hHeld ⊢
 refine pu_ 0 (some 19) (tf_ 1 15) HT_ ?_
 refine pu_ 1 (some 20) (tf_ 2 15) HT_ ?_
 refine pu_ 2 (some 21) (tf_ 3 15) HT_ ?_
 refine pu_ 3 (some 22) (tf_ 4 15) HT_ ?_
 refine pu_ 4 (some 23) (tf_ 5 15) HT_ ?_
 refine pu_ 6 (some 25) (tm_ 15 95) HT_ ?_
 refine pu_ 7 (some 26) (tm_ 15 223) HT_ ?_
 refine pu_ 8 (some 27) (tm_ 15 479) HT_ ?_
 refine pu_ 9 (some 28) (tm_ 15 991) HT_ ?_
 refine ta_ 5 (some 24) (tf_ 10 15) HT_ HW_ hHeld ?_
 refine ta_ 10 (some 29) (tf_ 11 15) HT_ HW_ hHeld ?_
 refine pu_ 11 (some 30) (tf_ 12 15) HT_ ?_
 refine on_ 12 (some 31) (tf_ 13 15) HT_ (fun K hK => ?_)
 refine Kd.R_lit_step (Kd.int .i64) _ 3 ?hg (N := 31) ?hd (xs := ([(rd_T113 l0 x5_1).f0, (((rd_T113 l0 x5_1).f1).length : Int)] : List Int)) (inner := [.int .i64 ((rd_T113 l0 x5_1).f0), .int .i64 (((rd_T113 l0 x5_1).f1).length : Int)]) (ok := fun _ => True) (okp := fun _ => True) ?hr ?hp (fun _ hk => hk) trivial (Below.refl _ _) (Nat.le_refl _) (by simp) ?_; (case hd => rfl); (case hg => rfl); (case hr => first | (go_simp; done) | (go_simp; rfl)); (case hp => exact (Reps.one (show Kd.M (Kd.int .i64) _ _ _ ((rd_T113 l0 x5_1).f0) [.int .i64 ((rd_T113 l0 x5_1).f0)] from rfl) (Reps.one (show Kd.M (Kd.int .i64) _ _ _ (((rd_T113 l0 x5_1).f1).length : Int) [.int .i64 (((rd_T113 l0 x5_1).f1).length : Int)] from rfl) (Reps.none _ _))))
 intro v531 w13 ho14 hb hg_ hnew_
 clear hg_ hnew_
 (first | rw [← Ny530.out] at ho14 | (simp only [Int.reduceToNat] at ho14; rw [← Ny530.out] at ho14))
 have _ := Q_ (Kd.R_elder' (pr_ HO_4.out) (Kd.R_base ho14) hb)
 have _ := Q_ (Kd.R_lower (Kd.R_new' ho14 (Kd.R_lt (pr_ HO_4.out))) (below_size (pb_ HB.out)))
 have _ := Q_ (below_step (pb_ HB.out) hb)
 clear HO_4 HB
 rename_i HO_4 HO532 HB
 clear hb ho14
 obtain ⟨Ao16, co16, eo16⟩ := Kd.R_slice HO532.out
 (first | subst eo16 | (injection eo16 with f1_ f2_ f3_; have f4_ := f1_.symm; have f5_ := f3_.symm; clear f1_ f2_ f3_; subst f4_; subst f5_))
 refine hK.out _ _ ⟨(bt_ HB hw528_0), (bt_ HB hw528_1), (bt_ HB hw529_0), (bt_ HB hw529_1)⟩ (fun hHeld => ?_)
 clear hK K
 refine no_ (some 31) ?_
 refine on_ 13 (some 32) (tf_ 14 15) HT_ (fun K hK => ?_)
 refine Kd.R_append_rows_step (Kd.int .i64) (w0 := w) w.heap.size (by rfl) (.tmp 19) (.tmp 31) 25 3 (.int .i64 0) 8 rfl Try.underlying25 info3 rfl (by decide) (by omega) u4 x4_1 y530 _ _ _ (fun k_ => some k_ ≠ (.slice Ao16 y530.length co16 : Value).ownBlock) (fun _ => False) rfl rfl ?aO ?aR (fun _ _ h => h) (fun _ h => h.elim) ?aF ?aB ?aS ?aL ?_
 (case aR => exact pc_ ((Kd.R_reads' HO532.out).2.2))
 (case aB => exact (pb_ HB.out))
 (case aF => exact (fun k_ hk => Kd.fresh' (Kd.R_lt (pr_ HO532.out)) k_ hk))
 (case aO => exact (pr_ (Kd.R_mono HO_4.out (fun _ hk => hk.2))))
 (case aS => exact (below_size (pb_ HB.out)))
 (case aL => have := LMc10.out; omega)
 intro v534 w15 ho hb hg hat
 rw [← Ny533.out] at ho
 have _ := Q_ (Kd.R_after (ok := (fun _ => True)) (pr_ HO532.out) hg hat)
 have _ := Q_ (hb)
 have _ := Q_ (ho)
 clear HO532 HB HO_4
 rename_i HO532 HB HO535
 clear ho hb hg hat
 refine hK.out _ _ ⟨(bt_ HB hw528_0), (bt_ HB hw528_1), (bt_ HB hw529_0), (bt_ HB hw529_1)⟩ (fun hHeld => ?_)
 clear hK K
 refine no_ (some 32) ?_
 refine pu_ 14 (some 4) (tf_ 15 15) HT_ ?_
 refine done_ (done_of HT_.out (by kernel_rfl)) ?_
 have p536 : 0 ≤ (x5_1 : Int) := dt_
 have q536 : x5_1 < (l0.length : Int) := dt_
 obtain ⟨ad536, A536_1, c536_1, e536, hx536_0, hx536_1, hl536_1, hi536_1⟩ := at_T113 HR0.out x5_1 p536 q536
 obtain rfl : ad528 = ad536 := (by injection e536)
 obtain ⟨rfl, rfl⟩ : A528_1 = A536_1 ∧ c528_1 = c536_1 := by have h_ := hw528_1.symm.trans hx536_1; simpa using h_
 replace hx536_0 := bt_ HB hx536_0
 replace hx536_1 := bt_ HB hx536_1
 have HR536_1 := Q_ hi536_1
 have HC536_1 := Q_ hl536_1
 clear hi536_1 hl536_1
 replace p536 := eq_true p536
 replace q536 := eq_true q536
 try go_wp2_with (first | ((with_reducible refine gate_builtin (b := .append) (xs := #[.tmp 33, .tmp 38]) rfl ?_); at_builtin; refine Kd.R_append_rows (Kd.int .i64) (w0 := w) w.heap.size rfl (.tmp 33) (.tmp 38) 25 3 (.int .i64 0) 8 rfl Try.underlying25 info3 rfl (by decide) (by omega) v534 y533 ((rd_T113 l0 x5_1).f1) _ _ _ (fun k_ => some k_ ≠ (.slice Ao16 y530.length co16 : Value).ownBlock) (fun _ => False) rfl rfl ?aO ?aR (fun _ _ h => h) (fun _ h => h.elim) ?aF ?aB ?aS ?aL ?_; (case aR => exact cb_ HR536_1 HB); (case aB => exact (pb_ HB.out)); (case aF => exact (fun k_ hk => Kd.fresh' (Kd.R_lt (pr_ HO532.out)) k_ hk)); (case aO => exact (pr_ HO535.out)); (case aS => exact (below_size (pb_ HB.out))); (case aL => have := LMc11.out; omega); intro v538 w17 ho hb hg hat; rw [← Ny537.out] at ho; have _ := Q_ (Kd.R_after (ok := (fun _ => True)) (pr_ HO532.out) hg hat); have _ := Q_ (hb); have _ := Q_ (ho); clear HO532 HB HO535; rename_i HO532 HB HO539; clear ho hb hg hat))
 go_roundg k1
 case measure => have := HK1.out; omega
 case rel => exact ⟨(y537), (wrap64 (x5_1 + 1)), el_, H', ⟨by have := HK1.out; omega⟩, ⟨pr_ (Kd.R_mono HO539.out (fun _ hk => trivial))⟩, ⟨pb_ HB.out⟩⟩

/-! ### spec_HelloBytes: function 67 -/
def spec_HelloBytes.f (k : Nat) (l0_0 : List Int) (l0_1 : List (S113)) : Option (List Int) := (spec_IsHello.f k l0_0 l0_1).bind fun t541 => (if t541 = true then ((spec_EncodeExts.f k l0_1).bind fun bt542 => ((some (([(l0_0.length : Int)] : List Int) : List Int)).bind fun y546 => (if y546.length + l0_0.length < 17592186044416 then ((some (y546 ++ l0_0 : List Int)).bind fun y549 => (if y549.length + bt542.1.length < 17592186044416 then (some (y549 ++ bt542.1)) else (none))) else (none)))) else (some (([] : List Int))))
theorem spec_HelloBytes.mono : ∀ a0 a1 k, LeO (spec_HelloBytes.f k a0 a1) (spec_HelloBytes.f (k + 1) a0 a1) := by
 intro a0 a1 k
 unfold spec_HelloBytes.f
 exact mo2_ spec_EncodeExts.mono spec_IsHello.mono
theorem spec_HelloBytes.calls (k : Nat) (A0_0 : Option Addr) (c0_0 : Nat) (l0_0 : List Int) (A0_1 : Option Addr) (c0_1 : Nat) (l0_1 : List (S113)) (r : List Int) (w : World) (hr0_0 : Kd.C (Kd.int .i64) w A0_0 l0_0.length l0_0) (hc0_0 : l0_0.length ≤ c0_0) (hr0_1 : Kd.C k113 w A0_1 l0_1.length l0_1) (hc0_1 : l0_1.length ≤ c0_1) (h : spec_HelloBytes.f k l0_0 l0_1 = some r) :
  Calls Try.prog 67 #[.agg #[.slice A0_0 l0_0.length c0_0, .slice A0_1 l0_1.length c0_1]] w fun e w' => ∃ v0_ : Value, e = .returned (v0_) ∧ Kd.R (Kd.int .i64) 3 w' w.heap.size (fun _ => True) v0_ r ∧ Below w.heap.size w w' := by
 have hu71 := Try.underlying71
 have HR0_0 := Q_ hr0_0
 have HC0_0 := Q_ hc0_0
 clear hr0_0 hc0_0
 have HR0_1 := Q_ hr0_1
 have HC0_1 := Q_ hc0_1
 clear hr0_1 hc0_1
 have HB := Q_ (Below.refl w.heap.size w)
 have H : ((spec_IsHello.f k l0_0 l0_1).bind fun t541 => (if t541 = true then ((spec_EncodeExts.f k l0_1).bind fun bt542 => ((some (([(l0_0.length : Int)] : List Int) : List Int)).bind fun y546 => (if y546.length + l0_0.length < 17592186044416 then ((some (y546 ++ l0_0 : List Int)).bind fun y549 => (if y549.length + bt542.1.length < 17592186044416 then (some (y549 ++ bt542.1)) else (none))) else (none)))) else (some (([] : List Int))))) = some r := h
 clear h
 have HS_ := Q_ H
 clear H
 go_enter Try.func67, Try.ntmps67
 go_upto_region 1 with (first | ((with_reducible refine gate_dst (N := 1) rfl ?_); refine box_event ?hg (N := 1) ?hd (cs := #[.slice A0_0 l0_0.length c0_0, .slice A0_1 l0_1.length c0_1]) (t := 71) ?hr ?_; (case hd => rfl); (case hg => rfl); (case hr => first | (go_simp; done) | (go_simp; rfl)); intro gb540 hg w2 hbox hb; have _ := Q_ (below_step (pb_ HB.out) hb); have BK540 := Q_ (hbox); have GW540 := Q_ ((by rw [hg]; exact (below_size (pb_ HB.out)) : w.heap.size ≤ gb540)); have GE540 := GW540; clear HB; rename_i HB; clear hb hbox hg))
 (try simp only [Act.put, List.setIfInBounds_toArray, List.set_cons_zero, List.set_cons_succ])
 have H := HS_.out
 clear HS_
 replace H := Option.bind_eq_some_iff.mp H
 obtain ⟨t541, A30, H⟩ := H
 (try dsimp only at H)
 have A3 := Q_ A30
 clear A30
 have HS_ := Q_ H
 clear H
 have hcz4 := bc2_ BK540.out
 go_upto_if 7 with (first | ((with_reducible refine gate_callee (f := 59) rfl ?_); refine gl_ (some 6) Try.func59 #[.agg #[.slice A0_0 l0_0.length c0_0, .slice A0_1 l0_1.length c0_1]] ?_; (with_reducible refine (spec_IsHello.calls k _ _ l0_0 _ _ l0_1 t541 _ ?side1 ?side2 ?side3 ?side4 A3.out).mono ?_); (case side1 => exact cb_ HR0_0 HB); (case side2 => exact HC0_0.out); (case side3 => exact cb_ HR0_1 HB); (case side4 => exact HC0_1.out); rintro e w5 ⟨rfl, hb⟩; refine ⟨_, rfl, ?_⟩; have _ := Q_ (bb_ BK540.out hb); have _ := Q_ (below_step (pb1_ HB.out GE540.out) hb); clear BK540 HB; rename_i BK540 HB; (try clear hb); (try clear hb2); (try clear hk); (try clear hi)))
 (try simp only [Act.put, List.setIfInBounds_toArray, List.set_cons_zero, List.set_cons_succ])
 have H := HS_.out
 clear HS_
 by_cases c6 : t541 = true
 rotate_left
 ·replace c6 := bf_ c6
  subst c6
  rw [if_neg ff_] at H
  obtain ⟨y555, hy555⟩ : ∃ y_ : List Int, y_ = (([] : List Int)) := ⟨_, rfl⟩
  replace H : (some y555) = some r := hb_ hy555 H
  have Ny555 := Q_ hy555
  clear hy555
  obtain rfl := Option.some.inj H
  go_wp2_with (first | ((with_reducible refine gate_dst (N := 8) rfl ?_); refine Kd.R_lit (Kd.int .i64) _ 3 ?hg (N := 8) ?hd (xs := ([] : List Int)) (inner := []) (ok := fun _ => True) (okp := fun _ => True) ?hr ?hp (fun _ hk => hk) trivial (Below.refl _ _) (Nat.le_refl _) (by simp) ?_; (case hd => rfl); (case hg => rfl); (case hr => first | (go_simp; done) | (go_simp; rfl)); (case hp => exact (Reps.none _ _)); intro v556 w7 ho8 hb hg_ hnew_; clear hg_ hnew_; (first | rw [← Ny555.out] at ho8 | (simp only [Int.reduceToNat] at ho8; rw [← Ny555.out] at ho8)); have _ := Q_ (Kd.R_lower ho8 (below_size (pb1_ HB.out GE540.out))); have _ := Q_ (bb_ BK540.out hb); have _ := Q_ (below_step (pb1_ HB.out GE540.out) hb); clear BK540 HB; rename_i HO557 BK540 HB; clear hb ho8))
  go_ret
  exact ⟨_, er_, pr_ HO557.out, pb1_ HB.out GE540.out⟩
 subst c6
 rw [if_pos rfl] at H
 replace H := Option.bind_eq_some_iff.mp H
 obtain ⟨⟨t542, t543⟩, A90, H⟩ := H
 (try dsimp only at H)
 have A9 := Q_ A90
 clear A90
 obtain ⟨y546, hy546⟩ : ∃ y_ : List Int, y_ = (([(l0_0.length : Int)] : List Int)) := ⟨_, rfl⟩
 replace H : (if y546.length + l0_0.length < 17592186044416 then ((some (y546 ++ l0_0 : List Int)).bind fun y549 => (if y549.length + t542.length < 17592186044416 then (some (y549 ++ t542)) else (none))) else (none)) = some r := hb_ hy546 H
 have Ny546 := Q_ hy546
 clear hy546
 by_cases c10 : y546.length + l0_0.length < 17592186044416
 rotate_left
 ·rw [if_neg c10] at H
  exact absurd H (by simp)
 rw [if_pos c10] at H
 have LMc10 := Q_ c10
 clear c10
 obtain ⟨y549, hy549⟩ : ∃ y_ : List Int, y_ = (y546 ++ l0_0) := ⟨_, rfl⟩
 replace H : (if y549.length + t542.length < 17592186044416 then (some (y549 ++ t542)) else (none)) = some r := hb_ hy549 H
 have Ny549 := Q_ hy549
 clear hy549
 by_cases c11 : y549.length + t542.length < 17592186044416
 rotate_left
 ·rw [if_neg c11] at H
  exact absurd H (by simp)
 rw [if_pos c11] at H
 have LMc11 := Q_ c11
 clear c11
 obtain ⟨y552, hy552⟩ : ∃ y_ : List Int, y_ = (y549 ++ t542) := ⟨_, rfl⟩
 replace H : (some y552) = some r := hb_ hy552 H
 have Ny552 := Q_ hy552
 clear hy552
 obtain rfl := Option.some.inj H
 have hcz12 := bc2_ BK540.out
 go_wp2_with (first | ((with_reducible refine gate_callee (f := 92) rfl ?_); refine gl_ (some 12) Try.func92 #[.slice A0_1 l0_1.length c0_1] ?_; (with_reducible refine (spec_EncodeExts.calls k _ _ l0_1 t542 t543 _ ?side1 ?side2 A9.out).mono ?_); (case side1 => exact cb_ HR0_1 HB); (case side2 => exact HC0_1.out); rintro e w13 ⟨v544, rfl, ho0, hb⟩; refine ⟨_, rfl, ?_⟩; have _ := Q_ (Kd.R_lower ho0 (below_size (pb1_ HB.out GE540.out))); have _ := Q_ (bb_ BK540.out hb); have _ := Q_ (below_step (pb1_ HB.out GE540.out) hb); clear BK540 HB; rename_i HO545 BK540 HB; (try clear hb); (try clear hb2); (try clear hk); (try clear hi); (try clear ho0); have hcz14 := bc2_ BK540.out) | ((with_reducible refine gate_dst (N := 18) rfl ?_); refine Kd.R_lit (Kd.int .i64) _ 3 ?hg (N := 18) ?hd (xs := ([(l0_0.length : Int)] : List Int)) (inner := [.int .i64 (l0_0.length : Int)]) (ok := fun _ => True) (okp := fun _ => True) ?hr ?hp (fun _ hk => hk) trivial (Below.refl _ _) (Nat.le_refl _) (by simp) ?_; (case hd => rfl); (case hg => rfl); (case hr => first | (go_simp; done) | (go_simp; rfl)); (case hp => exact (Reps.one (show Kd.M (Kd.int .i64) _ _ _ (l0_0.length : Int) [.int .i64 (l0_0.length : Int)] from rfl) (Reps.none _ _))); intro v547 w15 ho16 hb hg_ hnew_; clear hg_ hnew_; (first | rw [← Ny546.out] at ho16 | (simp only [Int.reduceToNat] at ho16; rw [← Ny546.out] at ho16)); have _ := Q_ (Kd.R_elder' (pr_ HO545.out) (Kd.R_base ho16) hb); have _ := Q_ (Kd.R_lower (Kd.R_new' ho16 (Kd.R_lt (pr_ HO545.out))) (below_size (pb1_ HB.out GE540.out))); have _ := Q_ (bb_ BK540.out hb); have _ := Q_ (below_step (pb1_ HB.out GE540.out) hb); clear HO545 BK540 HB; rename_i HO545 HO548 BK540 HB; clear hb ho16; have hcz17 := bc2_ BK540.out) | ((with_reducible refine gate_builtin (b := .append) (xs := #[.tmp 18, .tmp 20]) rfl ?_); at_builtin; refine Kd.R_append_rows (Kd.int .i64) (w0 := w) w.heap.size rfl (.tmp 18) (.tmp 20) 25 3 (.int .i64 0) 8 rfl Try.underlying25 info3 rfl (by decide) (by omega) v547 y546 l0_0 _ _ _ (fun k_ => some k_ ≠ (v544 : Value).ownBlock) (fun _ => False) rfl rfl ?aO ?aR (fun _ _ h => h) (fun _ h => h.elim) ?aF ?aB ?aS ?aL ?_; (case aR => exact cb_ HR0_0 HB); (case aB => exact (pb1_ HB.out GE540.out)); (case aF => exact (fun k_ hk => Kd.fresh' (Kd.R_lt (pr_ HO545.out)) k_ hk)); (case aO => exact (pr_ (Kd.R_mono HO548.out (fun _ hk => hk.2)))); (case aS => exact (below_size (pb1_ HB.out GE540.out))); (case aL => have := LMc10.out; omega); intro v550 w18 ho hb hg hat; rw [← Ny549.out] at ho; have _ := Q_ (blk_grown (g := gb540) (o := .cells #[.slice A0_0 l0_0.length c0_0, .slice A0_1 l0_1.length c0_1] 71 (0, 0)) (pk_ BK540.out) hg (Kd.R_ne HO548.out BK540.out (by decide))); have _ := Q_ (Kd.R_after (ok := (fun _ => True)) (pr_ HO545.out) hg hat); have _ := Q_ (hb); have _ := Q_ (ho); clear BK540 HO545 HB HO548; rename_i BK540 HO545 HB HO551; clear ho hb hg hat; obtain ⟨Ao20, co20, eo20⟩ := Kd.R_slice HO545.out; subst eo20) | ((with_reducible refine gate_builtin (b := .append) (xs := #[.tmp 21, .tmp 22]) rfl ?_); at_builtin; refine Kd.R_append_rows (Kd.int .i64) (w0 := w) w.heap.size rfl (.tmp 21) (.tmp 22) 25 3 (.int .i64 0) 8 rfl Try.underlying25 info3 rfl (by decide) (by omega) v550 y549 t542 _ _ _ (fun k_ => some k_ ≠ (.slice Ao20 t542.length co20 : Value).ownBlock) (fun _ => False) rfl rfl ?aO ?aR (fun _ _ h => h) (fun _ h => h.elim) ?aF ?aB ?aS ?aL ?_; (case aR => exact pc_ ((Kd.R_reads' HO545.out).2.2)); (case aB => exact (pb1_ HB.out GE540.out)); (case aF => exact (fun k_ hk => Kd.fresh' (Kd.R_lt (pr_ HO545.out)) k_ hk)); (case aO => exact (pr_ HO551.out)); (case aS => exact (below_size (pb1_ HB.out GE540.out))); (case aL => have := LMc11.out; omega); intro v553 w19 ho hb hg hat; rw [← Ny552.out] at ho; have _ := Q_ (blk_grown (g := gb540) (o := .cells #[.slice A0_0 l0_0.length c0_0, .slice A0_1 l0_1.length c0_1] 71 (0, 0)) (pk_ BK540.out) hg (Kd.R_ne HO551.out BK540.out (by decide))); have _ := Q_ (Kd.R_after (ok := (fun _ => True)) (pr_ HO545.out) hg hat); have _ := Q_ (hb); have _ := Q_ (ho); clear BK540 HO545 HB HO551; rename_i BK540 HO545 HB HO554; clear ho hb hg hat))
 go_ret
 exact ⟨_, er_, pr_ (Kd.R_mono HO554.out (fun _ hk => trivial)), pb1_ HB.out GE540.out⟩

/-! ### spec_AnswerBytes: function 68 -/
def spec_AnswerBytes.f (k : Nat) (a0_0 : Int) (l0_1 : List (S113)) : Option (List Int) := (spec_IsAnswer.f k a0_0 l0_1).bind fun t559 => (if t559 = true then ((spec_EncodeExts.f k l0_1).bind fun bt560 => ((some (([a0_0] : List Int) : List Int)).bind fun y564 => (if y564.length + bt560.1.length < 17592186044416 then (some (y564 ++ bt560.1)) else (none)))) else (some (([] : List Int))))
theorem spec_AnswerBytes.mono : ∀ a0 a1 k, LeO (spec_AnswerBytes.f k a0 a1) (spec_AnswerBytes.f (k + 1) a0 a1) := by
 intro a0 a1 k
 unfold spec_AnswerBytes.f
 exact mo2_ spec_EncodeExts.mono spec_IsAnswer.mono
theorem spec_AnswerBytes.calls (k : Nat) (a0_0 : Int) (A0_1 : Option Addr) (c0_1 : Nat) (l0_1 : List (S113)) (r : List Int) (w : World) (hr0_1 : Kd.C k113 w A0_1 l0_1.length l0_1) (hc0_1 : l0_1.length ≤ c0_1) (h : spec_AnswerBytes.f k a0_0 l0_1 = some r) :
  Calls Try.prog 68 #[.agg #[.int .i64 a0_0, .slice A0_1 l0_1.length c0_1]] w fun e w' => ∃ v0_ : Value, e = .returned (v0_) ∧ Kd.R (Kd.int .i64) 3 w' w.heap.size (fun _ => True) v0_ r ∧ Below w.heap.size w w' := by
 have hu101 := Try.underlying101
 have HR0_1 := Q_ hr0_1
 have HC0_1 := Q_ hc0_1
 clear hr0_1 hc0_1
 have HB := Q_ (Below.refl w.heap.size w)
 have H : ((spec_IsAnswer.f k a0_0 l0_1).bind fun t559 => (if t559 = true then ((spec_EncodeExts.f k l0_1).bind fun bt560 => ((some (([a0_0] : List Int) : List Int)).bind fun y564 => (if y564.length + bt560.1.length < 17592186044416 then (some (y564 ++ bt560.1)) else (none)))) else (some (([] : List Int))))) = some r := h
 clear h
 have HS_ := Q_ H
 clear H
 go_enter Try.func68, Try.ntmps68
 go_upto_region 1 with (first | ((with_reducible refine gate_dst (N := 1) rfl ?_); refine box_event ?hg (N := 1) ?hd (cs := #[.int .i64 a0_0, .slice A0_1 l0_1.length c0_1]) (t := 101) ?hr ?_; (case hd => rfl); (case hg => rfl); (case hr => first | (go_simp; done) | (go_simp; rfl)); intro gb558 hg w2 hbox hb; have _ := Q_ (below_step (pb_ HB.out) hb); have BK558 := Q_ (hbox); have GW558 := Q_ ((by rw [hg]; exact (below_size (pb_ HB.out)) : w.heap.size ≤ gb558)); have GE558 := GW558; clear HB; rename_i HB; clear hb hbox hg))
 (try simp only [Act.put, List.setIfInBounds_toArray, List.set_cons_zero, List.set_cons_succ])
 have H := HS_.out
 clear HS_
 replace H := Option.bind_eq_some_iff.mp H
 obtain ⟨t559, A30, H⟩ := H
 (try dsimp only at H)
 have A3 := Q_ A30
 clear A30
 have HS_ := Q_ H
 clear H
 have hcz4 := bc2_ BK558.out
 go_upto_if 7 with (first | ((with_reducible refine gate_callee (f := 87) rfl ?_); refine gl_ (some 6) Try.func87 #[.agg #[.int .i64 a0_0, .slice A0_1 l0_1.length c0_1]] ?_; (with_reducible refine (spec_IsAnswer.calls k a0_0 _ _ l0_1 t559 _ ?side1 ?side2 A3.out).mono ?_); (case side1 => exact cb_ HR0_1 HB); (case side2 => exact HC0_1.out); rintro e w5 ⟨rfl, hb⟩; refine ⟨_, rfl, ?_⟩; have _ := Q_ (bb_ BK558.out hb); have _ := Q_ (below_step (pb1_ HB.out GE558.out) hb); clear BK558 HB; rename_i BK558 HB; (try clear hb); (try clear hb2); (try clear hk); (try clear hi)))
 (try simp only [Act.put, List.setIfInBounds_toArray, List.set_cons_zero, List.set_cons_succ])
 have H := HS_.out
 clear HS_
 by_cases c6 : t559 = true
 rotate_left
 ·replace c6 := bf_ c6
  subst c6
  rw [if_neg ff_] at H
  obtain ⟨y570, hy570⟩ : ∃ y_ : List Int, y_ = (([] : List Int)) := ⟨_, rfl⟩
  replace H : (some y570) = some r := hb_ hy570 H
  have Ny570 := Q_ hy570
  clear hy570
  obtain rfl := Option.some.inj H
  go_wp2_with (first | ((with_reducible refine gate_dst (N := 8) rfl ?_); refine Kd.R_lit (Kd.int .i64) _ 3 ?hg (N := 8) ?hd (xs := ([] : List Int)) (inner := []) (ok := fun _ => True) (okp := fun _ => True) ?hr ?hp (fun _ hk => hk) trivial (Below.refl _ _) (Nat.le_refl _) (by simp) ?_; (case hd => rfl); (case hg => rfl); (case hr => first | (go_simp; done) | (go_simp; rfl)); (case hp => exact (Reps.none _ _)); intro v571 w7 ho8 hb hg_ hnew_; clear hg_ hnew_; (first | rw [← Ny570.out] at ho8 | (simp only [Int.reduceToNat] at ho8; rw [← Ny570.out] at ho8)); have _ := Q_ (Kd.R_lower ho8 (below_size (pb1_ HB.out GE558.out))); have _ := Q_ (bb_ BK558.out hb); have _ := Q_ (below_step (pb1_ HB.out GE558.out) hb); clear BK558 HB; rename_i HO572 BK558 HB; clear hb ho8))
  go_ret
  exact ⟨_, er_, pr_ HO572.out, pb1_ HB.out GE558.out⟩
 subst c6
 rw [if_pos rfl] at H
 replace H := Option.bind_eq_some_iff.mp H
 obtain ⟨⟨t560, t561⟩, A90, H⟩ := H
 (try dsimp only at H)
 have A9 := Q_ A90
 clear A90
 obtain ⟨y564, hy564⟩ : ∃ y_ : List Int, y_ = (([a0_0] : List Int)) := ⟨_, rfl⟩
 replace H : (if y564.length + t560.length < 17592186044416 then (some (y564 ++ t560)) else (none)) = some r := hb_ hy564 H
 have Ny564 := Q_ hy564
 clear hy564
 by_cases c10 : y564.length + t560.length < 17592186044416
 rotate_left
 ·rw [if_neg c10] at H
  exact absurd H (by simp)
 rw [if_pos c10] at H
 have LMc10 := Q_ c10
 clear c10
 obtain ⟨y567, hy567⟩ : ∃ y_ : List Int, y_ = (y564 ++ t560) := ⟨_, rfl⟩
 replace H : (some y567) = some r := hb_ hy567 H
 have Ny567 := Q_ hy567
 clear hy567
 obtain rfl := Option.some.inj H
 have hcz11 := bc2_ BK558.out
 go_wp2_with (first | ((with_reducible refine gate_callee (f := 92) rfl ?_); refine gl_ (some 12) Try.func92 #[.slice A0_1 l0_1.length c0_1] ?_; (with_reducible refine (spec_EncodeExts.calls k _ _ l0_1 t560 t561 _ ?side1 ?side2 A9.out).mono ?_); (case side1 => exact cb_ HR0_1 HB); (case side2 => exact HC0_1.out); rintro e w12 ⟨v562, rfl, ho0, hb⟩; refine ⟨_, rfl, ?_⟩; have _ := Q_ (Kd.R_lower ho0 (below_size (pb1_ HB.out GE558.out))); have _ := Q_ (bb_ BK558.out hb); have _ := Q_ (below_step (pb1_ HB.out GE558.out) hb); clear BK558 HB; rename_i HO563 BK558 HB; (try clear hb); (try clear hb2); (try clear hk); (try clear hi); (try clear ho0); have hcz13 := bc2_ BK558.out) | ((with_reducible refine gate_dst (N := 17) rfl ?_); refine Kd.R_lit (Kd.int .i64) _ 3 ?hg (N := 17) ?hd (xs := ([a0_0] : List Int)) (inner := [.int .i64 a0_0]) (ok := fun _ => True) (okp := fun _ => True) ?hr ?hp (fun _ hk => hk) trivial (Below.refl _ _) (Nat.le_refl _) (by simp) ?_; (case hd => rfl); (case hg => rfl); (case hr => first | (go_simp; done) | (go_simp; rfl)); (case hp => exact (Reps.one (show Kd.M (Kd.int .i64) _ _ _ a0_0 [.int .i64 a0_0] from rfl) (Reps.none _ _))); intro v565 w14 ho15 hb hg_ hnew_; clear hg_ hnew_; (first | rw [← Ny564.out] at ho15 | (simp only [Int.reduceToNat] at ho15; rw [← Ny564.out] at ho15)); have _ := Q_ (Kd.R_elder' (pr_ HO563.out) (Kd.R_base ho15) hb); have _ := Q_ (Kd.R_lower (Kd.R_new' ho15 (Kd.R_lt (pr_ HO563.out))) (below_size (pb1_ HB.out GE558.out))); have _ := Q_ (bb_ BK558.out hb); have _ := Q_ (below_step (pb1_ HB.out GE558.out) hb); clear HO563 BK558 HB; rename_i HO563 HO566 BK558 HB; clear hb ho15; obtain ⟨Ao17, co17, eo17⟩ := Kd.R_slice HO563.out; subst eo17) | ((with_reducible refine gate_builtin (b := .append) (xs := #[.tmp 17, .tmp 18]) rfl ?_); at_builtin; refine Kd.R_append_rows (Kd.int .i64) (w0 := w) w.heap.size rfl (.tmp 17) (.tmp 18) 25 3 (.int .i64 0) 8 rfl Try.underlying25 info3 rfl (by decide) (by omega) v565 y564 t560 _ _ _ (fun k_ => some k_ ≠ (.slice Ao17 t560.length co17 : Value).ownBlock) (fun _ => False) rfl rfl ?aO ?aR (fun _ _ h => h) (fun _ h => h.elim) ?aF ?aB ?aS ?aL ?_; (case aR => exact pc_ ((Kd.R_reads' HO563.out).2.2)); (case aB => exact (pb1_ HB.out GE558.out)); (case aF => exact (fun k_ hk => Kd.fresh' (Kd.R_lt (pr_ HO563.out)) k_ hk)); (case aO => exact (pr_ (Kd.R_mono HO566.out (fun _ hk => hk.2)))); (case aS => exact (below_size (pb1_ HB.out GE558.out))); (case aL => have := LMc10.out; omega); intro v568 w16 ho hb hg hat; rw [← Ny567.out] at ho; have _ := Q_ (blk_grown (g := gb558) (o := .cells #[.int .i64 a0_0, .slice A0_1 l0_1.length c0_1] 101 (0, 0)) (pk_ BK558.out) hg (Kd.R_ne HO566.out BK558.out (by decide))); have _ := Q_ (Kd.R_after (ok := (fun _ => True)) (pr_ HO563.out) hg hat); have _ := Q_ (hb); have _ := Q_ (ho); clear BK558 HO563 HB HO566; rename_i BK558 HO563 HB HO569; clear ho hb hg hat))
 go_ret
 exact ⟨_, er_, pr_ (Kd.R_mono HO569.out (fun _ hk => trivial)), pb1_ HB.out GE558.out⟩

end Go.Proofs.Ytlcpaebidnaolaa.Print
