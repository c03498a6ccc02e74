-- Written by a program of this session (printx.py) out of the translation; Lean checks it.
import Derived.Test.YtdoefkloanpliaaPrint0
import Derived.Test.YtdoefkloanpliaaPrint1
import Derived.Test.YtdoefkloanpliaaPrint2
import Derived.Test.YtdoefkloanpliaaPrint9
import Derived.Test.YtdoefkloanpliaaPrint13
namespace Go.Proofs.Ytdoefkloanpliaa.Print
open Go.RowKit Go.Proofs.YtdoefkloanpliaaW.PrintWords Go.Proofs.YtdoefkloanpliaaW.PrintLast Go.Proofs.YtdoefkloanpliaaW.PrintMore Go.Proofs.Ytdoefkloanpliaa.Short
attribute [local go_sem] max2_int min2_int max_two min_two max_three min_three max_four min_four   -- for this text's walks alone
set_option linter.unusedVariables false
set_option linter.unusedSimpArgs false

/-! ### laws_FnExactRefusesGrease: function 12 -/
def laws_FnExactRefusesGrease.f (k : Nat) (a0_0 : Int) (l0_1 : List Int) (l0_2 : List Int) (a0_3 : Bool) : Option (Bool) := (laws_szBox.f a0_0 l0_1 l0_2 a0_3 1048576).bind fun t423 => (if t423 < 0 then (some true) else ((laws_toBox.f k a0_0 l0_1 l0_2 a0_3).bind fun bt424 => ((spec_RefusesGrease.f k bt424.1 bt424.2.1 bt424.2.2.1 bt424.2.2.2).bind fun t432 => ((laws_toBox.f k a0_0 l0_1 l0_2 a0_3).bind fun bt433 => ((impl_RefusesGrease.f k bt433.1 bt433.2.1 bt433.2.2.1 bt433.2.2.2).bind fun t442 => (if (t442 != t432) = true then (some false) else ((laws_toBox.f k a0_0 l0_1 l0_2 a0_3).bind fun bt443 => ((laws_eqBox.f k bt433.1 bt433.2.1 bt433.2.2.1 bt433.2.2.2 bt443.1 bt443.2.1 bt443.2.2.1 bt443.2.2.2).bind fun t451 => (if t451 = true then (some true) else (some false))))))))))
theorem laws_FnExactRefusesGrease.mono : ∀ a0 a1 a2 a3 k, LeO (laws_FnExactRefusesGrease.f k a0 a1 a2 a3) (laws_FnExactRefusesGrease.f (k + 1) a0 a1 a2 a3) := by
  intro a0 a1 a2 a3 k
  unfold laws_FnExactRefusesGrease.f
  repeat' first
      | (with_reducible exact impl_RefusesGrease.mono _ _ _ _ _)
      | (with_reducible exact laws_eqBox.mono _ _ _ _ _ _ _ _ _)
      | (with_reducible exact laws_toBox.mono _ _ _ _ _)
      | (with_reducible exact spec_RefusesGrease.mono _ _ _ _ _)
      | (with_reducible exact LeO.refl _)
      | (with_reducible exact LeO.none _)
      | (with_reducible refine LeO.ite ?_ ?_)
      | (with_reducible refine LeO.bind ?_ (fun _ => ?_))
      | exact impl_RefusesGrease.mono _ _ _ _ _
      | exact laws_eqBox.mono _ _ _ _ _ _ _ _ _
      | exact laws_toBox.mono _ _ _ _ _
      | exact spec_RefusesGrease.mono _ _ _ _ _
      | exact LeO.none _
      | refine LeO.ite ?_ ?_
      | refine LeO.bind ?_ (fun _ => ?_)
set_option maxHeartbeats 8000000 in
set_option maxRecDepth 100000 in
theorem laws_FnExactRefusesGrease.calls (k : Nat) (a0_0 : Int) (A0_1 : Option Addr) (c0_1 : Nat) (l0_1 : List Int) (A0_2 : Option Addr) (c0_2 : Nat) (l0_2 : List Int) (a0_3 : Bool) (r : Bool) (w : World) (hr0_1 : Kd.C (Kd.int .i64) w A0_1 l0_1.length l0_1) (hc0_1 : l0_1.length ≤ c0_1) (hr0_2 : Kd.C (Kd.int .i64) w A0_2 l0_2.length l0_2) (hc0_2 : l0_2.length ≤ c0_2) (h : laws_FnExactRefusesGrease.f k a0_0 l0_1 l0_2 a0_3 = some r) :
    Calls Try.prog 12 #[.agg #[.int .i64 a0_0, .slice A0_1 l0_1.length c0_1, .slice A0_2 l0_2.length c0_2, .bool a0_3]] w fun e w' => e = .returned (.bool r) ∧ Below w.heap.size w w' := by
  have hu64 := Try.underlying64
  have hu67 := Try.underlying67
  have HR0_1 := Aside0.mk hr0_1
  have HC0_1 := Aside0.mk hc0_1
  clear hr0_1 hc0_1
  have HR0_2 := Aside0.mk hr0_2
  have HC0_2 := Aside0.mk hc0_2
  clear hr0_2 hc0_2
  have HB := Aside0.mk (Below.refl w.heap.size w)
  have H : ((laws_szBox.f a0_0 l0_1 l0_2 a0_3 1048576).bind fun t423 => (if t423 < 0 then (some true) else ((laws_toBox.f k a0_0 l0_1 l0_2 a0_3).bind fun bt424 => ((spec_RefusesGrease.f k bt424.1 bt424.2.1 bt424.2.2.1 bt424.2.2.2).bind fun t432 => ((laws_toBox.f k a0_0 l0_1 l0_2 a0_3).bind fun bt433 => ((impl_RefusesGrease.f k bt433.1 bt433.2.1 bt433.2.2.1 bt433.2.2.2).bind fun t442 => (if (t442 != t432) = true then (some false) else ((laws_toBox.f k a0_0 l0_1 l0_2 a0_3).bind fun bt443 => ((laws_eqBox.f k bt433.1 bt433.2.1 bt433.2.2.1 bt433.2.2.2 bt443.1 bt443.2.1 bt443.2.2.1 bt443.2.2.2).bind fun t451 => (if t451 = true then (some true) else (some false))))))))))) = some r := h
  clear h
  have HS_ := Aside0.mk H
  clear H
  go_enter Try.func12, Try.ntmps12
  go_upto_region 2 with (first | ((with_reducible refine gate_dst (N := 1) rfl ?_); refine box_event ?hg (N := 1) ?hd (cs := #[.int .i64 a0_0, .slice A0_1 l0_1.length c0_1, .slice A0_2 l0_2.length c0_2, .bool a0_3]) (t := 64) ?hr ?_; (case hd => rfl); (case hg => rfl); (case hr => first | (go_simp; done) | (go_simp; rfl)); intro gb422 hg w2 hbox hb; have n0_ := Aside0.mk (below_step (pb_ HB.out) hb); have n1_ := Aside0.mk (hbox); have n2_ := Aside0.mk ((by rw [hg]; exact (below_size (pb_ HB.out)) : w.heap.size ≤ gb422)); have n3_ := Aside0.mk ((by rw [hg]; exact (below_size (pb_ HB.out)) : w.heap.size ≤ gb422)); clear HB; have HB := n0_; have BK422 := n1_; have GW422 := n2_; have GE422 := n3_; clear n0_ n1_ n2_ n3_; clear hb hbox hg))
  (try simp only [Act.put, List.setIfInBounds_toArray, List.set_cons_zero, List.set_cons_succ])
  have H := HS_.out
  clear HS_
  replace H := Option.bind_eq_some_iff.mp H
  obtain ⟨t423, A30, H⟩ := H
  (try dsimp only at H)
  have A3 := Aside0.mk A30
  clear A30
  have HS_ := Aside0.mk H
  clear H
  obtain ⟨hcz4_0, hcz4_1, hcz4_2, hcz4_3, hfz4_0, hfz4_1, hfz4_2, hfz4_3⟩ := bc4_ BK422.out
  go_upto_if 11 with (first | ((with_reducible refine gate_callee (f := 50) rfl ?_); refine goesL_ (some 9) rfl rfl Try.func50 (by kernel_rfl) rfl #[.agg #[.int .i64 a0_0, .slice A0_1 l0_1.length c0_1, .slice A0_2 l0_2.length c0_2, .bool a0_3], .int .i64 1048576] rfl mp_ ?_; (with_reducible refine (laws_szBox.calls a0_0 _ _ l0_1 _ _ l0_2 a0_3 1048576 t423 _ ?side1 ?side2 ?side3 ?side4 A3.out).mono ?_); (case side1 => exact pc_ (Kd.C_below HR0_1.out HB.out)); (case side2 => exact HC0_1.out); (case side3 => exact pc_ (Kd.C_below HR0_2.out HB.out)); (case side4 => exact HC0_2.out); rintro e w5 ⟨rfl, hb⟩; refine ⟨_, rfl, ?_⟩; have n0_ := Aside0.mk (bb_ BK422.out hb); have n1_ := Aside0.mk (below_step (pb1_ HB.out GE422.out) hb); clear BK422; clear HB; have BK422 := n0_; have HB := n1_; clear n0_ n1_; (try clear hb); (try clear hb2); (try clear hk); (try clear hi)))
  (try simp only [Act.put, List.setIfInBounds_toArray, List.set_cons_zero, List.set_cons_succ])
  have H := HS_.out
  clear HS_
  by_cases c6 : t423 < 0
  · rw [if_pos c6] at H
    have c6b0 : decide (t423 < 0) = true := decide_eq_true c6
    clear c6
    (first | rw [c6b0] | (simp only [i64_w, i32_w]; rw [c6b0]) | skip)
    obtain rfl := Option.some.inj H
    go_wp2
    go_ret
    exact ⟨er_, pb1_ HB.out GE422.out⟩
  rw [if_neg c6] at H
  have c6b0 : decide (t423 < 0) = false := decide_eq_false c6
  clear c6
  (first | rw [c6b0] | (simp only [i64_w, i32_w]; rw [c6b0]) | skip)
  replace H := Option.bind_eq_some_iff.mp H
  obtain ⟨⟨t424, t425, t428, t431⟩, A70, H⟩ := H
  (try dsimp only at H)
  have A7 := Aside0.mk A70
  clear A70
  replace H := Option.bind_eq_some_iff.mp H
  obtain ⟨t432, A80, H⟩ := H
  (try dsimp only at H)
  have A8 := Aside0.mk A80
  clear A80
  have HS_ := Aside0.mk H
  clear H
  obtain ⟨hcz9_0, hcz9_1, hcz9_2, hcz9_3, hfz9_0, hfz9_1, hfz9_2, hfz9_3⟩ := bc4_ BK422.out
  go_upto_region 6 with (first | ((with_reducible refine gate_callee (f := 52) rfl ?_); refine goesL_ (some 13) rfl rfl Try.func52 (by kernel_rfl) rfl #[.agg #[.int .i64 a0_0, .slice A0_1 l0_1.length c0_1, .slice A0_2 l0_2.length c0_2, .bool a0_3]] rfl mp_ ?_; (with_reducible refine (laws_toBox.calls k a0_0 _ _ l0_1 _ _ l0_2 a0_3 t424 t425 t428 t431 _ ?side1 ?side2 ?side3 ?side4 A7.out).mono ?_); (case side1 => exact pc_ (Kd.C_below HR0_1.out HB.out)); (case side2 => exact HC0_1.out); (case side3 => exact pc_ (Kd.C_below HR0_2.out HB.out)); (case side4 => exact HC0_2.out); rintro e w10 ⟨v426, v429, rfl, ho0, ho1, hb⟩; refine ⟨_, rfl, ?_⟩; have n0_ := Aside0.mk (Kd.R_lower ho0 (below_size (pb1_ HB.out GE422.out))); have n1_ := Aside0.mk (Kd.R_lower ho1 (below_size (pb1_ HB.out GE422.out))); have n2_ := Aside0.mk (bb_ BK422.out hb); have n3_ := Aside0.mk (below_step (pb1_ HB.out GE422.out) hb); clear BK422; clear HB; have HO427 := n0_; have HO430 := n1_; have BK422 := n2_; have HB := n3_; clear n0_ n1_ n2_ n3_; (try clear hb); (try clear hb2); (try clear hk); (try clear hi); (try clear ho0); (try clear ho1); obtain ⟨Ao11, co11, eo11⟩ := Kd.R_slice HO427.out; subst eo11; obtain ⟨Ao12, co12, eo12⟩ := Kd.R_slice HO430.out; subst eo12) | ((with_reducible refine gate_callee (f := 51) rfl ?_); refine goesL_ (some 14) rfl rfl Try.func51 (by kernel_rfl) rfl #[.agg #[.int .i64 t424, .slice Ao11 t425.length co11, .slice Ao12 t428.length co12, .bool t431]] rfl mp_ ?_; (with_reducible refine (spec_RefusesGrease.calls k t424 _ _ t425 _ _ t428 t431 t432 _ ?side1 ?side2 ?side3 ?side4 A8.out).mono ?_); (case side1 => exact pc_ ((Kd.R_reads' HO427.out).2.2)); (case side2 => exact (Kd.R_reads' HO427.out).2.1); (case side3 => exact pc_ ((Kd.R_reads' HO430.out).2.2)); (case side4 => exact (Kd.R_reads' HO430.out).2.1); rintro e w13 ⟨rfl, hb⟩; refine ⟨_, rfl, ?_⟩; have n0_ := Aside0.mk (Kd.R_below (pr_ HO427.out) hb); have n1_ := Aside0.mk (Kd.R_below (pr_ HO430.out) hb); have n2_ := Aside0.mk (bb_ BK422.out hb); have n3_ := Aside0.mk (below_step (pb1_ HB.out GE422.out) hb); clear HO427; clear HO430; clear BK422; clear HB; have HO427 := n0_; have HO430 := n1_; have BK422 := n2_; have HB := n3_; clear n0_ n1_ n2_ n3_; (try clear hb); (try clear hb2); (try clear hk); (try clear hi)))
  (try simp only [Act.put, List.setIfInBounds_toArray, List.set_cons_zero, List.set_cons_succ])
  have H := HS_.out
  clear HS_
  replace H := Option.bind_eq_some_iff.mp H
  obtain ⟨⟨t433, t434, t437, t440⟩, A140, H⟩ := H
  (try dsimp only at H)
  have A14 := Aside0.mk A140
  clear A140
  have HS_ := Aside0.mk H
  clear H
  obtain ⟨hcz15_0, hcz15_1, hcz15_2, hcz15_3, hfz15_0, hfz15_1, hfz15_2, hfz15_3⟩ := bc4_ BK422.out
  go_upto_region 7 with (first | ((with_reducible refine gate_callee (f := 52) rfl ?_); refine goesL_ (some 16) rfl rfl Try.func52 (by kernel_rfl) rfl #[.agg #[.int .i64 a0_0, .slice A0_1 l0_1.length c0_1, .slice A0_2 l0_2.length c0_2, .bool a0_3]] rfl mp_ ?_; (with_reducible refine (laws_toBox.calls k a0_0 _ _ l0_1 _ _ l0_2 a0_3 t433 t434 t437 t440 _ ?side1 ?side2 ?side3 ?side4 A14.out).mono ?_); (case side1 => exact pc_ (Kd.C_below HR0_1.out HB.out)); (case side2 => exact HC0_1.out); (case side3 => exact pc_ (Kd.C_below HR0_2.out HB.out)); (case side4 => exact HC0_2.out); rintro e w16 ⟨v435, v438, rfl, ho0, ho1, hb⟩; refine ⟨_, rfl, ?_⟩; have n0_ := Aside0.mk (Kd.R_mono (Kd.R_told (Kd.R_told (Kd.R_old (pr_ HO427.out) hb) (Kd.R_base ho0)) (Kd.R_base ho1)) (fun _ h_ => h_.1)); have n1_ := Aside0.mk (Kd.R_mono (Kd.R_told (Kd.R_told (Kd.R_old (pr_ HO430.out) hb) (Kd.R_base ho0)) (Kd.R_base ho1)) (fun _ h_ => h_.1)); have n2_ := Aside0.mk (Kd.R_lower (Kd.R_new' (Kd.R_new' ho0 (Kd.R_lt (pr_ HO427.out))) (Kd.R_lt (pr_ HO430.out))) (below_size (pb1_ HB.out GE422.out))); have n3_ := Aside0.mk (Kd.R_lower (Kd.R_new' (Kd.R_new' ho1 (Kd.R_lt (pr_ HO427.out))) (Kd.R_lt (pr_ HO430.out))) (below_size (pb1_ HB.out GE422.out))); have n4_ := Aside0.mk (bb_ BK422.out hb); have n5_ := Aside0.mk (below_step (pb1_ HB.out GE422.out) hb); clear HO427; clear HO430; clear BK422; clear HB; have HO427 := n0_; have HO430 := n1_; have HO436 := n2_; have HO439 := n3_; have BK422 := n4_; have HB := n5_; clear n0_ n1_ n2_ n3_ n4_ n5_; (try clear hb); (try clear hb2); (try clear hk); (try clear hi); (try clear ho0); (try clear ho1)) | ((with_reducible refine gate_dst (N := 5) rfl ?_); refine box_event ?hg (N := 5) ?hd (cs := #[.int .i64 0, .slice none 0 0, .slice none 0 0, .bool false]) (t := 67) ?hr ?_; (case hd => rfl); (case hg => rfl); (case hr => first | (go_simp; done) | (go_simp; rfl)); intro gb441 hg w17 hbox hb; have n0_ := Aside0.mk (Kd.R_below (pr_ HO427.out) hb); have n1_ := Aside0.mk (Kd.R_below (pr_ HO430.out) hb); have n2_ := Aside0.mk (Kd.R_below (pr_ HO436.out) hb); have n3_ := Aside0.mk (Kd.R_below (pr_ HO439.out) hb); have n4_ := Aside0.mk (bb_ BK422.out hb); have n5_ := Aside0.mk (below_step (pb1_ HB.out GE422.out) hb); have n6_ := Aside0.mk (hbox); have n7_ := Aside0.mk ((by rw [hg]; exact (below_size (pb1_ HB.out GE422.out)) : w.heap.size ≤ gb441)); have n8_ := Aside0.mk ((by rw [hg]; exact (below_size (pb1_ HB.out GE422.out)) : w.heap.size ≤ gb441)); have n9_ := Aside0.mk ((by rw [hg]; exact Nat.ne_of_lt (blk_lt (pk_ BK422.out)) : gb422 ≠ gb441)); have n10_ := Aside0.mk ((by rw [hg]; exact Nat.ne_of_gt (blk_lt (pk_ BK422.out)) : gb441 ≠ gb422)); clear HO427; clear HO430; clear HO436; clear HO439; clear BK422; clear HB; have HO427 := n0_; have HO430 := n1_; have HO436 := n2_; have HO439 := n3_; have BK422 := n4_; have HB := n5_; have BK441 := n6_; have GW441 := n7_; have GE441 := n8_; have NB422_441 := n9_; have NB441_422 := n10_; clear n0_ n1_ n2_ n3_ n4_ n5_ n6_ n7_ n8_ n9_ n10_; clear hb hbox hg; have hnb18 := NB441_422.out; have hnc18 := NB422_441.out; have hcz19_0 : w17.cell? ⟨gb441, 0, none⟩ = some (.int .i64 0) := (blk_cell BK441.out 0).trans rfl; have hcz19_1 : w17.cell? ⟨gb441, 1, none⟩ = some (.slice none 0 0) := (blk_cell BK441.out 1).trans rfl; have hcz19_2 : w17.cell? ⟨gb441, 2, none⟩ = some (.slice none 0 0) := (blk_cell BK441.out 2).trans rfl; have hcz19_3 : w17.cell? ⟨gb441, 3, none⟩ = some (.bool false) := (blk_cell BK441.out 3).trans rfl; have hfz19_0 := blk_frozen BK441.out 0; have hfz19_1 := blk_frozen BK441.out 1; have hfz19_2 := blk_frozen BK441.out 2; have hfz19_3 := blk_frozen BK441.out 3; obtain ⟨Ao20, co20, eo20⟩ := Kd.R_slice HO436.out; subst eo20; obtain ⟨Ao21, co21, eo21⟩ := Kd.R_slice HO439.out; subst eo21))
  (try simp only [Act.put, List.setIfInBounds_toArray, List.set_cons_zero, List.set_cons_succ])
  have H := HS_.out
  clear HS_
  replace H := Option.bind_eq_some_iff.mp H
  obtain ⟨t442, A220, H⟩ := H
  (try dsimp only at H)
  have A22 := Aside0.mk A220
  clear A220
  have HS_ := Aside0.mk H
  clear H
  have hnb23 := NB441_422.out
  have hnc23 := NB422_441.out
  obtain ⟨hcz24_0, hcz24_1, hcz24_2, hcz24_3, hfz24_0, hfz24_1, hfz24_2, hfz24_3⟩ := bc4_ BK441.out
  go_upto_if 21 with (first | ((with_reducible refine gate_callee (f := 53) rfl ?_); refine goesL_ (some 18) rfl rfl Try.func53 (by kernel_rfl) rfl #[.agg #[.int .i64 t433, .slice Ao20 t434.length co20, .slice Ao21 t437.length co21, .bool t440]] rfl mp_ ?_; (with_reducible refine (impl_RefusesGrease.calls k t433 _ _ t434 _ _ t437 t440 t442 _ ?side1 ?side2 ?side3 ?side4 A22.out).mono ?_); (case side1 => refine (Kd.R_reads' (e := 3) (base := w.heap.size) (ok := fun k_ => ((some k_ ≠ (.slice Ao21 t437.length co21 : Value).ownBlock ∧ some k_ ≠ (.slice Ao11 t425.length co11 : Value).ownBlock) ∧ some k_ ≠ (.slice Ao12 t428.length co12 : Value).ownBlock)) (n := t434.length) (c := co20) ?_).2.2; exact (pr_ (rf4_ HO436.out BK441.out))); (case side2 => exact (Kd.R_reads' HO436.out).2.1); (case side3 => refine (Kd.R_reads' (e := 3) (base := w.heap.size) (ok := fun k_ => ((some k_ ≠ (.slice Ao20 t434.length co20 : Value).ownBlock ∧ some k_ ≠ (.slice Ao11 t425.length co11 : Value).ownBlock) ∧ some k_ ≠ (.slice Ao12 t428.length co12 : Value).ownBlock)) (n := t437.length) (c := co21) ?_).2.2; exact (pr_ (rf4_ HO439.out BK441.out))); (case side4 => exact (Kd.R_reads' HO439.out).2.1); rintro e w25 ⟨rfl, hb⟩; refine ⟨_, rfl, ?_⟩; have n0_ := Aside0.mk (Kd.R_below (pr_ (rf4_ HO427.out BK441.out)) hb); have n1_ := Aside0.mk (Kd.R_below (pr_ (rf4_ HO430.out BK441.out)) hb); have n2_ := Aside0.mk (Kd.R_below (pr_ (rf4_ HO436.out BK441.out)) hb); have n3_ := Aside0.mk (Kd.R_below (pr_ (rf4_ HO439.out BK441.out)) hb); have n4_ := Aside0.mk (blk_below (g := gb422) (o := .cells #[.int .i64 a0_0, .slice A0_1 l0_1.length c0_1, .slice A0_2 l0_2.length c0_2, .bool a0_3] 64 (0, 0)) (pp_ BK422.out) hb); have n5_ := Aside0.mk (blk_below (g := gb441) (o := .cells #[.int .i64 t433, .slice Ao20 t434.length co20, .slice Ao21 t437.length co21, .bool t440] 67 (0, 0)) (pp_ BK441.out) hb); have n6_ := Aside0.mk (below_step (pb2_ HB.out GE422.out GE441.out) hb); clear HO427; clear HO430; clear HO436; clear HO439; clear BK422; clear BK441; clear HB; have HO427 := n0_; have HO430 := n1_; have HO436 := n2_; have HO439 := n3_; have BK422 := n4_; have BK441 := n5_; have HB := n6_; clear n0_ n1_ n2_ n3_ n4_ n5_ n6_; (try clear hb); (try clear hb2); (try clear hk); (try clear hi)))
  (try simp only [Act.put, List.setIfInBounds_toArray, List.set_cons_zero, List.set_cons_succ])
  have H := HS_.out
  clear HS_
  by_cases c26 : (t442 != t432) = true
  · rw [if_pos c26] at H
    have c26b0 : (t442 != t432) = true := c26
    (try (have c26b1 : decide (t442 = t432) = false := by simpa using c26))
    (try (have c26b2 : (t442 == t432) = false := by simpa using c26))
    (try (have c26b3 : ¬ (t442 = t432) := by simpa using c26))
    clear c26
    (first | rw [c26b0] | (simp only [i64_w, i32_w]; rw [c26b0]) | (have c_ := c26b0; rw [bne] at c_; rw [c_]; clear c_) | rw [c26b1] | rw [c26b2] | skip)
    obtain rfl := Option.some.inj H
    go_wp2
    go_ret
    exact ⟨er_, pb2_ HB.out GE422.out GE441.out⟩
  rw [if_neg c26] at H
  have c26b0 : (t442 != t432) = false := by simpa using c26
  (try (have c26b1 : decide (t442 = t432) = true := by simpa using c26))
  (try (have c26b2 : (t442 == t432) = true := by simpa using c26))
  clear c26
  (first | rw [c26b0] | (simp only [i64_w, i32_w]; rw [c26b0]) | (have c_ := c26b0; rw [bne] at c_; rw [c_]; clear c_) | rw [c26b1] | rw [c26b2] | skip)
  replace H := Option.bind_eq_some_iff.mp H
  obtain ⟨⟨t443, t444, t447, t450⟩, A270, H⟩ := H
  (try dsimp only at H)
  have A27 := Aside0.mk A270
  clear A270
  replace H := Option.bind_eq_some_iff.mp H
  obtain ⟨t451, A280, H⟩ := H
  replace H : (if t451 = true then (some true) else (some false)) = some r := H
  have A28 := Aside0.mk A280
  clear A280
  have HS_ := Aside0.mk H
  clear H
  try go_wp2
  have n0_ := Aside0.mk (Kd.R_drew HO427.out)
  have n1_ := Aside0.mk (Kd.R_drew HO430.out)
  have n2_ := Aside0.mk (Kd.R_drew HO436.out)
  have n3_ := Aside0.mk (Kd.R_drew HO439.out)
  have n4_ := Aside0.mk (blk_drew BK422.out)
  have n5_ := Aside0.mk (blk_drew BK441.out)
  have n6_ := Aside0.mk (below_drew1 HB.out)
  clear HO427
  clear HO430
  clear HO436
  clear HO439
  clear BK422
  clear BK441
  clear HB
  have HO427 := n0_
  have HO430 := n1_
  have HO436 := n2_
  have HO439 := n3_
  have BK422 := n4_
  have BK441 := n5_
  have HB := n6_
  clear n0_ n1_ n2_ n3_ n4_ n5_ n6_
  refine start_ (n := 5) (S := fun w' => w'.cell? ⟨gb441, 0, none⟩ = some (.int .i64 t433) ∧ w'.cell? ⟨gb441, 1, none⟩ = some (.slice Ao20 t434.length co20) ∧ w'.cell? ⟨gb441, 2, none⟩ = some (.slice Ao21 t437.length co21) ∧ w'.cell? ⟨gb441, 3, none⟩ = some (.bool t440) ∧ w'.cell? ⟨gb422, 0, none⟩ = some (.int .i64 a0_0) ∧ w'.cell? ⟨gb422, 1, none⟩ = some (.slice A0_1 l0_1.length c0_1) ∧ w'.cell? ⟨gb422, 2, none⟩ = some (.slice A0_2 l0_2.length c0_2) ∧ w'.cell? ⟨gb422, 3, none⟩ = some (.bool a0_3)) (ds := []) #[false, false, false, false, false] (by kernel_rfl) rfl rfl ⟨(blk_cell BK441.out 0).trans rfl, (blk_cell BK441.out 1).trans rfl, (blk_cell BK441.out 2).trans rfl, (blk_cell BK441.out 3).trans rfl, (blk_cell BK422.out 0).trans rfl, (blk_cell BK422.out 1).trans rfl, (blk_cell BK422.out 2).trans rfl, (blk_cell BK422.out 3).trans rfl⟩ (fun hHeld => ?_)
  generalize w25.drew = w29 at HO427 HO430 HO436 HO439 BK422 BK441 HB hHeld ⊢
  refine take_ (i := 0) (N := some 22) (v := ?_) (a' := ?_) #[true, false, false, false, false] rfl rfl (by kernel_rfl) (fun _ _ _ h => h) (Or.inl ⟨by rfl, ?_⟩) hHeld ?_ ?_
  rotate_left
  · rintro w' ⟨s0, s1, s2, s3, s4, s5, s6, s7⟩
    go_simp
    (try (simp only [Instr.field]; simp only [underlying, hu64, hu67]; go_simp; simp only [asAgg]; go_simp))
    with_reducible rfl
  rotate_left
  · simp only [Act.put, List.setIfInBounds_toArray, List.set_cons_zero, List.set_cons_succ, i64_w, i32_w]
    rfl
  refine take_ (i := 1) (N := some 23) (v := ?_) (a' := ?_) #[true, true, false, false, false] rfl rfl (by kernel_rfl) (fun _ _ _ h => h) (Or.inl ⟨by rfl, ?_⟩) hHeld ?_ ?_
  rotate_left
  · rintro w' ⟨s0, s1, s2, s3, s4, s5, s6, s7⟩
    go_simp
    (try (simp only [Instr.field]; simp only [underlying, hu64, hu67]; go_simp; simp only [asAgg]; go_simp))
    with_reducible rfl
  rotate_left
  · simp only [Act.put, List.setIfInBounds_toArray, List.set_cons_zero, List.set_cons_succ, i64_w, i32_w]
    rfl
  refine one_ (i := 2) (N := some 24) #[true, true, true, false, false] rfl rfl (by kernel_rfl) (by decide) (fun K hK => ?_)
  refine goes_ Try.func52 (by kernel_rfl) rfl #[.agg #[.int .i64 a0_0, .slice A0_1 l0_1.length c0_1, .slice A0_2 l0_2.length c0_2, .bool a0_3]] (by rfl) rfl rfl mp_ ?_
  with_reducible refine (laws_toBox.calls k a0_0 _ _ l0_1 _ _ l0_2 a0_3 t443 t444 t447 t450 _ ?side1 ?side2 ?side3 ?side4 A27.out).mono ?_
  (case side1 => exact pc_ (Kd.C_below HR0_1.out HB.out))
  (case side2 => exact HC0_1.out)
  (case side3 => exact pc_ (Kd.C_below HR0_2.out HB.out))
  (case side4 => exact HC0_2.out)
  rintro e w30 ⟨v445, v448, rfl, ho0, ho1, hb⟩
  refine ⟨_, rfl, ?_⟩
  have n0_ := Aside0.mk (Kd.R_mono (Kd.R_told (Kd.R_told (Kd.R_old (pr_ HO427.out) hb) (Kd.R_base ho0)) (Kd.R_base ho1)) (fun _ h_ => h_.1))
  have n1_ := Aside0.mk (Kd.R_mono (Kd.R_told (Kd.R_told (Kd.R_old (pr_ HO430.out) hb) (Kd.R_base ho0)) (Kd.R_base ho1)) (fun _ h_ => h_.1))
  have n2_ := Aside0.mk (Kd.R_mono (Kd.R_told (Kd.R_told (Kd.R_old (pr_ HO436.out) hb) (Kd.R_base ho0)) (Kd.R_base ho1)) (fun _ h_ => h_.1))
  have n3_ := Aside0.mk (Kd.R_mono (Kd.R_told (Kd.R_told (Kd.R_old (pr_ HO439.out) hb) (Kd.R_base ho0)) (Kd.R_base ho1)) (fun _ h_ => h_.1))
  have n4_ := Aside0.mk (Kd.R_lower (Kd.R_new' (Kd.R_new' (Kd.R_new' (Kd.R_new' ho0 (Kd.R_lt (pr_ HO427.out))) (Kd.R_lt (pr_ HO430.out))) (Kd.R_lt (pr_ HO436.out))) (Kd.R_lt (pr_ HO439.out))) (below_size (pb2_ HB.out GE422.out GE441.out)))
  have n5_ := Aside0.mk (Kd.R_lower (Kd.R_new' (Kd.R_new' (Kd.R_new' (Kd.R_new' ho1 (Kd.R_lt (pr_ HO427.out))) (Kd.R_lt (pr_ HO430.out))) (Kd.R_lt (pr_ HO436.out))) (Kd.R_lt (pr_ HO439.out))) (below_size (pb2_ HB.out GE422.out GE441.out)))
  have n6_ := Aside0.mk (bb_ BK422.out hb)
  have n7_ := Aside0.mk (bb_ BK441.out hb)
  have n8_ := Aside0.mk (below_step (pb2_ HB.out GE422.out GE441.out) hb)
  clear HO427
  clear HO430
  clear HO436
  clear HO439
  clear BK422
  clear BK441
  clear HB
  have HO427 := n0_
  have HO430 := n1_
  have HO436 := n2_
  have HO439 := n3_
  have HO446 := n4_
  have HO449 := n5_
  have BK422 := n6_
  have BK441 := n7_
  have HB := n8_
  clear n0_ n1_ n2_ n3_ n4_ n5_ n6_ n7_ n8_
  (try clear hb)
  (try clear hb2)
  (try clear hk)
  (try clear hi)
  (try clear ho0)
  (try clear ho1)
  obtain ⟨Ao31, co31, eo31⟩ := Kd.R_slice HO446.out
  (first | subst eo31 | (injection eo31 with f1_ f2_ f3_; have f4_ := f1_.symm; have f5_ := f3_.symm; clear f1_ f2_ f3_; subst f4_; subst f5_))
  obtain ⟨Ao32, co32, eo32⟩ := Kd.R_slice HO449.out
  (first | subst eo32 | (injection eo32 with f1_ f2_ f3_; have f4_ := f1_.symm; have f5_ := f3_.symm; clear f1_ f2_ f3_; subst f4_; subst f5_))
  refine hK.out _ _ ⟨(blk_cell BK441.out 0).trans rfl, (blk_cell BK441.out 1).trans rfl, (blk_cell BK441.out 2).trans rfl, (blk_cell BK441.out 3).trans rfl, (blk_cell BK422.out 0).trans rfl, (blk_cell BK422.out 1).trans rfl, (blk_cell BK422.out 2).trans rfl, (blk_cell BK422.out 3).trans rfl⟩ (fun hHeld => ?_)
  clear hK K
  refine norm_ (a' := ?_) ?_ ?_
  rotate_left
  · show Act.put _ (some 24) _ = _
    simp only [Act.put, List.setIfInBounds_toArray, List.set_cons_zero, List.set_cons_succ, i64_w, i32_w]
    rfl
  refine one_ (i := 3) (N := some 25) #[true, true, true, true, false] rfl rfl (by kernel_rfl) (by decide) (fun K hK => ?_)
  refine goes_ Try.func54 (by kernel_rfl) rfl #[.agg #[.int .i64 t433, .slice Ao20 t434.length co20, .slice Ao21 t437.length co21, .bool t440], .agg #[.int .i64 t443, .slice Ao31 t444.length co31, .slice Ao32 t447.length co32, .bool t450]] (by rfl) rfl rfl mp_ ?_
  with_reducible refine (laws_eqBox.calls k t433 _ _ t434 _ _ t437 t440 t443 _ _ t444 _ _ t447 t450 t451 _ ?side1 ?side2 ?side3 ?side4 ?side5 ?side6 ?side7 ?side8 A28.out).mono ?_
  (case side1 => exact pc_ ((Kd.R_reads' HO436.out).2.2))
  (case side2 => exact (Kd.R_reads' HO436.out).2.1)
  (case side3 => exact pc_ ((Kd.R_reads' HO439.out).2.2))
  (case side4 => exact (Kd.R_reads' HO439.out).2.1)
  (case side5 => exact pc_ ((Kd.R_reads' HO446.out).2.2))
  (case side6 => exact (Kd.R_reads' HO446.out).2.1)
  (case side7 => exact pc_ ((Kd.R_reads' HO449.out).2.2))
  (case side8 => exact (Kd.R_reads' HO449.out).2.1)
  rintro e w33 ⟨rfl, hb⟩
  refine ⟨_, rfl, ?_⟩
  have n0_ := Aside0.mk (Kd.R_below (pr_ HO427.out) hb)
  have n1_ := Aside0.mk (Kd.R_below (pr_ HO430.out) hb)
  have n2_ := Aside0.mk (Kd.R_below (pr_ HO436.out) hb)
  have n3_ := Aside0.mk (Kd.R_below (pr_ HO439.out) hb)
  have n4_ := Aside0.mk (Kd.R_below (pr_ HO446.out) hb)
  have n5_ := Aside0.mk (Kd.R_below (pr_ HO449.out) hb)
  have n6_ := Aside0.mk (bb_ BK422.out hb)
  have n7_ := Aside0.mk (bb_ BK441.out hb)
  have n8_ := Aside0.mk (below_step (pb2_ HB.out GE422.out GE441.out) hb)
  clear HO427
  clear HO430
  clear HO436
  clear HO439
  clear HO446
  clear HO449
  clear BK422
  clear BK441
  clear HB
  have HO427 := n0_
  have HO430 := n1_
  have HO436 := n2_
  have HO439 := n3_
  have HO446 := n4_
  have HO449 := n5_
  have BK422 := n6_
  have BK441 := n7_
  have HB := n8_
  clear n0_ n1_ n2_ n3_ n4_ n5_ n6_ n7_ n8_
  (try clear hb)
  (try clear hb2)
  (try clear hk)
  (try clear hi)
  refine hK.out _ _ ⟨(blk_cell BK441.out 0).trans rfl, (blk_cell BK441.out 1).trans rfl, (blk_cell BK441.out 2).trans rfl, (blk_cell BK441.out 3).trans rfl, (blk_cell BK422.out 0).trans rfl, (blk_cell BK422.out 1).trans rfl, (blk_cell BK422.out 2).trans rfl, (blk_cell BK422.out 3).trans rfl⟩ (fun hHeld => ?_)
  clear hK K
  refine norm_ (a' := ?_) ?_ ?_
  rotate_left
  · show Act.put _ (some 25) _ = _
    simp only [Act.put, List.setIfInBounds_toArray, List.set_cons_zero, List.set_cons_succ, i64_w, i32_w]
    rfl
  refine pure_ (i := 4) (N := some 26) (v := ?_) (a' := ?_) #[true, true, true, true, true] rfl rfl (by kernel_rfl) (fun _ _ _ h => h) (Or.inl ⟨by rfl, ?_⟩) ?_ ?_
  rotate_left
  · intro w'
    go_simp
    (try (simp only [Instr.field]; simp only [underlying, hu64, hu67]; go_simp; simp only [asAgg]; go_simp))
    with_reducible rfl
  rotate_left
  · simp only [Act.put, List.setIfInBounds_toArray, List.set_cons_zero, List.set_cons_succ, i64_w, i32_w]
    rfl
  refine done_ (by kernel_rfl) ?_
  go_upto_if 26 with (fail)
  have H := HS_.out
  clear HS_
  by_cases c34 : t451 = true
  rotate_left
  · replace c34 := Bool.eq_false_iff.mpr c34
    subst c34
    rw [if_neg (show ¬ (false = true) by decide)] at H
    obtain rfl := Option.some.inj H
    go_wp2
    go_ret
    exact ⟨er_, pb2_ HB.out GE422.out GE441.out⟩
  subst c34
  rw [if_pos rfl] at H
  obtain rfl := Option.some.inj H
  go_wp2
  go_ret
  exact ⟨er_, pb2_ HB.out GE422.out GE441.out⟩

/-- THE ONE PURE STATEMENT of laws_FnExactRefusesGrease: yours. -/
def laws_FnExactRefusesGrease.Pure : Prop := ∀ (x0 : S64), Q64 x0 → ∃ k, laws_FnExactRefusesGrease.f k x0.f0 x0.f1 x0.f2 x0.f3 = some true

end Go.Proofs.Ytdoefkloanpliaa.Print
