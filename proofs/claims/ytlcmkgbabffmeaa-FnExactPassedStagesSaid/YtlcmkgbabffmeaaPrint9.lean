-- Written by a program of this session (printx.py) out of the translation; Lean checks it.
import Derived.Test.YtlcmkgbabffmeaaPrint0
import Derived.Test.YtlcmkgbabffmeaaPrint1
import Derived.Test.YtlcmkgbabffmeaaPrint2
import Derived.Test.YtlcmkgbabffmeaaPrint3
namespace Go.Proofs.Ytlcmkgbabffmeaa.Print
open Go.RowKit Go.Proofs.YtlcmkgbabffmeaaW.PrintWords Go.Proofs.YtlcmkgbabffmeaaW.PrintLast Go.Proofs.YtlcmkgbabffmeaaW.PrintMore Go.Proofs.Ytlcmkgbabffmeaa.Short
attribute [local go_sem] max2_int min2_int max_two min_two max_three min_three max_four min_four   -- for this text's walks alone
set_option linter.unusedVariables false
set_option linter.unusedSimpArgs false

/-! ### laws_FnExactPassedStages: function 12 -/
def laws_FnExactPassedStages.f (k : Nat) (a0_0 : Int) (l0_1 : List Int) (a0_2 : Int) (a0_3 : Bool) (l1 : List Int) : Option (Bool) := if (l1.length : Int) > 1048576 then (some true) else ((laws_szRollout.f a0_0 l0_1 a0_2 a0_3 1048576).bind fun t252 => (if t252 < 0 then (some true) else ((laws_toRollout.f k a0_0 l0_1 a0_2 a0_3).bind fun bt253 => ((laws_toIntS.f k l1).bind fun t259 => ((spec_PassedStages.f k bt253.1 bt253.2.1 bt253.2.2.1 bt253.2.2.2 t259).bind fun t262 => ((laws_toRollout.f k a0_0 l0_1 a0_2 a0_3).bind fun bt263 => ((laws_toIntS.f k l1).bind fun t270 => ((impl_PassedStages.f k bt263.1 bt263.2.1 bt263.2.2.1 bt263.2.2.2 t270).bind fun t273 => (if t273 = t262 then ((laws_toRollout.f k a0_0 l0_1 a0_2 a0_3).bind fun bt274 => ((laws_eqRollout.f k bt263.1 bt263.2.1 bt263.2.2.1 bt263.2.2.2 bt274.1 bt274.2.1 bt274.2.2.1 bt274.2.2.2).bind fun t280 => (if t280 = true then ((laws_toIntS.f k l1).bind fun t281 => ((laws_eqIntS.f k t270 t281).bind fun t284 => (if t284 = true then (some true) else (some false)))) else (some false)))) else (some false))))))))))
theorem laws_FnExactPassedStages.mono : ∀ a0 a1 a2 a3 a4 k, LeO (laws_FnExactPassedStages.f k a0 a1 a2 a3 a4) (laws_FnExactPassedStages.f (k + 1) a0 a1 a2 a3 a4) := by
  intro a0 a1 a2 a3 a4 k
  unfold laws_FnExactPassedStages.f
  repeat' first
      | (with_reducible exact impl_PassedStages.mono _ _ _ _ _ _)
      | (with_reducible exact laws_eqIntS.mono _ _ _)
      | (with_reducible exact laws_eqRollout.mono _ _ _ _ _ _ _ _ _)
      | (with_reducible exact laws_toIntS.mono _ _)
      | (with_reducible exact laws_toRollout.mono _ _ _ _ _)
      | (with_reducible exact spec_PassedStages.mono _ _ _ _ _ _)
      | (with_reducible exact LeO.refl _)
      | (with_reducible exact LeO.none _)
      | (with_reducible refine LeO.ite ?_ ?_)
      | (with_reducible refine LeO.bind ?_ (fun _ => ?_))
      | exact impl_PassedStages.mono _ _ _ _ _ _
      | exact laws_eqIntS.mono _ _ _
      | exact laws_eqRollout.mono _ _ _ _ _ _ _ _ _
      | exact laws_toIntS.mono _ _
      | exact laws_toRollout.mono _ _ _ _ _
      | exact spec_PassedStages.mono _ _ _ _ _ _
      | exact LeO.none _
      | refine LeO.ite ?_ ?_
      | refine LeO.bind ?_ (fun _ => ?_)
set_option maxHeartbeats 8000000 in
set_option maxRecDepth 100000 in
theorem laws_FnExactPassedStages.calls (k : Nat) (a0_0 : Int) (A0_1 : Option Addr) (c0_1 : Nat) (l0_1 : List Int) (a0_2 : Int) (a0_3 : Bool) (A1 : Option Addr) (c1 : Nat) (l1 : List Int) (r : Bool) (w : World) (hr0_1 : Kd.C (Kd.int .i64) w A0_1 l0_1.length l0_1) (hc0_1 : l0_1.length ≤ c0_1) (hr1 : Kd.C (Kd.int .i64) w A1 l1.length l1) (hc1 : l1.length ≤ c1) (h : laws_FnExactPassedStages.f k a0_0 l0_1 a0_2 a0_3 l1 = some r) :
    Calls Try.prog 12 #[.agg #[.int .i64 a0_0, .slice A0_1 l0_1.length c0_1, .int .i64 a0_2, .bool a0_3], .slice A1 l1.length c1] w fun e w' => e = .returned (.bool r) ∧ Below w.heap.size w w' := by
  have hu24 := Try.underlying24
  have hu27 := Try.underlying27
  have HR0_1 := Aside0.mk hr0_1
  have HC0_1 := Aside0.mk hc0_1
  clear hr0_1 hc0_1
  have HR1 := Aside0.mk hr1
  have HC1 := Aside0.mk hc1
  clear hr1 hc1
  have HB := Aside0.mk (Below.refl w.heap.size w)
  have H : (if (l1.length : Int) > 1048576 then (some true) else ((laws_szRollout.f a0_0 l0_1 a0_2 a0_3 1048576).bind fun t252 => (if t252 < 0 then (some true) else ((laws_toRollout.f k a0_0 l0_1 a0_2 a0_3).bind fun bt253 => ((laws_toIntS.f k l1).bind fun t259 => ((spec_PassedStages.f k bt253.1 bt253.2.1 bt253.2.2.1 bt253.2.2.2 t259).bind fun t262 => ((laws_toRollout.f k a0_0 l0_1 a0_2 a0_3).bind fun bt263 => ((laws_toIntS.f k l1).bind fun t270 => ((impl_PassedStages.f k bt263.1 bt263.2.1 bt263.2.2.1 bt263.2.2.2 t270).bind fun t273 => (if t273 = t262 then ((laws_toRollout.f k a0_0 l0_1 a0_2 a0_3).bind fun bt274 => ((laws_eqRollout.f k bt263.1 bt263.2.1 bt263.2.2.1 bt263.2.2.2 bt274.1 bt274.2.1 bt274.2.2.1 bt274.2.2.2).bind fun t280 => (if t280 = true then ((laws_toIntS.f k l1).bind fun t281 => ((laws_eqIntS.f k t270 t281).bind fun t284 => (if t284 = true then (some true) else (some false)))) else (some false)))) else (some false))))))))))) = some r := h
  clear h
  have HS_ := Aside0.mk H
  clear H
  go_enter Try.func12, Try.ntmps12
  go_upto_if 12 with (first | ((with_reducible refine gate_dst (N := 2) rfl ?_); refine box_event ?hg (N := 2) ?hd (cs := #[.int .i64 a0_0, .slice A0_1 l0_1.length c0_1, .int .i64 a0_2, .bool a0_3]) (t := 24) ?hr ?_; (case hd => rfl); (case hg => rfl); (case hr => first | (go_simp; done) | (go_simp; rfl)); intro gb251 hg w3 hbox hb; have n0_ := Aside0.mk (below_step (pb_ HB.out) hb); have n1_ := Aside0.mk (hbox); have n2_ := Aside0.mk ((by rw [hg]; exact (below_size (pb_ HB.out)) : w.heap.size ≤ gb251)); have n3_ := Aside0.mk ((by rw [hg]; exact (below_size (pb_ HB.out)) : w.heap.size ≤ gb251)); clear HB; have HB := n0_; have BK251 := n1_; have GW251 := n2_; have GE251 := n3_; clear n0_ n1_ n2_ n3_; clear hb hbox hg))
  (try simp only [Act.put, List.setIfInBounds_toArray, List.set_cons_zero, List.set_cons_succ])
  have H := HS_.out
  clear HS_
  by_cases c4 : (l1.length : Int) > 1048576
  · rw [if_pos c4] at H
    have c4b0 : decide (1048576 < (l1.length : Int)) = true := decide_eq_true c4
    have c4b1 : decide (1048576 < l1.length) = true := decide_eq_true (by omega)
    clear c4
    (first | rw [c4b0] | (simp only [i64_w, i32_w]; rw [c4b0]) | rw [c4b1] | skip)
    obtain rfl := Option.some.inj H
    go_wp2
    go_ret
    exact ⟨er_, pb1_ HB.out GE251.out⟩
  rw [if_neg c4] at H
  have c4b0 : decide (1048576 < (l1.length : Int)) = false := decide_eq_false c4
  have c4b1 : decide (1048576 < l1.length) = false := decide_eq_false (by omega)
  clear c4
  (first | rw [c4b0] | (simp only [i64_w, i32_w]; rw [c4b0]) | rw [c4b1] | skip)
  replace H := Option.bind_eq_some_iff.mp H
  obtain ⟨t252, A50, H⟩ := H
  (try dsimp only at H)
  have A5 := Aside0.mk A50
  clear A50
  have HS_ := Aside0.mk H
  clear H
  obtain ⟨hcz6_0, hcz6_1, hcz6_2, hcz6_3, hfz6_0, hfz6_1, hfz6_2, hfz6_3⟩ := bc4_ BK251.out
  go_upto_if 17 with (first | ((with_reducible refine gate_callee (f := 15) rfl ?_); refine goesL_ (some 15) rfl rfl Try.func15 (by kernel_rfl) rfl #[.agg #[.int .i64 a0_0, .slice A0_1 l0_1.length c0_1, .int .i64 a0_2, .bool a0_3], .int .i64 1048576] rfl mp_ ?_; (with_reducible refine (laws_szRollout.calls a0_0 _ _ l0_1 a0_2 a0_3 1048576 t252 _ ?side1 ?side2 A5.out).mono ?_); (case side1 => exact pc_ (Kd.C_below HR0_1.out HB.out)); (case side2 => exact HC0_1.out); rintro e w7 ⟨rfl, hb⟩; refine ⟨_, rfl, ?_⟩; have n0_ := Aside0.mk (bb_ BK251.out hb); have n1_ := Aside0.mk (below_step (pb1_ HB.out GE251.out) hb); clear BK251; clear HB; have BK251 := n0_; have HB := n1_; clear n0_ n1_; (try clear hb); (try clear hb2); (try clear hk); (try clear hi)))
  (try simp only [Act.put, List.setIfInBounds_toArray, List.set_cons_zero, List.set_cons_succ])
  have H := HS_.out
  clear HS_
  by_cases c8 : t252 < 0
  · rw [if_pos c8] at H
    have c8b0 : decide (t252 < 0) = true := decide_eq_true c8
    clear c8
    (first | rw [c8b0] | (simp only [i64_w, i32_w]; rw [c8b0]) | skip)
    obtain rfl := Option.some.inj H
    go_wp2
    go_ret
    exact ⟨er_, pb1_ HB.out GE251.out⟩
  rw [if_neg c8] at H
  have c8b0 : decide (t252 < 0) = false := decide_eq_false c8
  clear c8
  (first | rw [c8b0] | (simp only [i64_w, i32_w]; rw [c8b0]) | skip)
  replace H := Option.bind_eq_some_iff.mp H
  obtain ⟨⟨t253, t254, t257, t258⟩, A90, H⟩ := H
  (try dsimp only at H)
  have A9 := Aside0.mk A90
  clear A90
  replace H := Option.bind_eq_some_iff.mp H
  obtain ⟨t259, A100, H⟩ := H
  (try dsimp only at H)
  have A10 := Aside0.mk A100
  clear A100
  replace H := Option.bind_eq_some_iff.mp H
  obtain ⟨t262, A110, H⟩ := H
  (try dsimp only at H)
  have A11 := Aside0.mk A110
  clear A110
  have HS_ := Aside0.mk H
  clear H
  obtain ⟨hcz12_0, hcz12_1, hcz12_2, hcz12_3, hfz12_0, hfz12_1, hfz12_2, hfz12_3⟩ := bc4_ BK251.out
  go_upto_region 8 with (first | ((with_reducible refine gate_callee (f := 17) rfl ?_); refine goesL_ (some 19) rfl rfl Try.func17 (by kernel_rfl) rfl #[.agg #[.int .i64 a0_0, .slice A0_1 l0_1.length c0_1, .int .i64 a0_2, .bool a0_3]] rfl mp_ ?_; (with_reducible refine (laws_toRollout.calls k a0_0 _ _ l0_1 a0_2 a0_3 t253 t254 t257 t258 _ ?side1 ?side2 A9.out).mono ?_); (case side1 => exact pc_ (Kd.C_below HR0_1.out HB.out)); (case side2 => exact HC0_1.out); rintro e w13 ⟨v255, rfl, ho0, hb⟩; refine ⟨_, rfl, ?_⟩; have n0_ := Aside0.mk (Kd.R_lower ho0 (below_size (pb1_ HB.out GE251.out))); have n1_ := Aside0.mk (bb_ BK251.out hb); have n2_ := Aside0.mk (below_step (pb1_ HB.out GE251.out) hb); clear BK251; clear HB; have HO256 := n0_; have BK251 := n1_; have HB := n2_; clear n0_ n1_ n2_; (try clear hb); (try clear hb2); (try clear hk); (try clear hi); (try clear ho0)) | ((with_reducible refine gate_callee (f := 41) rfl ?_); refine goesL_ (some 21) rfl rfl Try.func41 (by kernel_rfl) rfl #[.slice A1 l1.length c1] rfl mp_ ?_; (with_reducible refine (laws_toIntS.calls k _ _ l1 t259 _ ?side1 ?side2 A10.out).mono ?_); (case side1 => exact pc_ (Kd.C_below HR1.out HB.out)); (case side2 => exact HC1.out); rintro e w14 ⟨v260, rfl, ho0, hb⟩; refine ⟨_, rfl, ?_⟩; have n0_ := Aside0.mk (Kd.R_elder' (pr_ HO256.out) (Kd.R_base ho0) hb); have n1_ := Aside0.mk (Kd.R_lower (Kd.R_new' ho0 (Kd.R_lt (pr_ HO256.out))) (below_size (pb1_ HB.out GE251.out))); have n2_ := Aside0.mk (bb_ BK251.out hb); have n3_ := Aside0.mk (below_step (pb1_ HB.out GE251.out) hb); clear HO256; clear BK251; clear HB; have HO256 := n0_; have HO261 := n1_; have BK251 := n2_; have HB := n3_; clear n0_ n1_ n2_ n3_; (try clear hb); (try clear hb2); (try clear hk); (try clear hi); (try clear ho0); obtain ⟨Ao15, co15, eo15⟩ := Kd.R_slice HO256.out; subst eo15; obtain ⟨Ao16, co16, eo16⟩ := Kd.R_slice HO261.out; subst eo16) | ((with_reducible refine gate_callee (f := 40) rfl ?_); refine goesL_ (some 22) rfl rfl Try.func40 (by kernel_rfl) rfl #[.agg #[.int .i64 t253, .slice Ao15 t254.length co15, .int .i64 t257, .bool t258], .slice Ao16 t259.length co16] rfl mp_ ?_; (with_reducible refine (spec_PassedStages.calls k t253 _ _ t254 t257 t258 _ _ t259 t262 _ ?side1 ?side2 ?side3 ?side4 A11.out).mono ?_); (case side1 => exact pc_ ((Kd.R_reads' HO256.out).2.2)); (case side2 => exact (Kd.R_reads' HO256.out).2.1); (case side3 => exact pc_ ((Kd.R_reads' HO261.out).2.2)); (case side4 => exact (Kd.R_reads' HO261.out).2.1); rintro e w17 ⟨rfl, hb⟩; refine ⟨_, rfl, ?_⟩; have n0_ := Aside0.mk (Kd.R_below (pr_ HO256.out) hb); have n1_ := Aside0.mk (Kd.R_below (pr_ HO261.out) hb); have n2_ := Aside0.mk (bb_ BK251.out hb); have n3_ := Aside0.mk (below_step (pb1_ HB.out GE251.out) hb); clear HO256; clear HO261; clear BK251; clear HB; have HO256 := n0_; have HO261 := n1_; have BK251 := n2_; have HB := n3_; clear n0_ n1_ n2_ n3_; (try clear hb); (try clear hb2); (try clear hk); (try clear hi)))
  (try simp only [Act.put, List.setIfInBounds_toArray, List.set_cons_zero, List.set_cons_succ])
  have H := HS_.out
  clear HS_
  replace H := Option.bind_eq_some_iff.mp H
  obtain ⟨⟨t263, t264, t267, t268⟩, A180, H⟩ := H
  (try dsimp only at H)
  have A18 := Aside0.mk A180
  clear A180
  have HS_ := Aside0.mk H
  clear H
  obtain ⟨hcz19_0, hcz19_1, hcz19_2, hcz19_3, hfz19_0, hfz19_1, hfz19_2, hfz19_3⟩ := bc4_ BK251.out
  go_upto_region 9 with (first | ((with_reducible refine gate_callee (f := 17) rfl ?_); refine goesL_ (some 24) rfl rfl Try.func17 (by kernel_rfl) rfl #[.agg #[.int .i64 a0_0, .slice A0_1 l0_1.length c0_1, .int .i64 a0_2, .bool a0_3]] rfl mp_ ?_; (with_reducible refine (laws_toRollout.calls k a0_0 _ _ l0_1 a0_2 a0_3 t263 t264 t267 t268 _ ?side1 ?side2 A18.out).mono ?_); (case side1 => exact pc_ (Kd.C_below HR0_1.out HB.out)); (case side2 => exact HC0_1.out); rintro e w20 ⟨v265, rfl, ho0, hb⟩; refine ⟨_, rfl, ?_⟩; have n0_ := Aside0.mk (Kd.R_elder' (pr_ HO256.out) (Kd.R_base ho0) hb); have n1_ := Aside0.mk (Kd.R_elder' (pr_ HO261.out) (Kd.R_base ho0) hb); have n2_ := Aside0.mk (Kd.R_lower (Kd.R_new' (Kd.R_new' ho0 (Kd.R_lt (pr_ HO256.out))) (Kd.R_lt (pr_ HO261.out))) (below_size (pb1_ HB.out GE251.out))); have n3_ := Aside0.mk (bb_ BK251.out hb); have n4_ := Aside0.mk (below_step (pb1_ HB.out GE251.out) hb); clear HO256; clear HO261; clear BK251; clear HB; have HO256 := n0_; have HO261 := n1_; have HO266 := n2_; have BK251 := n3_; have HB := n4_; clear n0_ n1_ n2_ n3_ n4_; (try clear hb); (try clear hb2); (try clear hk); (try clear hi); (try clear ho0)) | ((with_reducible refine gate_dst (N := 7) rfl ?_); refine box_event ?hg (N := 7) ?hd (cs := #[.int .i64 0, .slice none 0 0, .int .i64 0, .bool false]) (t := 27) ?hr ?_; (case hd => rfl); (case hg => rfl); (case hr => first | (go_simp; done) | (go_simp; rfl)); intro gb269 hg w21 hbox hb; have n0_ := Aside0.mk (Kd.R_below (pr_ HO256.out) hb); have n1_ := Aside0.mk (Kd.R_below (pr_ HO261.out) hb); have n2_ := Aside0.mk (Kd.R_below (pr_ HO266.out) hb); have n3_ := Aside0.mk (bb_ BK251.out hb); have n4_ := Aside0.mk (below_step (pb1_ HB.out GE251.out) hb); have n5_ := Aside0.mk (hbox); have n6_ := Aside0.mk ((by rw [hg]; exact (below_size (pb1_ HB.out GE251.out)) : w.heap.size ≤ gb269)); have n7_ := Aside0.mk ((by rw [hg]; exact (below_size (pb1_ HB.out GE251.out)) : w.heap.size ≤ gb269)); have n8_ := Aside0.mk ((by rw [hg]; exact Nat.ne_of_lt (blk_lt (pk_ BK251.out)) : gb251 ≠ gb269)); have n9_ := Aside0.mk ((by rw [hg]; exact Nat.ne_of_gt (blk_lt (pk_ BK251.out)) : gb269 ≠ gb251)); clear HO256; clear HO261; clear HO266; clear BK251; clear HB; have HO256 := n0_; have HO261 := n1_; have HO266 := n2_; have BK251 := n3_; have HB := n4_; have BK269 := n5_; have GW269 := n6_; have GE269 := n7_; have NB251_269 := n8_; have NB269_251 := n9_; clear n0_ n1_ n2_ n3_ n4_ n5_ n6_ n7_ n8_ n9_; clear hb hbox hg; have hnb22 := NB269_251.out; have hnc22 := NB251_269.out; have hcz23_0 : w21.cell? ⟨gb269, 0, none⟩ = some (.int .i64 0) := (blk_cell BK269.out 0).trans rfl; have hcz23_1 : w21.cell? ⟨gb269, 1, none⟩ = some (.slice none 0 0) := (blk_cell BK269.out 1).trans rfl; have hcz23_2 : w21.cell? ⟨gb269, 2, none⟩ = some (.int .i64 0) := (blk_cell BK269.out 2).trans rfl; have hcz23_3 : w21.cell? ⟨gb269, 3, none⟩ = some (.bool false) := (blk_cell BK269.out 3).trans rfl; have hfz23_0 := blk_frozen BK269.out 0; have hfz23_1 := blk_frozen BK269.out 1; have hfz23_2 := blk_frozen BK269.out 2; have hfz23_3 := blk_frozen BK269.out 3; obtain ⟨Ao24, co24, eo24⟩ := Kd.R_slice HO266.out; subst eo24))
  (try simp only [Act.put, List.setIfInBounds_toArray, List.set_cons_zero, List.set_cons_succ])
  have H := HS_.out
  clear HS_
  replace H := Option.bind_eq_some_iff.mp H
  obtain ⟨t270, A250, H⟩ := H
  (try dsimp only at H)
  have A25 := Aside0.mk A250
  clear A250
  have HS_ := Aside0.mk H
  clear H
  go_upto_region 10 with (first | ((with_reducible refine gate_callee (f := 41) rfl ?_); refine goesL_ (some 26) rfl rfl Try.func41 (by kernel_rfl) rfl #[.slice A1 l1.length c1] rfl mp_ ?_; (with_reducible refine (laws_toIntS.calls k _ _ l1 t270 _ ?side1 ?side2 A25.out).mono ?_); (case side1 => exact Kd.C_below HR1.out (pb2_ HB.out GE251.out GE269.out)); (case side2 => exact HC1.out); rintro e w26 ⟨v271, rfl, ho0, hb⟩; refine ⟨_, rfl, ?_⟩; have n0_ := Aside0.mk (Kd.R_elder' (pr_ (rf4_ HO256.out BK269.out)) (Kd.R_base ho0) hb); have n1_ := Aside0.mk (Kd.R_elder' (pr_ (rf4_ HO261.out BK269.out)) (Kd.R_base ho0) hb); have n2_ := Aside0.mk (Kd.R_elder' (pr_ (rf4_ HO266.out BK269.out)) (Kd.R_base ho0) hb); have n3_ := Aside0.mk (Kd.R_lower (Kd.R_new' (Kd.R_new' (Kd.R_new' ho0 (Kd.R_lt (pr_ (rf4_ HO256.out BK269.out)))) (Kd.R_lt (pr_ (rf4_ HO261.out BK269.out)))) (Kd.R_lt (pr_ (rf4_ HO266.out BK269.out)))) (below_size (pb2_ HB.out GE251.out GE269.out))); have n4_ := Aside0.mk (blk_below (g := gb251) (o := .cells #[.int .i64 a0_0, .slice A0_1 l0_1.length c0_1, .int .i64 a0_2, .bool a0_3] 24 (0, 0)) (pp_ BK251.out) hb); have n5_ := Aside0.mk (blk_below (g := gb269) (o := .cells #[.int .i64 t263, .slice Ao24 t264.length co24, .int .i64 t267, .bool t268] 27 (0, 0)) (pp_ BK269.out) hb); have n6_ := Aside0.mk (below_step (pb2_ HB.out GE251.out GE269.out) hb); clear HO256; clear HO261; clear HO266; clear BK251; clear BK269; clear HB; have HO256 := n0_; have HO261 := n1_; have HO266 := n2_; have HO272 := n3_; have BK251 := n4_; have BK269 := n5_; have HB := n6_; clear n0_ n1_ n2_ n3_ n4_ n5_ n6_; (try clear hb); (try clear hb2); (try clear hk); (try clear hi); (try clear ho0)))
  (try simp only [Act.put, List.setIfInBounds_toArray, List.set_cons_zero, List.set_cons_succ])
  have H := HS_.out
  clear HS_
  replace H := Option.bind_eq_some_iff.mp H
  obtain ⟨t273, A270, H⟩ := H
  (try dsimp only at H)
  have A27 := Aside0.mk A270
  clear A270
  have HS_ := Aside0.mk H
  clear H
  have hnb28 := NB269_251.out
  have hnc28 := NB251_269.out
  obtain ⟨hcz29_0, hcz29_1, hcz29_2, hcz29_3, hfz29_0, hfz29_1, hfz29_2, hfz29_3⟩ := bc4_ BK269.out
  obtain ⟨Ao30, co30, eo30⟩ := Kd.R_slice HO272.out
  subst eo30
  go_upto_if 32 with (first | ((with_reducible refine gate_callee (f := 42) rfl ?_); refine goesL_ (some 29) rfl rfl Try.func42 (by kernel_rfl) rfl #[.agg #[.int .i64 t263, .slice Ao24 t264.length co24, .int .i64 t267, .bool t268], .slice Ao30 t270.length co30] rfl mp_ ?_; (with_reducible refine (impl_PassedStages.calls k t263 (fun k_ => some k_ = (.slice Ao24 t264.length co24 : Value).ownBlock) _ _ t264 t267 t268 _ _ t270 t273 _ ?side1 ?side2 ?side3 A27.out).mono ?_); (case side1 => exact Kd.R_V (Kd.R_tight rfl (Kd.R_types (Kd.R_types (HO266.out) BK251.out (by decide)) BK269.out (by decide)))); (case side2 => exact pc_ ((Kd.R_reads' HO272.out).2.2)); (case side3 => exact (Kd.R_reads' HO272.out).2.1); rintro e w31 ⟨rfl, hb⟩; refine ⟨_, rfl, ?_⟩; have n0_ := Aside0.mk (Kd.R_below (pr_ HO256.out) hb); have n1_ := Aside0.mk (Kd.R_below (pr_ HO261.out) hb); have n2_ := Aside0.mk (Kd.R_below (pr_ HO266.out) hb); have n3_ := Aside0.mk (Kd.R_below (pr_ HO272.out) hb); have n4_ := Aside0.mk (bb_ BK251.out hb); have n5_ := Aside0.mk (bb_ BK269.out hb); have n6_ := Aside0.mk (below_step (pb2_ HB.out GE251.out GE269.out) hb); clear HO256; clear HO261; clear HO266; clear HO272; clear BK251; clear BK269; clear HB; have HO256 := n0_; have HO261 := n1_; have HO266 := n2_; have HO272 := n3_; have BK251 := n4_; have BK269 := n5_; have HB := n6_; clear n0_ n1_ n2_ n3_ n4_ n5_ n6_; (try clear hb); (try clear hb2); (try clear hk); (try clear hi)))
  (try simp only [Act.put, List.setIfInBounds_toArray, List.set_cons_zero, List.set_cons_succ])
  have H := HS_.out
  clear HS_
  by_cases c32 : t273 = t262
  rotate_left
  · rw [if_neg c32] at H
    have c32b0 : (t273 == t262) = false := beq_eq_false_iff_ne.mpr c32
    have c32b1 : (t273 != t262) = true := bne_iff_ne.mpr c32
    (first | rw [c32b0] | (simp only [i64_w, i32_w]; rw [c32b0]) | rw [c32b1] | (have c_ := c32b1; rw [bne] at c_; rw [c_]; clear c_) | skip)
    obtain rfl := Option.some.inj H
    go_wp2
    go_ret
    exact ⟨er_, pb2_ HB.out GE251.out GE269.out⟩
  rw [if_pos c32] at H
  have c32b0 : (t273 == t262) = true := beq_iff_eq.mpr c32
  have c32b1 : (t273 != t262) = false := bne_eq_false_iff_eq.mpr c32
  clear c32
  (first | rw [c32b0] | (simp only [i64_w, i32_w]; rw [c32b0]) | rw [c32b1] | (have c_ := c32b1; rw [bne] at c_; rw [c_]; clear c_) | skip)
  replace H := Option.bind_eq_some_iff.mp H
  obtain ⟨⟨t274, t275, t278, t279⟩, A330, H⟩ := H
  (try dsimp only at H)
  have A33 := Aside0.mk A330
  clear A330
  replace H := Option.bind_eq_some_iff.mp H
  obtain ⟨t280, A340, H⟩ := H
  (try dsimp only at H)
  have A34 := Aside0.mk A340
  clear A340
  have HS_ := Aside0.mk H
  clear H
  try go_wp2
  have n0_ := Aside0.mk (Kd.R_drew HO256.out)
  have n1_ := Aside0.mk (Kd.R_drew HO261.out)
  have n2_ := Aside0.mk (Kd.R_drew HO266.out)
  have n3_ := Aside0.mk (Kd.R_drew HO272.out)
  have n4_ := Aside0.mk (blk_drew BK251.out)
  have n5_ := Aside0.mk (blk_drew BK269.out)
  have n6_ := Aside0.mk (below_drew1 HB.out)
  clear HO256
  clear HO261
  clear HO266
  clear HO272
  clear BK251
  clear BK269
  clear HB
  have HO256 := n0_
  have HO261 := n1_
  have HO266 := n2_
  have HO272 := n3_
  have BK251 := n4_
  have BK269 := n5_
  have HB := n6_
  clear n0_ n1_ n2_ n3_ n4_ n5_ n6_
  refine start_ (n := 5) (S := fun w' => w'.cell? ⟨gb269, 0, none⟩ = some (.int .i64 t263) ∧ w'.cell? ⟨gb269, 1, none⟩ = some (.slice Ao24 t264.length co24) ∧ w'.cell? ⟨gb269, 2, none⟩ = some (.int .i64 t267) ∧ w'.cell? ⟨gb269, 3, none⟩ = some (.bool t268) ∧ w'.cell? ⟨gb251, 0, none⟩ = some (.int .i64 a0_0) ∧ w'.cell? ⟨gb251, 1, none⟩ = some (.slice A0_1 l0_1.length c0_1) ∧ w'.cell? ⟨gb251, 2, none⟩ = some (.int .i64 a0_2) ∧ w'.cell? ⟨gb251, 3, none⟩ = some (.bool a0_3)) (ds := []) #[false, false, false, false, false] (by kernel_rfl) rfl rfl ⟨(blk_cell BK269.out 0).trans rfl, (blk_cell BK269.out 1).trans rfl, (blk_cell BK269.out 2).trans rfl, (blk_cell BK269.out 3).trans rfl, (blk_cell BK251.out 0).trans rfl, (blk_cell BK251.out 1).trans rfl, (blk_cell BK251.out 2).trans rfl, (blk_cell BK251.out 3).trans rfl⟩ (fun hHeld => ?_)
  generalize w31.drew = w35 at HO256 HO261 HO266 HO272 BK251 BK269 HB hHeld ⊢
  refine take_ (i := 0) (N := some 33) (v := ?_) (a' := ?_) #[true, false, false, false, false] rfl rfl (by kernel_rfl) (fun _ _ _ h => h) (Or.inl ⟨by rfl, ?_⟩) hHeld ?_ ?_
  rotate_left
  · rintro w' ⟨s0, s1, s2, s3, s4, s5, s6, s7⟩
    go_simp
    (try (simp only [Instr.field]; simp only [underlying, hu24, hu27]; go_simp; simp only [asAgg]; go_simp))
    with_reducible rfl
  rotate_left
  · simp only [Act.put, List.setIfInBounds_toArray, List.set_cons_zero, List.set_cons_succ, i64_w, i32_w]
    rfl
  refine take_ (i := 1) (N := some 34) (v := ?_) (a' := ?_) #[true, true, false, false, false] rfl rfl (by kernel_rfl) (fun _ _ _ h => h) (Or.inl ⟨by rfl, ?_⟩) hHeld ?_ ?_
  rotate_left
  · rintro w' ⟨s0, s1, s2, s3, s4, s5, s6, s7⟩
    go_simp
    (try (simp only [Instr.field]; simp only [underlying, hu24, hu27]; go_simp; simp only [asAgg]; go_simp))
    with_reducible rfl
  rotate_left
  · simp only [Act.put, List.setIfInBounds_toArray, List.set_cons_zero, List.set_cons_succ, i64_w, i32_w]
    rfl
  refine one_ (i := 2) (N := some 35) #[true, true, true, false, false] rfl rfl (by kernel_rfl) (by decide) (fun K hK => ?_)
  refine goes_ Try.func17 (by kernel_rfl) rfl #[.agg #[.int .i64 a0_0, .slice A0_1 l0_1.length c0_1, .int .i64 a0_2, .bool a0_3]] (by rfl) rfl rfl mp_ ?_
  with_reducible refine (laws_toRollout.calls k a0_0 _ _ l0_1 a0_2 a0_3 t274 t275 t278 t279 _ ?side1 ?side2 A33.out).mono ?_
  (case side1 => exact pc_ (Kd.C_below HR0_1.out HB.out))
  (case side2 => exact HC0_1.out)
  rintro e w36 ⟨v276, rfl, ho0, hb⟩
  refine ⟨_, rfl, ?_⟩
  have n0_ := Aside0.mk (Kd.R_elder' (pr_ HO256.out) (Kd.R_base ho0) hb)
  have n1_ := Aside0.mk (Kd.R_elder' (pr_ HO261.out) (Kd.R_base ho0) hb)
  have n2_ := Aside0.mk (Kd.R_elder' (pr_ HO266.out) (Kd.R_base ho0) hb)
  have n3_ := Aside0.mk (Kd.R_elder' (pr_ HO272.out) (Kd.R_base ho0) hb)
  have n4_ := Aside0.mk (Kd.R_lower (Kd.R_new' (Kd.R_new' (Kd.R_new' (Kd.R_new' ho0 (Kd.R_lt (pr_ HO256.out))) (Kd.R_lt (pr_ HO261.out))) (Kd.R_lt (pr_ HO266.out))) (Kd.R_lt (pr_ HO272.out))) (below_size (pb2_ HB.out GE251.out GE269.out)))
  have n5_ := Aside0.mk (bb_ BK251.out hb)
  have n6_ := Aside0.mk (bb_ BK269.out hb)
  have n7_ := Aside0.mk (below_step (pb2_ HB.out GE251.out GE269.out) hb)
  clear HO256
  clear HO261
  clear HO266
  clear HO272
  clear BK251
  clear BK269
  clear HB
  have HO256 := n0_
  have HO261 := n1_
  have HO266 := n2_
  have HO272 := n3_
  have HO277 := n4_
  have BK251 := n5_
  have BK269 := n6_
  have HB := n7_
  clear n0_ n1_ n2_ n3_ n4_ n5_ n6_ n7_
  (try clear hb)
  (try clear hb2)
  (try clear hk)
  (try clear hi)
  (try clear ho0)
  obtain ⟨Ao37, co37, eo37⟩ := Kd.R_slice HO277.out
  (first | subst eo37 | (injection eo37 with f1_ f2_ f3_; have f4_ := f1_.symm; have f5_ := f3_.symm; clear f1_ f2_ f3_; subst f4_; subst f5_))
  refine hK.out _ _ ⟨(blk_cell BK269.out 0).trans rfl, (blk_cell BK269.out 1).trans rfl, (blk_cell BK269.out 2).trans rfl, (blk_cell BK269.out 3).trans rfl, (blk_cell BK251.out 0).trans rfl, (blk_cell BK251.out 1).trans rfl, (blk_cell BK251.out 2).trans rfl, (blk_cell BK251.out 3).trans rfl⟩ (fun hHeld => ?_)
  clear hK K
  refine norm_ (a' := ?_) ?_ ?_
  rotate_left
  · show Act.put _ (some 35) _ = _
    simp only [Act.put, List.setIfInBounds_toArray, List.set_cons_zero, List.set_cons_succ, i64_w, i32_w]
    rfl
  refine one_ (i := 3) (N := some 36) #[true, true, true, true, false] rfl rfl (by kernel_rfl) (by decide) (fun K hK => ?_)
  refine goes_ Try.func19 (by kernel_rfl) rfl #[.agg #[.int .i64 t263, .slice Ao24 t264.length co24, .int .i64 t267, .bool t268], .agg #[.int .i64 t274, .slice Ao37 t275.length co37, .int .i64 t278, .bool t279]] (by rfl) rfl rfl mp_ ?_
  with_reducible refine (laws_eqRollout.calls k t263 _ _ t264 t267 t268 t274 _ _ t275 t278 t279 t280 _ ?side1 ?side2 ?side3 ?side4 A34.out).mono ?_
  (case side1 => exact pc_ ((Kd.R_reads' HO266.out).2.2))
  (case side2 => exact (Kd.R_reads' HO266.out).2.1)
  (case side3 => exact pc_ ((Kd.R_reads' HO277.out).2.2))
  (case side4 => exact (Kd.R_reads' HO277.out).2.1)
  rintro e w38 ⟨rfl, hb⟩
  refine ⟨_, rfl, ?_⟩
  have n0_ := Aside0.mk (Kd.R_below (pr_ HO256.out) hb)
  have n1_ := Aside0.mk (Kd.R_below (pr_ HO261.out) hb)
  have n2_ := Aside0.mk (Kd.R_below (pr_ HO266.out) hb)
  have n3_ := Aside0.mk (Kd.R_below (pr_ HO272.out) hb)
  have n4_ := Aside0.mk (Kd.R_below (pr_ HO277.out) hb)
  have n5_ := Aside0.mk (bb_ BK251.out hb)
  have n6_ := Aside0.mk (bb_ BK269.out hb)
  have n7_ := Aside0.mk (below_step (pb2_ HB.out GE251.out GE269.out) hb)
  clear HO256
  clear HO261
  clear HO266
  clear HO272
  clear HO277
  clear BK251
  clear BK269
  clear HB
  have HO256 := n0_
  have HO261 := n1_
  have HO266 := n2_
  have HO272 := n3_
  have HO277 := n4_
  have BK251 := n5_
  have BK269 := n6_
  have HB := n7_
  clear n0_ n1_ n2_ n3_ n4_ n5_ n6_ n7_
  (try clear hb)
  (try clear hb2)
  (try clear hk)
  (try clear hi)
  refine hK.out _ _ ⟨(blk_cell BK269.out 0).trans rfl, (blk_cell BK269.out 1).trans rfl, (blk_cell BK269.out 2).trans rfl, (blk_cell BK269.out 3).trans rfl, (blk_cell BK251.out 0).trans rfl, (blk_cell BK251.out 1).trans rfl, (blk_cell BK251.out 2).trans rfl, (blk_cell BK251.out 3).trans rfl⟩ (fun hHeld => ?_)
  clear hK K
  refine norm_ (a' := ?_) ?_ ?_
  rotate_left
  · show Act.put _ (some 36) _ = _
    simp only [Act.put, List.setIfInBounds_toArray, List.set_cons_zero, List.set_cons_succ, i64_w, i32_w]
    rfl
  refine pure_ (i := 4) (N := some 37) (v := ?_) (a' := ?_) #[true, true, true, true, true] rfl rfl (by kernel_rfl) (fun _ _ _ h => h) (Or.inl ⟨by rfl, ?_⟩) ?_ ?_
  rotate_left
  · intro w'
    go_simp
    (try (simp only [Instr.field]; simp only [underlying, hu24, hu27]; go_simp; simp only [asAgg]; go_simp))
    with_reducible rfl
  rotate_left
  · simp only [Act.put, List.setIfInBounds_toArray, List.set_cons_zero, List.set_cons_succ, i64_w, i32_w]
    rfl
  refine done_ (by kernel_rfl) ?_
  go_upto_if 37 with (fail)
  have H := HS_.out
  clear HS_
  by_cases c39 : t280 = true
  rotate_left
  · replace c39 := Bool.eq_false_iff.mpr c39
    subst c39
    rw [if_neg (show ¬ (false = true) by decide)] at H
    obtain rfl := Option.some.inj H
    go_wp2
    go_ret
    exact ⟨er_, pb2_ HB.out GE251.out GE269.out⟩
  subst c39
  rw [if_pos rfl] at H
  replace H := Option.bind_eq_some_iff.mp H
  obtain ⟨t281, A400, H⟩ := H
  (try dsimp only at H)
  have A40 := Aside0.mk A400
  clear A400
  replace H := Option.bind_eq_some_iff.mp H
  obtain ⟨t284, A410, H⟩ := H
  replace H : (if t284 = true then (some true) else (some false)) = some r := H
  have A41 := Aside0.mk A410
  clear A410
  have HS_ := Aside0.mk H
  clear H
  go_upto_if 42 with (first | ((with_reducible refine gate_callee (f := 41) rfl ?_); refine goesL_ (some 40) rfl rfl Try.func41 (by kernel_rfl) rfl #[.slice A1 l1.length c1] rfl mp_ ?_; (with_reducible refine (laws_toIntS.calls k _ _ l1 t281 _ ?side1 ?side2 A40.out).mono ?_); (case side1 => exact pc_ (Kd.C_below HR1.out HB.out)); (case side2 => exact HC1.out); rintro e w42 ⟨v282, rfl, ho0, hb⟩; refine ⟨_, rfl, ?_⟩; have n0_ := Aside0.mk (Kd.R_elder' (pr_ HO256.out) (Kd.R_base ho0) hb); have n1_ := Aside0.mk (Kd.R_elder' (pr_ HO261.out) (Kd.R_base ho0) hb); have n2_ := Aside0.mk (Kd.R_elder' (pr_ HO266.out) (Kd.R_base ho0) hb); have n3_ := Aside0.mk (Kd.R_elder' (pr_ HO272.out) (Kd.R_base ho0) hb); have n4_ := Aside0.mk (Kd.R_elder' (pr_ HO277.out) (Kd.R_base ho0) hb); have n5_ := Aside0.mk (Kd.R_lower (Kd.R_new' (Kd.R_new' (Kd.R_new' (Kd.R_new' (Kd.R_new' ho0 (Kd.R_lt (pr_ HO256.out))) (Kd.R_lt (pr_ HO261.out))) (Kd.R_lt (pr_ HO266.out))) (Kd.R_lt (pr_ HO272.out))) (Kd.R_lt (pr_ HO277.out))) (below_size (pb2_ HB.out GE251.out GE269.out))); have n6_ := Aside0.mk (bb_ BK251.out hb); have n7_ := Aside0.mk (bb_ BK269.out hb); have n8_ := Aside0.mk (below_step (pb2_ HB.out GE251.out GE269.out) hb); clear HO256; clear HO261; clear HO266; clear HO272; clear HO277; clear BK251; clear BK269; clear HB; have HO256 := n0_; have HO261 := n1_; have HO266 := n2_; have HO272 := n3_; have HO277 := n4_; have HO283 := n5_; have BK251 := n6_; have BK269 := n7_; have HB := n8_; clear n0_ n1_ n2_ n3_ n4_ n5_ n6_ n7_ n8_; (try clear hb); (try clear hb2); (try clear hk); (try clear hi); (try clear ho0); obtain ⟨Ao43, co43, eo43⟩ := Kd.R_slice HO283.out; subst eo43) | ((with_reducible refine gate_callee (f := 43) rfl ?_); refine goesL_ (some 41) rfl rfl Try.func43 (by kernel_rfl) rfl #[.slice Ao30 t270.length co30, .slice Ao43 t281.length co43] rfl mp_ ?_; (with_reducible refine (laws_eqIntS.calls k _ _ t270 _ _ t281 t284 _ ?side1 ?side2 ?side3 ?side4 A41.out).mono ?_); (case side1 => exact pc_ ((Kd.R_reads' HO272.out).2.2)); (case side2 => exact (Kd.R_reads' HO272.out).2.1); (case side3 => exact pc_ ((Kd.R_reads' HO283.out).2.2)); (case side4 => exact (Kd.R_reads' HO283.out).2.1); rintro e w' ⟨rfl, ⟨nd, rfl⟩⟩; refine ⟨_, rfl, ?_⟩))
  (try simp only [Act.put, List.setIfInBounds_toArray, List.set_cons_zero, List.set_cons_succ])
  have H := HS_.out
  clear HS_
  by_cases c44 : t284 = true
  rotate_left
  · replace c44 := Bool.eq_false_iff.mpr c44
    subst c44
    rw [if_neg (show ¬ (false = true) by decide)] at H
    obtain rfl := Option.some.inj H
    go_wp2
    go_ret
    exact ⟨er_, pb2_ HB.out GE251.out GE269.out⟩
  subst c44
  rw [if_pos rfl] at H
  obtain rfl := Option.some.inj H
  go_wp2
  go_ret
  exact ⟨er_, pb2_ HB.out GE251.out GE269.out⟩

/-- THE ONE PURE STATEMENT of laws_FnExactPassedStages: yours. -/
def laws_FnExactPassedStages.Pure : Prop := ∀ (x0 : S24) (x1 : List Int), Q24 x0 → (x1.length * 8 ≤ 140737488351232 ∧ ∀ y ∈ x1, (Lit.int .i64 y).wf = true) → ∃ k, laws_FnExactPassedStages.f k x0.f0 x0.f1 x0.f2 x0.f3 x1 = some true

end Go.Proofs.Ytlcmkgbabffmeaa.Print
